import Derived.Test.YtfhnbabcbhgffaaGreatDoorRows
import Derived.Test.YtfhnbabcbhgffaaGreatDoorPureFnConsole
import Derived.Test.YtfhnbabcbhgffaaGreatDoorEq
import Derived.Test.YtfhnbabcbhgffaaGreatDoorZt
import Derived.Test.YtfhnbabcbhgffaaGreatDoorTie
import Derived.Test.YtfhnbabcbhgffaaGreatDoorCards
import Derived.LaidMore
import Derived.Lay
import Derived.LaidHandle
import Derived.MakeChecks
import Derived.Stop.LaidErr
import Derived.Lib.LaidTab
import Derived.SevenTiedAt
import Derived.Test.YtfhnbabcbhgffaaGreatDoorZm
import Derived.Test.YtfhnbabcbhgffaaGreatDoorOk
import Derived.Test.YtfhnbabcbhgffaaGreatDoorChecked
import Derived.WalkKit
import Derived.ProofKit
import Derived.OpenShut
import Derived.ShutString
import Derived.SizedLaws
import Derived.KernelRfl
namespace Go.Proofs.YtfhnbabcbhgffaaGreatDoor.fnConsole
open Go Go.Proofs Go.Proofs.YtfhnbabcbhgffaaGreatDoor Go.Proofs.YtfhnbabcbhgffaaGreatDoor.Am Go.ChangeShapes Go.WideShapes Go.ChangeAt Go.RowKit
set_option maxHeartbeats 4000000
set_option linter.unusedVariables false
set_option linter.unusedSimpArgs false
set_option linter.defProp false
set_option maxRecDepth 100000
theorem own:ownKnob Tryz.prog.godebug=none:=by kernel_rfl
theorem laid:laidOutB Tryz.prog=true:=by kernel_rfl
theorem T_mixed:T.P.follows .mixedOrders=true:=by kernel_rfl
theorem tens{W:World}(h:laidMetH Tryz.prog Rows.fnConsoleRow.laid W)(hS:W.ShapedOpen Tryz.prog):Wd.I W:=by
 rw[MakeChecks.laidMetH_plain _ _ _ (by kernel_rfl)]at h
 exact⟨Lib.tabIs_of_head QbU (by kernel_rfl) Tryz.underlying291 Tryz.underlying277 (by kernel_rfl) (by kernel_rfl) h.tail.tail,Tryz.laysM146.s1_3 W hS⟩
theorem by_calls{a:Assume}{C:Checked}{os:Os}{f:FuncId}{fn:Func}{s:ChangeSpec}{conds:List PathCond}{apart fresh handsOn again:Bool}{X:World→Array Value→Prop}{H:Type}{enc:TypeId×Value→H}
  (hX:∀(w w':World) (args:Array Value),w.heap=w'.heap→X w args→X w' args)
  (own:ownKnob C.prog.godebug=none) (started:os.Started) (noInit:C.prog.inits.idxOf? f=none) (hfn:C.prog.funcs[f]?=some fn)
  (witness:∃(w:World) (tape:Tape) (i:Input),w.os=os∧(w.forCall tape i).Shaped C.prog∧i.vars=[]∧Input.okWide C.prog (w.forCall tape i) .any w.heap.size f i ∧
   ((s.pre enc C.prog fn conds apart (w.forCall tape i).memory i.args∧X (w.forCall tape i).memory i.args)∧sizedMet enc C.prog fn (OpenSpec.ofChange s) apart (w.forCall tape i).memory i.args)∧a.holds C.prog (lone (Frame.enter C.prog f i.args .normal) [] (w.forCall tape i)))
  (contract:∀(W:World) (base:Nat) (args:Array Value) (ds gs:List (DataW H)) (before:List MemPlace),
   (∀(j:Nat) t v,fn.params[j]?=some t→args[j]?=some v→Value.okWide C.prog W .any base t v) →
   DataW.Whole enc C.prog fn.params.toList s.vars apart W args.toList ds gs before →
   X W args→W.ShapedOpen C.prog →
   Calls C.prog f args W λe W'=>∃v,e=.returned v∧s.post enc C.prog fn apart fresh handsOn again W args v W') :
  ReturnsInHanded a C os f .any (λw args=>(s.pre enc C.prog fn conds apart w args∧X w args)∧sizedMet enc C.prog fn (OpenSpec.ofChange s) apart w args) (s.post enc C.prog fn apart fresh handsOn again):=by
 refine returnsInHanded_of_calls own started noInit witness λw tape i _ hS _ hok hpre _=>?_
 obtain⟨_,_,_,fn',hfn',_,_,_,_,hval⟩:=hok;obtain rfl:=Option.some.inj (hfn'.symm.trans hfn);obtain⟨⟨⟨ds,gs,before,hw,_⟩,hx⟩,_⟩:=hpre;refine(contract (w.forCall tape i) w.heap.size i.args ds gs before hval (DataW.Whole.of_heap (w':=w.forCall tape i) (by rfl) hw) (hX _ _ _ (by rfl) hx) hS).mono λe W' ⟨v,he,hp⟩=>?_
 subst he;exact ChangeSpec.post_blind hp
theorem i64_of{n:Int}(h:inK .i64 n):i64 n:=h
theorem T_mt:∀g K args x,T.mt g K args=some x→MC T.P g K args (·=x):=Qgk (tb:=[(139,(4,32)),(212,(8,64)),(213,(3,40)),(218,(5,40))]) (List.forall_mem_cons.2 ⟨QkU,List.forall_mem_cons.2 ⟨Qg0,List.forall_mem_cons.2 ⟨Qg5,List.forall_mem_cons.2 ⟨Qna,λ_ h=>by cases h⟩⟩⟩⟩)
theorem rd5:Rd Tryz.prog 5 Hn (xJ .u8):=(Rd.int Tryz.underlying5).map (λx=>x) (λ_=>rfl) (λ_ h=>h)
theorem rd22:Rd Tryz.prog 22 (λxs:List Int=>[.imm 1 (xs.map Hn)]) (okL (xJ .u8)):=Rd.slice (m:=1) Tryz.underlying22 (by kernel_rfl) (by decide) rd5 (λ_=>rfl)
theorem found(c:List Int)(h1:(okL (xJ .u8)) c):∃n,CP T n 3 [.imm 1 (c.map Hn)]=some (.b true):=⟨_,by
 rw[show CP T (0+18) 3 _=_ from Tz 0,YU _ h1];rfl⟩
theorem lifted(os:Os)(started:os.Started)(H:Type)(enc:TypeId×Value→H) :
  ReturnsInHanded {} Tryz.checked os 3 .any (λw args=>(Rows.fnConsoleSpec.pre enc Tryz.prog Tryz.f3 [] false w args∧laidMetH Tryz.prog Rows.fnConsoleRow.laid w)∧sizedMet enc Tryz.prog Tryz.f3 (OpenSpec.ofChange Rows.fnConsoleSpec) false w args)
   (Rows.fnConsoleSpec.post enc Tryz.prog Tryz.f3 false true false false):=by
 refine by_calls (C:=Tryz.checked) (X:=λw _=>laidMetH Tryz.prog Rows.fnConsoleRow.laid w) (λ_ _ _ hh h=>h.of_heap hh) own started (by kernel_rfl) Tryz.func3
  (ChangeSpec.witness_shaped (enc:=enc) (C:=Tryz.checked) (os:=os) (X:=λw _=>laidMetH Tryz.prog Rows.fnConsoleRow.laid w) false (World.laidAll Tryz.prog os Rows.fnConsoleRow.laid) #[.slice none 0 0] 8 (World.laidAll_os _ _ _) (World.shaped_of_ZipB (by kernel_rfl) (by kernel_rfl)) (by kernel_rfl) (by kernel_rfl) (by kernel_rfl) (by rw[MakeChecks.laidMetH_plain _ _ _ (by kernel_rfl)];exact laidMet_laidAll _ (by kernel_rfl) (by kernel_rfl))) ?_
 intro W base args ds gs before hval0 hW hL hS;have hval:∀(j:Nat) t v,Tryz.f3.params[j]?=some t→args[j]?=some v→Value.okWide Tryz.prog W .any base t v:=hval0;have hW':=hW;obtain⟨p,q,hA0,hV,rfl,hfz,hnd⟩:=hW;have hA:DataW.TrodAll enc Tryz.prog W 0 (λ_=>true) true Tryz.f3.params.toList args.toList ds p:=hA0
 rw[Tryz.params3]at hA hval;obtain⟨v1,vs1,d1,ds1,p1,q1,e1,rfl,rfl,k1,hA1⟩:=trodAll_cons hA;obtain⟨rfl,rfl,rfl⟩:=trodAll_nil hA1;obtain⟨rfl,rfl⟩:=trodVars_none hV;have hargs:args=#[v1]:=Array.toList_inj.1 e1;subst hargs;obtain⟨x1,o1,X1⟩:=(Rv.slice Tryz.underlying22 rd22).rd (hval 0 _ _ rfl rfl) k1;obtain⟨n,hcp⟩:=found x1 o1;have hX:XRs W FF EN [.imm 1 (x1.map Hn)] [v1] []:=(by simp only[XRs];exact⟨v1,_,[],[],rfl,rfl,X1,⟨rfl,rfl⟩⟩)
 refine((QlS QrA T_mixed QpN QpT Qou T_mt hcp).law (tens hL hS) hX).mono λe W' ⟨he,bel⟩=>?_
 subst he;exact⟨_,rfl,_,_,_,[],_,[],hW',trodAll_mk1 (shut_bool Tryz.underlying4 _),trodAll_mk1 (Below.trod laid (by kernel_rfl) (of_decide_eq_true (by kernel_rfl)) k1 bel (λx hx=>hW'.lt x (by simp[hx]))),rfl,bel.frame _,λh=>by cases h⟩
end Go.Proofs.YtfhnbabcbhgffaaGreatDoor.fnConsole
