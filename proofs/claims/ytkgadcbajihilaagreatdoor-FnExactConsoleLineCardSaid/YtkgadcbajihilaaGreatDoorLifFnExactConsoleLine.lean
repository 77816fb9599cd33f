import Derived.Test.YtkgadcbajihilaaGreatDoorRows
import Derived.Test.YtkgadcbajihilaaGreatDoorPureFnExactConsoleLine
import Derived.Test.YtkgadcbajihilaaGreatDoorEq
import Derived.Test.YtkgadcbajihilaaGreatDoorZt
import Derived.Test.YtkgadcbajihilaaGreatDoorTie
import Derived.Test.YtkgadcbajihilaaGreatDoorCards
import Derived.LaidMore
import Derived.Lay
import Derived.LaidHandle
import Derived.MakeChecks
import Derived.Stop.LaidErr
import Derived.Lib.LaidTab
import Derived.SevenTiedAt
import Derived.Test.YtkgadcbajihilaaGreatDoorZm
import Derived.Test.YtkgadcbajihilaaGreatDoorOk
import Derived.Test.YtkgadcbajihilaaGreatDoorChecked
import Derived.WalkKit
import Derived.ProofKit
import Derived.OpenShut
import Derived.ShutString
import Derived.SizedLaws
import Derived.KernelRfl
namespace Go.Proofs.YtkgadcbajihilaaGreatDoor.fnExactConsoleLine
open Go Go.Proofs Go.Proofs.YtkgadcbajihilaaGreatDoor Go.Proofs.YtkgadcbajihilaaGreatDoor.Am Go.ChangeShapes Go.WideShapes Go.ChangeAt Go.RowKit
set_option maxHeartbeats 4000000
set_option linter.unusedVariables false
set_option linter.unusedSimpArgs false
set_option linter.defProp false
set_option maxRecDepth 100000
theorem own:ownKnob Tryz.prog.godebug=none:=by kernel_rfl
theorem laid:laidOutB Tryz.prog=true:=by kernel_rfl
theorem T_mixed:T.P.follows .mixedOrders=true:=by kernel_rfl
theorem tens{W:World}(h:laidMetH Tryz.prog Rows.fnExactConsoleLineRow.laid W)(hS:W.ShapedOpen Tryz.prog):Wd.I W:=by
 rw[MakeChecks.laidMetH_plain _ _ _ (by kernel_rfl)]at h
 exact⟨Lib.tabIs_of_head Qgx (by kernel_rfl) Tryz.underlying335 Tryz.underlying321 (by kernel_rfl) (by kernel_rfl) h.tail.tail,Tryz.laysM146.s1_3 W hS⟩
theorem by_calls{a:Assume}{C:Checked}{os:Os}{f:FuncId}{fn:Func}{s:ChangeSpec}{conds:List PathCond}{apart fresh handsOn again:Bool}{X:World→Array Value→Prop}{H:Type}{enc:TypeId×Value→H}
  (hX:∀(w w':World) (args:Array Value),w.heap=w'.heap→X w args→X w' args)
  (own:ownKnob C.prog.godebug=none) (started:os.Started) (noInit:C.prog.inits.idxOf? f=none) (hfn:C.prog.funcs[f]?=some fn)
  (witness:∃(w:World) (tape:Tape) (i:Input),w.os=os∧(w.forCall tape i).Shaped C.prog∧i.vars=[]∧Input.okWide C.prog (w.forCall tape i) .any w.heap.size f i ∧
   ((s.pre enc C.prog fn conds apart (w.forCall tape i).memory i.args∧X (w.forCall tape i).memory i.args)∧sizedMet enc C.prog fn (OpenSpec.ofChange s) apart (w.forCall tape i).memory i.args)∧a.holds C.prog (lone (Frame.enter C.prog f i.args .normal) [] (w.forCall tape i)))
  (contract:∀(W:World) (base:Nat) (args:Array Value) (ds gs:List (DataW H)) (before:List MemPlace),
   (∀(j:Nat) t v,fn.params[j]?=some t→args[j]?=some v→Value.okWide C.prog W .any base t v) →
   DataW.Whole enc C.prog fn.params.toList s.vars apart W args.toList ds gs before →
   X W args→W.ShapedOpen C.prog →
   Calls C.prog f args W λe W'=>∃v,e=.returned v∧s.post enc C.prog fn apart fresh handsOn again W args v W') :
  ReturnsInHanded a C os f .any (λw args=>(s.pre enc C.prog fn conds apart w args∧X w args)∧sizedMet enc C.prog fn (OpenSpec.ofChange s) apart w args) (s.post enc C.prog fn apart fresh handsOn again):=by
 refine returnsInHanded_of_calls own started noInit witness λw tape i _ hS _ hok hpre _=>?_
 obtain⟨_,_,_,fn',hfn',_,_,_,_,hval⟩:=hok;obtain rfl:=Option.some.inj (hfn'.symm.trans hfn);obtain⟨⟨⟨ds,gs,before,hw,_⟩,hx⟩,_⟩:=hpre;refine(contract (w.forCall tape i) w.heap.size i.args ds gs before hval (DataW.Whole.of_heap (w':=w.forCall tape i) (by rfl) hw) (hX _ _ _ (by rfl) hx) hS).mono λe W' ⟨v,he,hp⟩=>?_
 subst he;exact ChangeSpec.post_blind hp
theorem i64_of{n:Int}(h:inK .i64 n):i64 n:=h
theorem T_mt:∀g K args x,T.mt g K args=some x→MC T.P g K args (·=x):=QkC (tb:=[(229,(4,32)),(305,(8,64)),(306,(3,40)),(311,(5,40))]) (List.forall_mem_cons.2 ⟨QnQ,List.forall_mem_cons.2 ⟨Qrx,List.forall_mem_cons.2 ⟨Qmp,List.forall_mem_cons.2 ⟨Qo4,λ_ h=>by cases h⟩⟩⟩⟩)
theorem rd3:Rd Tryz.prog 3 Q9 i64:=(Rd.int Tryz.underlying3).map (λx=>x) (λ_=>rfl) (λ_ h=>i64_of h)
theorem rd156:Rd Tryz.prog 156 CW pM:=(Rd.struct (ts:=[(3,1),(3,1),(3,1),(3,1),(3,1)]) Tryz.underlying156 (by kernel_rfl) (by kernel_rfl) (Rf.cons rd3 (Rf.cons rd3 (Rf.cons rd3 (Rf.cons rd3 (Rf.cons rd3 (Rf.nil _))))))).map (λx=>⟨x.1,x.2.1,x.2.2.1,x.2.2.2.1,x.2.2.2.2.1⟩) (λ_=>rfl) (λ_ h=>⟨h.1,h.2.1,h.2.2.1,h.2.2.2.1,h.2.2.2.2.1⟩)
theorem rd158:Rd Tryz.prog 158 Vn me:=(Rd.struct (ts:=[(156,5),(3,1),(3,1),(3,1)]) Tryz.underlying158 (by kernel_rfl) (by kernel_rfl) (Rf.cons rd156 (Rf.cons rd3 (Rf.cons rd3 (Rf.cons rd3 (Rf.nil _)))))).map (λx=>⟨x.1,x.2.1,x.2.2.1,x.2.2.2.1⟩) (λ_=>rfl) (λ_ h=>⟨h.1,h.2.1,h.2.2.1,h.2.2.2.1⟩)
theorem rd22:Rd Tryz.prog 22 (λxs:List QB=>[.imm 8 (xs.map Vn)]) (ft me):=Rd.slice (m:=8) Tryz.underlying22 (by kernel_rfl) (by decide) rd158 (λ_=>rfl)
theorem rd276:Rd Tryz.prog 276 Xb mu:=(Rd.struct (ts:=[(3,1),(3,1)]) Tryz.underlying276 (by kernel_rfl) (by kernel_rfl) (Rf.cons rd3 (Rf.cons rd3 (Rf.nil _)))).map (λx=>⟨x.1,x.2.1⟩) (λ_=>rfl) (λ_ h=>⟨h.1,h.2.1⟩)
theorem rd113:Rd Tryz.prog 113 (λxs:List Mark=>[.imm 2 (xs.map Xb)]) (ft mu):=Rd.slice (m:=2) Tryz.underlying113 (by kernel_rfl) (by decide) rd276 (λ_=>rfl)
theorem rd115:Rd Tryz.prog 115 VC Nj:=(Rd.struct (ts:=[(3,1),(113,1),(3,1)]) Tryz.underlying115 (by kernel_rfl) (by kernel_rfl) (Rf.cons rd3 (Rf.cons rd113 (Rf.cons rd3 (Rf.nil _))))).map (λx=>⟨x.1,x.2.1,x.2.2.1⟩) (λ_=>rfl) (λ_ h=>⟨h.1,h.2.1,h.2.2.1⟩)
theorem rd23:Rd Tryz.prog 23 (λxs:List Qm=>[.imm 3 (xs.map VC)]) (ft Nj):=Rd.slice (m:=3) Tryz.underlying23 (by kernel_rfl) (by decide) rd115 (λ_=>rfl)
theorem rd163:Rd Tryz.prog 163 VA lY:=(Rd.struct (ts:=[(3,1),(3,1),(3,1)]) Tryz.underlying163 (by kernel_rfl) (by kernel_rfl) (Rf.cons rd3 (Rf.cons rd3 (Rf.cons rd3 (Rf.nil _))))).map (λx=>⟨x.1,x.2.1,x.2.2.1⟩) (λ_=>rfl) (λ_ h=>⟨h.1,h.2.1,h.2.2.1⟩)
theorem rd24:Rd Tryz.prog 24 (λxs:List Qr=>[.imm 3 (xs.map VA)]) (ft lY):=Rd.slice (m:=3) Tryz.underlying24 (by kernel_rfl) (by decide) rd163 (λ_=>rfl)
theorem rd165:Rd Tryz.prog 165 QZ ij:=(Rd.struct (ts:=[(3,1),(3,1),(3,1),(3,1),(3,1)]) Tryz.underlying165 (by kernel_rfl) (by kernel_rfl) (Rf.cons rd3 (Rf.cons rd3 (Rf.cons rd3 (Rf.cons rd3 (Rf.cons rd3 (Rf.nil _))))))).map (λx=>⟨x.1,x.2.1,x.2.2.1,x.2.2.2.1,x.2.2.2.2.1⟩) (λ_=>rfl) (λ_ h=>⟨h.1,h.2.1,h.2.2.1,h.2.2.2.1,h.2.2.2.2.1⟩)
theorem rd25:Rd Tryz.prog 25 (λxs:List Qu=>[.imm 5 (xs.map QZ)]) (ft ij):=Rd.slice (m:=5) Tryz.underlying25 (by kernel_rfl) (by decide) rd165 (λ_=>rfl)
theorem rd167:Rd Tryz.prog 167 Vq gg:=(Rd.struct (ts:=[(3,1),(3,1),(3,1),(3,1)]) Tryz.underlying167 (by kernel_rfl) (by kernel_rfl) (Rf.cons rd3 (Rf.cons rd3 (Rf.cons rd3 (Rf.cons rd3 (Rf.nil _)))))).map (λx=>⟨x.1,x.2.1,x.2.2.1,x.2.2.2.1⟩) (λ_=>rfl) (λ_ h=>⟨h.1,h.2.1,h.2.2.1,h.2.2.2.1⟩)
theorem rd26:Rd Tryz.prog 26 (λxs:List Qp=>[.imm 4 (xs.map Vq)]) (ft gg):=Rd.slice (m:=4) Tryz.underlying26 (by kernel_rfl) (by decide) rd167 (λ_=>rfl)
theorem rd171:Rd Tryz.prog 171 Vv mY:=(Rd.struct (ts:=[(3,1),(3,1),(3,1),(3,1),(3,1)]) Tryz.underlying171 (by kernel_rfl) (by kernel_rfl) (Rf.cons rd3 (Rf.cons rd3 (Rf.cons rd3 (Rf.cons rd3 (Rf.cons rd3 (Rf.nil _))))))).map (λx=>⟨x.1,x.2.1,x.2.2.1,x.2.2.2.1,x.2.2.2.2.1⟩) (λ_=>rfl) (λ_ h=>⟨h.1,h.2.1,h.2.2.1,h.2.2.2.1,h.2.2.2.2.1⟩)
theorem rd27:Rd Tryz.prog 27 (λxs:List Hand=>[.imm 5 (xs.map Vv)]) (ft mY):=Rd.slice (m:=5) Tryz.underlying27 (by kernel_rfl) (by decide) rd171 (λ_=>rfl)
theorem rd175:Rd Tryz.prog 175 Vx gA:=(Rd.struct (ts:=[(3,1),(3,1),(3,1),(3,1)]) Tryz.underlying175 (by kernel_rfl) (by kernel_rfl) (Rf.cons rd3 (Rf.cons rd3 (Rf.cons rd3 (Rf.cons rd3 (Rf.nil _)))))).map (λx=>⟨x.1,x.2.1,x.2.2.1,x.2.2.2.1⟩) (λ_=>rfl) (λ_ h=>⟨h.1,h.2.1,h.2.2.1,h.2.2.2.1⟩)
theorem rd28:Rd Tryz.prog 28 (λxs:List Entry=>[.imm 4 (xs.map Vx)]) (ft gA):=Rd.slice (m:=4) Tryz.underlying28 (by kernel_rfl) (by decide) rd175 (λ_=>rfl)
theorem rd30:Rd Tryz.prog 30 Va T9:=(Rd.struct (ts:=[(3,1),(22,1),(23,1),(24,1),(25,1),(26,1),(27,1),(28,1),(3,1)]) Tryz.underlying30 (by kernel_rfl) (by kernel_rfl) (Rf.cons rd3 (Rf.cons rd22 (Rf.cons rd23 (Rf.cons rd24 (Rf.cons rd25 (Rf.cons rd26 (Rf.cons rd27 (Rf.cons rd28 (Rf.cons rd3 (Rf.nil _))))))))))).map (λx=>⟨x.1,x.2.1,x.2.2.1,x.2.2.2.1,x.2.2.2.2.1,x.2.2.2.2.2.1,x.2.2.2.2.2.2.1,x.2.2.2.2.2.2.2.1,x.2.2.2.2.2.2.2.2.1⟩) (λ_=>rfl) (λ_ h=>⟨h.1,h.2.1,h.2.2.1,h.2.2.2.1,h.2.2.2.2.1,h.2.2.2.2.2.1,h.2.2.2.2.2.2.1,h.2.2.2.2.2.2.2.1,h.2.2.2.2.2.2.2.2.1⟩)
theorem found(a:Ql)(h1:T9 a)(a2:List UInt8)(h2:jL a2):∃n,CP T n 3 [.agg (Va a),.s a2]=some (.b true):=⟨_,by
 rw[show CP T (0+16) 3 _=_ from KL 0 _,L3 _ _ h1 h2];rfl⟩
theorem lifted(os:Os)(started:os.Started)(H:Type)(enc:TypeId×Value→H) :
  ReturnsInHanded {} Tryz.checked os 3 .any (λw args=>(Rows.fnExactConsoleLineSpec.pre enc Tryz.prog Tryz.f3 [] false w args∧laidMetH Tryz.prog Rows.fnExactConsoleLineRow.laid w)∧sizedMet enc Tryz.prog Tryz.f3 (OpenSpec.ofChange Rows.fnExactConsoleLineSpec) false w args)
   (Rows.fnExactConsoleLineSpec.post enc Tryz.prog Tryz.f3 false true false false):=by
 refine by_calls (C:=Tryz.checked) (X:=λw _=>laidMetH Tryz.prog Rows.fnExactConsoleLineRow.laid w) (λ_ _ _ hh h=>h.of_heap hh) own started (by kernel_rfl) Tryz.func3
  (ChangeSpec.witness_shaped (enc:=enc) (C:=Tryz.checked) (os:=os) (X:=λw _=>laidMetH Tryz.prog Rows.fnExactConsoleLineRow.laid w) false (World.laidAll Tryz.prog os Rows.fnExactConsoleLineRow.laid) #[.agg #[.int .i64 0,.slice none 0 0,.slice none 0 0,.slice none 0 0,.slice none 0 0,.slice none 0 0,.slice none 0 0,.slice none 0 0,.int .i64 0],.string ⟨#[]⟩] 8 (World.laidAll_os _ _ _) (World.shaped_of_ZipB (by kernel_rfl) (by kernel_rfl)) (by kernel_rfl) (by kernel_rfl) (by kernel_rfl) (by rw[MakeChecks.laidMetH_plain _ _ _ (by kernel_rfl)];exact laidMet_laidAll _ (by kernel_rfl) (by kernel_rfl))) ?_
 intro W base args ds gs before hval0 hW hL hS;have hval:∀(j:Nat) t v,Tryz.f3.params[j]?=some t→args[j]?=some v→Value.okWide Tryz.prog W .any base t v:=hval0;have hW':=hW;obtain⟨p,q,hA0,hV,rfl,hfz,hnd⟩:=hW;have hA:DataW.TrodAll enc Tryz.prog W 0 (λ_=>true) true Tryz.f3.params.toList args.toList ds p:=hA0
 rw[Tryz.params3]at hA hval;obtain⟨v1,vs1,d1,ds1,p1,q1,e1,rfl,rfl,k1,hA1⟩:=trodAll_cons hA;obtain⟨v2,vs2,d2,ds2,p2,q2,e2,rfl,rfl,k2,hA2⟩:=trodAll_cons hA1;subst e2;obtain⟨rfl,rfl,rfl⟩:=trodAll_nil hA2;obtain⟨rfl,rfl⟩:=trodVars_none hV;have hargs:args=#[v1,v2]:=Array.toList_inj.1 e1;subst hargs;obtain⟨x1,o1,X1⟩:=(Rv.struct Tryz.underlying30 rd30).rd (hval 0 _ _ rfl rfl) k1;obtain⟨x2,o2,X2⟩:=(Rv.str Tryz.underlying9).rd (hval 1 _ _ rfl rfl) k2;obtain⟨n,hcp⟩:=found x1 o1 x2 o2;have hX:XRs W FF EN [.agg (Va x1),.s x2] [v1,v2] []:=(by simp only[XRs];exact⟨v1,_,[],[],rfl,rfl,X1,⟨v2,_,[],[],rfl,rfl,X2,⟨rfl,rfl⟩⟩⟩)
 refine((Qp8 Qyo T_mixed QxC Qym Quc T_mt hcp).law (tens hL hS) hX).mono λe W' ⟨he,bel⟩=>?_
 subst he;exact⟨_,rfl,_,_,_,[],_,[],hW',trodAll_mk1 (shut_bool Tryz.underlying4 _),trodAll_mk2 (Below.trod laid (by kernel_rfl) (of_decide_eq_true (by kernel_rfl)) k1 bel (λx hx=>hW'.lt x (by simp[hx]))) (Below.trod laid (by kernel_rfl) (of_decide_eq_true (by kernel_rfl)) k2 bel (λx hx=>hW'.lt x (by simp[hx]))),rfl,bel.frame _,λh=>by cases h⟩
end Go.Proofs.YtkgadcbajihilaaGreatDoor.fnExactConsoleLine
