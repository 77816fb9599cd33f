import Derived.Test.YtonidbheohhgdaaGreatRows
import Derived.Test.YtonidbheohhgdaaGreatPureFnTogether
import Derived.Test.YtonidbheohhgdaaGreatEq
import Derived.Test.YtonidbheohhgdaaGreatEvD
import Derived.Test.YtonidbheohhgdaaGreatZt
import Derived.Test.YtonidbheohhgdaaGreatOk
import Derived.Test.YtonidbheohhgdaaGreatChecked
import Derived.WalkKit
import Derived.ProofKit
import Derived.OpenShut
import Derived.ShutString
import Derived.SizedLaws
import Derived.KernelRfl
namespace Go.Proofs.YtonidbheohhgdaaGreat.fnTogether
open Go Go.Proofs Go.Proofs.YtonidbheohhgdaaGreat Go.Proofs.YtonidbheohhgdaaGreat.Am Go.ChangeShapes Go.WideShapes Go.ChangeAt Go.RowKit
set_option maxHeartbeats 4000000
set_option linter.unusedVariables false
set_option linter.unusedSimpArgs false
set_option linter.defProp false
set_option maxRecDepth 100000
theorem own:ownKnob Tryz.prog.godebug=none:=by kernel_rfl
theorem laid:laidOutB Tryz.prog=true:=by kernel_rfl
theorem T_mixed:T.P.follows .mixedOrders=true:=by kernel_rfl
theorem i64_of{n:Int}(h:inK .i64 n):i64 n:=h
theorem T_mt:∀g K args x,T.mt g K args=some x→MC T.P g K args (·=x):=fun g K args x h=>(by have h1:none=some x:=h;cases h1)
theorem rd5:Rd Tryz.prog 5 QbJ (QzS .u8):=(Rd.int Tryz.underlying5).map (fun x=>x) (fun _=>rfl) (fun _ h=>h)
theorem rd22:Rd Tryz.prog 22 (fun xs:List Int=>[.imm 1 (xs.map QbJ)]) (okL (QzS .u8)):=Rd.slice (m:=1) Tryz.underlying22 (by kernel_rfl) (by decide) rd5 (fun _=>rfl)
theorem found(c:List Int)(h1:(okL (QzS .u8)) c):∃n,CP T n 4 [.imm 1 (c.map QbJ)]=some (.b true):=⟨_,by
 rw[show CP T (0+21) 4 _=_ from Qi0 0,QkI _ h1];rfl⟩
theorem lifted(os:Os)(started:os.Started)(H:Type)(enc:TypeId×Value→H) :
  ReturnsInHanded {} Tryz.checked os 4 .any (Rows.fnTogetherSpec.pre6 enc Tryz.prog Tryz.f4 Rows.fnTogetherRow.domain false) (Rows.fnTogetherSpec.post enc Tryz.prog Tryz.f4 false true false false):=by
 refine returnsInHanded_of_change_sized (C:=Tryz.checked) own started (by kernel_rfl) Tryz.func4
  (ChangeSpec.witness6 (enc:=enc) (C:=Tryz.checked) false ⟨#[],#[.slice none 0 0],[]⟩ 8 (by kernel_rfl) (by kernel_rfl) (by kernel_rfl) (by kernel_rfl)) ?_
 intro W base args ds gs before hval0 hW hcnd hsz0 _;have hval:∀(j:Nat) t v,Tryz.f4.params[j]?=some t→args[j]?=some v→Value.okWide Tryz.prog W .any base t v:=hval0;have hW':=hW;obtain⟨p,q,hA0,hV,rfl,hfz,hnd⟩:=hW;have hA:DataW.TrodAll enc Tryz.prog W 0 (fun _=>true) true Tryz.f4.params.toList args.toList ds p:=hA0
 rw[Tryz.params4]at hA hval;obtain⟨v1,vs1,d1,ds1,p1,q1,e1,rfl,rfl,k1,hA1⟩:=trodAll_cons hA;obtain⟨rfl,rfl,rfl⟩:=trodAll_nil hA1;obtain⟨rfl,rfl⟩:=trodVars_none hV;have hargs:args=#[v1]:=Array.toList_inj.1 e1;subst hargs;obtain⟨x1,o1,X1⟩:=(Rv.slice Tryz.underlying22 rd22).rd (hval 0 _ _ rfl rfl) k1;obtain⟨n,hcp⟩:=found x1 o1;have hX:XRs W FF EN [.imm 1 (x1.map QbJ)] [v1] []:=(by simp only[XRs];exact⟨v1,_,[],[],rfl,rfl,X1,⟨rfl,rfl⟩⟩)
 refine((QKb QOB T_mixed QRS QPg QOT T_mt hcp).law trivial hX).mono fun e W' ⟨he,bel⟩=>?_
 subst he;exact⟨_,rfl,_,_,_,[],_,[],hW',trodAll_mk1 (shut_bool Tryz.underlying4 _),trodAll_mk1 (Below.trod laid (by kernel_rfl) (of_decide_eq_true (by kernel_rfl)) k1 bel (fun x hx=>hW'.lt x (by simp[hx]))),rfl,bel.frame _,fun h=>by cases h⟩
end Go.Proofs.YtonidbheohhgdaaGreat.fnTogether
