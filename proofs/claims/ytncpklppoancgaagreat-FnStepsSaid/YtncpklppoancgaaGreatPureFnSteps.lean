import Derived.Test.YtncpklppoancgaaGreatPz6
namespace Go.Proofs.YtncpklppoancgaaGreat
open Go
set_option linter.unusedVariables false
set_option linter.unusedSimpArgs false
theorem Qc2 {a : House} {p : House → Prop} {x y : Option (House × Bool)} (h : ∃ r,x = some r ∧ y = some r ∧ Qg r.1) (ha : Qg a) (hq : Qd a x) (hd : Dd p x) :
  ∃ r,y = some r ∧ Qg r.1 ∧ (r.2 = true → QD r.1 = some true ∧ Vv a = some true ∧ Vv r.1 = some true ∧ p r.1) ∧ (r.2 = false → Q9 a r.1 = some true):=by
 obtain ⟨r,r1,r2,r3⟩:=h
 refine ⟨r,r2,r3,fun h=>?_,fun h=>?_⟩
 ·obtain ⟨v1,v2⟩:=(hq r r1).1 h
  exact ⟨Qn8 r.1 r3 v2,v1,v2,hd r r1 h⟩
 ·rw [(hq r r1).2 h]; exact QwC a ha
theorem Qdc {a b : House} {d : Bool} (h : d = false → Q9 a b = some true) : (bif d then some true else (Q9 a b).bind fun r=>(bif r then some true else some false)) = some true:=by
 cases d with
 | true=>rfl
 | false=>rw [h rfl]; rfl
theorem QvX {a b : House} {d : Bool} (h : d = false → Q9 a b = some true) : (bif d then some true else (Q9 a b).bind fun r=>some r) = some true:=by
 cases d with
 | true=>rfl
 | false=>rw [h rfl]; rfl
theorem Qrl {o : House} (ho : Qg o) (t : Int) (b : Bool) (h : decide (t ∈ ((o.Finds.filter fun x=>Ji o.Slots x.Thing.Id).map fun x=>x.Thing.Id)) = b) : ∃ l,Jq o = some l ∧ V6 l t = some b:=by
 refine ⟨_,QG8 o ho.1 ho.2.2.1,?_⟩
 rw [QwT _ _ (Nat.le_trans (QwF o) ho.1),h]
theorem QHk {a o : House} {t d : Int} (ho : Qg o) (h : Out a t d o) : ∃ l,Jq o = some l ∧ V6 l t = some false:=Qrl ho t false (decide_eq_false (QwL o t h.1))
theorem QL1 {a o : House} {t d : Int} (ho : Qg o) (h : Out a t d o) : Qbc o.Chain t = (J5 d).bind fun r=>some r:=by
 obtain ⟨_,w,s,e⟩:=h
 have hl : o.Chain.length ≤ 1048576:=ho.2.2.2.2.2.1
 rw [e] at hl ⊢
 exact Qtw a.Chain ⟨t,d,w,a.Now,s⟩ hl
theorem Qpt (c : List Int) (h1 : (okL (QCH .u8)) c) : Qeo c = some true:=by
 unfold Qeo QiY
 simp only [Option.bind_some]
 by_cases hb : 1048576 < ln c
 ·rw [decide_eq_true hb]; rfl
 rw [decide_eq_false hb]
 rw [Vw] at hb
 have hc : c.length ≤ 1048576:=by omega
 obtain ⟨r2,d1,a1,a1'⟩:=QxL c hc
 obtain ⟨r4,d2,a2⟩:=QvL c hc
 obtain ⟨r6,d3,a3⟩:=Qsw c hc
 obtain ⟨r8,d4,a4⟩:=QwJ c hc
 obtain ⟨r10,d5,a5,a5'⟩:=Qz8 c hc
 obtain ⟨r12,d6,a6⟩:=Qwk c hc
 obtain ⟨r14,d7,a7⟩:=Qy3 c hc
 obtain ⟨r3,i1,s1,t1,f1⟩:=Qc2 (Qr9 r2.1 r2.2.1 r2.2.2.1 r2.2.2.2 a1 a1') a1 (Qwv _ _ _ _ a1) (QPY r2.1 r2.2.1 r2.2.2.1 r2.2.2.2 a1)
 obtain ⟨r5,i2,s2,t2,f2⟩:=Qc2 (Qod r4.1 r4.2.1 r4.2.2.1 r4.2.2.2 a2) a2 (Qtq _ _ _ _ a2) (QIf r4.1 r4.2.1 r4.2.2.1 r4.2.2.2 a2)
 obtain ⟨r7,i3,s3,t3,f3⟩:=Qc2 (p:=fun _=>True) (QiM r6.1 r6.2.1 r6.2.2 a3) a3 (Qqp _ _ _ a3) (fun _ _ _=>trivial)
 obtain ⟨r9,i4,s4,t4,f4⟩:=Qc2 (QoN r8.1 r8.2 a4) a4 (QsB _ _ a4) (QGe r8.1 r8.2 a4)
 obtain ⟨r11,i5,s5,t5,f5⟩:=Qc2 (Qw8 r10.1 r10.2.1 r10.2.2 a5 a5') a5 (Qw5 _ _ _ a5) (QJQ r10.1 r10.2.1 r10.2.2 a5 a5')
 obtain ⟨r13,i6,s6,t6,f6⟩:=Qc2 (Qwj r12.1 r12.2 a6) a6 (Qte _ _ a6) (QHi r12.1 r12.2 a6)
 obtain ⟨r15,i7,s7,t7,f7⟩:=Qc2 (Qqo r14.1 r14.2 a7) a7 (Qwz _ _ a7) (QK4 r14.1 r14.2 a7)
 have k7 : (bif r15.2 then (QD r15.1).bind fun r=>some ((!r) || (!decide (r15.1.Now = w64 (r14.1.Now + r14.2)))) else some false) = some false:=by
  cases h : r15.2 with
  | false=>rfl
  | true =>
   obtain ⟨g1,_,_,g2⟩:=t7 h
   rw [g1,g2]; simp
 have k6 : (bif r13.2 then (QD r13.1).bind fun r=>(bif (!r) then some true else (Jq r13.1).bind fun r2=>(V6 r2 r12.2).bind fun r3=>(bif r3 then some true else some false)) else some false) = some false:=by
  cases h : r13.2 with
  | false=>rfl
  | true =>
   obtain ⟨g1,_,_,g2⟩:=t6 h
   obtain ⟨l,l1,l2⟩ : ∃ l,Jq r13.1 = some l ∧ V6 l r12.2 = some false:=by
    rcases g2 with g2 | g2
    ·exact QHk s6 g2
    ·exact QHk s6 g2
   simp only [g1,l1,l2,Option.bind_some,cond_true,cond_false,Bool.not_true]
 have k5 : (bif r11.2 then (QD r11.1).bind fun r=>(bif (!r) then some true else (Qbc r11.1.Chain r10.2.1).bind fun r2=>(bif (!decide (r2 = [98,117,121,101,114])) then some true else (Zf r11.1.Book 0).bind fun r3=>(Zf r10.1.Book 0).bind fun r4=>(bif (decide (r3 < r4)) then some true else some false))) else some false) = some false:=by
  cases h : r11.2 with
  | false=>rfl
  | true =>
   obtain ⟨g1,g3,g4,g2,tl,g5,g6⟩:=t5 h
   have b1:=Qsg r11.1.Book 0 s5.2.2.2.2.2.2 (Qpr _ s5 g1).eS
   have b2:=Qsg r10.1.Book 0 a5.2.2.2.2.2.2 (Qpr _ a5 (Qn8 _ a5 g3)).eS
   rw [g5,Qom,Qk4] at b1
   rw [← g5] at b1
   have e:=QL1 s5 g2
   rw [show J5 4 = some [98,117,121,101,114] from rfl] at e
   simp only [g1,e,b1,b2,Option.bind_some,cond_true,cond_false,Bool.not_true,decide_true]
   rw [decide_eq_false (by omega)]
   rfl
 have k4 : (bif r9.2 then (QD r9.1).bind fun r=>(bif (!r) then some true else (Jq r9.1).bind fun r2=>(V6 r2 r8.2).bind fun r3=>(bif r3 then some true else (Qbc r9.1.Chain r8.2).bind fun r4=>(bif (!decide (r4 = [111,119,110,101,114])) then some true else some false))) else some false) = some false:=by
  cases h : r9.2 with
  | false=>rfl
  | true =>
   obtain ⟨g1,_,_,g2⟩:=t4 h
   obtain ⟨l,l1,l2⟩:=QHk s4 g2
   have e:=QL1 s4 g2
   rw [show J5 3 = some [111,119,110,101,114] from rfl] at e
   simp only [g1,l1,l2,e,Option.bind_some,cond_true,cond_false,Bool.not_true,decide_true]
 have k3 : (bif r7.2 then (QD r7.1).bind fun r=>(bif (!r) then some true else some false) else some false) = some false:=by
  cases h : r7.2 with
  | false=>rfl
  | true =>
   obtain ⟨g1,_⟩:=t3 h
   rw [g1]; rfl
 have k2 : (bif r5.2 then (QD r5.1).bind fun r=>(bif (!r) then some true else (bif (!decide (ln r5.1.Claims = w64 ((ln r4.1.Claims) + 1))) then some true else some false)) else some false) = some false:=by
  cases h : r5.2 with
  | false=>rfl
  | true =>
   obtain ⟨g1,_,_,g2⟩:=t2 h
   have hl : r4.1.Claims.length ≤ 1048576:=a2.2.2.2.1
   have e : ln r5.1.Claims = w64 ((ln r4.1.Claims) + 1):=by rw [Vw,Vw,g2,Q0 (by omega)]
   rw [g1,decide_eq_true e]; rfl
 have k1 : (bif r3.2 then (QD r3.1).bind fun r=>(bif (!r) then some true else (Jq r3.1).bind fun r4=>(V6 r4 r2.2.1.Thing.Id).bind fun r5=>(bif (!r5) then some true else some false)) else some false) = some false:=by
  cases h : r3.2 with
  | false=>rfl
  | true =>
   obtain ⟨g1,_,_,g2,g3,g4⟩:=t1 h
   obtain ⟨l,l1,l2⟩:=Qrl s1 r2.2.1.Thing.Id true (decide_eq_true (QQY r3.1 r2.2.1 g2 g3 g4))
   simp only [g1,l1,l2,Option.bind_some,cond_true,cond_false,Bool.not_true]
 have q7 : Qob r2 r3 r4 r5 r6 r7 r8 r9 r10 r11 r12 r13 r14 r15 = some false:=by unfold Qob; exact k7
 have q6 : QoA r2 r3 r4 r5 r6 r7 r8 r9 r10 r11 r12 r13 r14 r15 = some false:=by unfold QoA; rw [q7]; exact k6
 have q5 : QoC r2 r3 r4 r5 r6 r7 r8 r9 r10 r11 r12 r13 r14 r15 = some false:=by unfold QoC; rw [q6]; exact k5
 have q4 : Qn9 r2 r3 r4 r5 r6 r7 r8 r9 r10 r11 r12 r13 r14 r15 = some false:=by unfold Qn9; rw [q5]; exact k4
 have q3 : QoX r2 r3 r4 r5 r6 r7 r8 r9 r10 r11 r12 r13 r14 r15 = some false:=by unfold QoX; rw [q4]; exact k3
 have q2 : Qog r2 r3 r4 r5 r6 r7 r8 r9 r10 r11 r12 r13 r14 r15 = some false:=by unfold Qog; rw [q3]; exact k2
 have q1 : QoK r2 r3 r4 r5 r6 r7 r8 r9 r10 r11 r12 r13 r14 r15 = some false:=by unfold QoK; rw [q2]; exact k1
 have u7 : Qou r2 r3 r4 r5 r6 r7 r8 r9 r10 r11 r12 r13 r14 r15 = some true:=by unfold Qou; exact QvX f7
 have u6 : QoD r2 r3 r4 r5 r6 r7 r8 r9 r10 r11 r12 r13 r14 r15 = some true:=by unfold QoD; rw [u7]; exact Qdc f6
 have u5 : QoS r2 r3 r4 r5 r6 r7 r8 r9 r10 r11 r12 r13 r14 r15 = some true:=by unfold QoS; rw [u6]; exact Qdc f5
 have u4 : QoB r2 r3 r4 r5 r6 r7 r8 r9 r10 r11 r12 r13 r14 r15 = some true:=by unfold QoB; rw [u5]; exact Qdc f4
 have u3 : Qoq r2 r3 r4 r5 r6 r7 r8 r9 r10 r11 r12 r13 r14 r15 = some true:=by unfold Qoq; rw [u4]; exact Qdc f3
 have u2 : QoT r2 r3 r4 r5 r6 r7 r8 r9 r10 r11 r12 r13 r14 r15 = some true:=by unfold QoT; rw [u3]; exact Qdc f2
 have u1 : Qoa r2 r3 r4 r5 r6 r7 r8 r9 r10 r11 r12 r13 r14 r15 = some true:=by unfold Qoa; rw [u2]; exact Qdc f1
 simp only [d1,d2,d3,d4,d5,d6,d7,i1,i2,i3,i4,i5,i6,i7,Option.bind_some,cond_false,q1,u1]
end Go.Proofs.YtncpklppoancgaaGreat
