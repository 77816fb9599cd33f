import Derived.Test.YtonidbheohhgdaaGreatPyAud
import Derived.Test.YtonidbheohhgdaaGreatPz5
namespace Go.Proofs.YtonidbheohhgdaaGreat
open Go
set_option linter.unusedVariables false
set_option linter.unusedSimpArgs false
theorem QuV (c : l1Cur) (h : okC c) : ∃ c' a,Qb7 c = some (c',a) ∧ okC c' ∧ Qf a ∧ Inv a:=by
 obtain ⟨c1,x1,e1,k1,l1,u1⟩:=Q8 c 3 h
 have u1:=u1 (by omega)
 obtain ⟨c2,l,e2,k2,hg⟩:=Qrs c1 k1
 have hl:=hg.1
 have ew : w64 (1 + x1) = 1 + x1:=Vj (by omega) (by omega)
 exact ⟨c2,_,by unfold Qb7; simp only [e1,e2,ew,Qvr (1 + x1) l (by omega) (by omega) hg,Option.bind_some],k2,⟨by simp,⟨by simp,by simp⟩,by simp only; omega,by simp,by simp,by simp,by simp⟩,⟨Qki (1 + x1) l (by omega) (by omega) hg,by simp,by simp,by simp [Jk,Vo]⟩⟩
theorem Qu9 (a : House) (x : Hand) (hm : Qf a) (h : QqR a x) : Qdu a x = some true:=by
 obtain ⟨id,k,hk,h1,h2,h3⟩:=h
 obtain ⟨p,p1,p2,_⟩:=Qf6 a.Claims x.Thing hm.2.2.2.1
 rw [h1] at p1
 injection p1 with p1
 subst p1
 unfold Qdu
 rw [p2,Option.bind_some,(Z6 a.Claims id hm.2.2.2.1).2,Option.bind_some,h2,decide_eq_true (show (0 : Int) ≤ (k : Int) by omega),Qe hk,Qm hk,decide_eq_true h3]
 rfl
theorem QxA {n k : Nat} {step : Int → Option (Int ⊕ (Fl Bool Unit))} (hk : k ≤ n) (h1 : ∀ i : Nat,k ≤ i → i < n → step (i : Int) = some (.inl ((i + 1 : Nat) : Int))) (h2 : step (n : Int) = some (.inr (.brk ()))) : run step (k : Int) = some (.brk ()):=by
 have:=XP (step:=step) (fun j=>((k + j : Nat) : Int)) (r:=.brk ()) (n - k) (fun j hj=>h1 (k + j) (by omega) (by omega)) (by rw [show k + (n - k) = n by omega]; exact h2)
 simpa using this
theorem QxI (l : List Event) (a o : House) (i : Nat) (hi : i < l.length) (hm : Qf a) (ho : Qf o) {tl : List Hand} (hc : o.Chain = a.Chain ++ tl) (hg : ∀ x ∈ tl,3 ≤ x.Holder → Gone a l[i].Kind o x) : run (Qam l o (i : Int) a) (ln a.Chain) = some (.brk ()):=by
 have hlo : o.Chain.length ≤ 1048576:=ho.2.2.2.2.2.1
 have hlen : o.Chain.length = a.Chain.length + tl.length:=by rw [hc,List.length_append]
 rw [VA]
 refine QxA (n:=o.Chain.length) (by omega) (fun k hk hk2=>?_) (by simp only [Qam,Qx (Nat.le_refl _),cond_false])
 have hx : o.Chain[k] ∈ tl:=by
  have : o.Chain[k] = tl[k - a.Chain.length]'(by omega):=by
   have:=List.getElem_append_right (as:=a.Chain) (bs:=tl) (i:=k) hk (h₂:=by rw [List.length_append]; omega)
   simp only [hc]
   exact this
  rw [this]; exact List.getElem_mem _
 have hw:=QD (show (k : Int) < 9223372036854775807 by omega)
 simp only [Qam,Qt hk2,Qe hk2,Qm hk2,cond_true,Qa,(VZ a.Finds _ hm.1).2,Option.bind_some,hw]
 by_cases h3 : 3 ≤ o.Chain[k].Holder
 ·obtain ⟨q,hq,q1,⟨v,v1,v2⟩,_,q4⟩:=hg _ hx h3
  obtain ⟨w,w1,w2⟩:=QrU a.Finds[q] a.Claims a.Now hm.2.2.2.1
  rw [v1] at w1
  have hv : w = v:=(Option.some.inj w1).symm
  subst hv
  rw [decide_eq_true h3,q1,decide_eq_false (show ¬ (q : Int) < 0 by omega),Qe hq,Qm hq,w2]
  simp only [cond_true,cond_false,Qa,Option.bind_some,decide_eq_false v2]
  by_cases h4 : o.Chain[k].Holder = 3
  ·rw [decide_eq_true h4,Qe hi,Qm hi]
   simp only [cond_true,Qa]
   by_cases h5 : l[i].Kind = 4
   ·rw [decide_eq_true h5,Qu9 a _ hm (q4 h4 h5)]; rfl
   ·rw [decide_eq_false h5]; rfl
  ·rw [decide_eq_false h4]; rfl
 ·rw [decide_eq_false h3,decide_eq_false (show ¬ o.Chain[k].Holder = 3 by omega)]; rfl
theorem QCh (l : List Event) (hl : l.length ≤ 1048576) (he : ∀ x ∈ l,Qaa x) : ∀ (m i : Nat) (a : House),i + m = l.length → Qf a → Inv a → ∃ b,run (ZQ l) (a,(i : Int)) = some (.brk b) ∧ Qf b ∧ Inv b:=by
 intro m
 induction m with
 | zero =>
  intro i a hi hm hv
  refine ⟨a,?_,hm,hv⟩
  rw [Qh]; simp only [ZQ,Qx (show l.length ≤ i by omega),cond_false,Option.bind_some]
 | succ m ih =>
  intro i a hi hm hv
  have hlt : i < l.length:=by omega
  have hse:=he _ (List.getElem_mem hlt)
  obtain ⟨r,r1,r2,r3⟩:=QrH a l[i] hm hse
  obtain ⟨hv',tl,hc,hg⟩:=Qus a l[i] hm hse.2 hv r1
  obtain ⟨s,s1,s2,s3⟩:=Ql3 r.1 r3 (Qk8 r.1 r3 (QgU r.1 r3 hv'.ok))
  obtain ⟨b,b1,b2,b3⟩:=ih (i + 1) r.1 (by omega) r3 hv'
  refine ⟨b,?_,b2,b3⟩
  rw [Qh]
  simp only [ZQ,Qt hlt,Qe hlt,Qm hlt,cond_true,Qa,r2,Quv r.1 r3 hv',s1,s2,QmZ s (by omega),Option.bind_some,decide_true,Bool.not_true,cond_false,QxI l a r.1 i hlt hm r3 hc hg,evO,QD (show (i : Int) < 9223372036854775807 by omega)]
  exact b1
theorem Qvn (m : List Mark) (x : Trial) (h : VU m x = some 1) : ¬ 1 < x.Wrong ∧ ∃ n,ZL m = some n ∧ ¬ x.Right < n:=by
 unfold VU at h
 obtain ⟨b,hb,h⟩:=Option.bind_eq_some_iff.1 h
 cases b with
 | true=>injection h with h; omega
 | false =>
  simp only [cond_false] at h
  obtain ⟨b2,hb2,h⟩:=Option.bind_eq_some_iff.1 h
  cases b2 with
  | false=>injection h with h; omega
  | true =>
   refine ⟨fun hw=>?_,_,rfl,fun hr=>?_⟩
   ·obtain ⟨t,_,hb⟩:=Option.bind_eq_some_iff.1 hb
    cases t with
    | false=>cases hb
    | true =>
     obtain ⟨q,_,hb⟩:=Option.bind_eq_some_iff.1 (show ((J3 m).bind fun _=>_) = some false from hb)
     rw [decide_eq_true hw] at hb
     cases q <;> cases hb
   ·cases hd : decide (0 < ln m) with
    | false=>rw [hd] at hb2; cases hb2
    | true =>
     rw [hd] at hb2
     have hb2 : decide ((if ln m < 3 then ln m else 3) ≤ x.Right) = true:=Option.some.inj hb2
     have:=of_decide_eq_true hb2
     omega
theorem Qry (h : House) (hm : Qf h) (ho : HouseOk h) : run (Qak h) 0 = some (.brk ()):=by
 obtain ⟨m1,⟨m2,m2'⟩,m3,m4,m5,m6,m7⟩:=hm
 have hlen:=Qeg h ho.trials
 have ht:=Qpb h m1 m2 m2' m4 ho.trials
 refine Qgi (n:=h.Claims.length) (fun i hi=>?_) (by simp only [Qak,Qx (Nat.le_refl _),cond_false])
 have hi2 : i < h.Trials.length:=by omega
 obtain ⟨t1,m,c,t2,t3,t4⟩:=ht i hi hi2
 have hf:=XH h.Trials (fun x=>decide (x.Claim = h.Claims[i].Id)) (fun i=>(i : Int)) (step:=QE h.Trials h.Claims[i].Id (ln h.Trials))
  (fun j hj=>by
   simp only [QE,Qc2,Option.bind_some,Qt hj,Qe hj,Qm hj,QD (show (j : Int) < 9223372036854775807 by omega),cond_true,Qa]
   cases decide (h.Trials[j].Claim = h.Claims[i].Id) <;> rfl)
  (by simp only [QE,Qx (Nat.le_refl _),cond_false])
 have hto : QcH h h.Claims[i].Id = some (h.Trials[i],true):=by
  unfold QcH QdY Vu
  rw [hf]
  cases hx : h.Trials.findIdx? (fun x=>decide (x.Claim = h.Claims[i].Id)) with
  | none =>
   have:=List.findIdx?_eq_none_iff.1 hx h.Trials[i] (List.getElem_mem hi2)
   simp [t1] at this
  | some j =>
   obtain ⟨hj,hp⟩:=ZZ hx
   have hp : h.Trials[j].Claim = h.Claims[i].Id:=by simpa using hp
   have hj2 : j < h.Claims.length:=by omega
   have hji : j = i:=Qp2 h.Claims m4 ho.cS j i hj2 hi (by rw [← (ht j hj2 hj).1,hp])
   subst hji
   simp only [Option.bind_some,evO,decide_eq_false (show ¬ (j : Int) < 0 by omega),cond_false,Qe hj,Qm hj,Qa]
 simp only [Qak,Qt hi,Qe hi,Qm hi,cond_true,Qa,hto,Option.bind_some,Bool.not_true,cond_false,t2,QD (show (i : Int) < 9223372036854775807 by omega)]
 by_cases h3 : h.Claims[i].State = 3
 ·have hc : c = 1:=by
   unfold Jt at t4
   rw [h3] at t4
   exact (Option.some.inj t4).symm
  subst hc
  obtain ⟨n1,n,n2,n3⟩:=Qvn m _ t3
  rw [decide_eq_true h3,n2]
  simp only [cond_true,Option.bind_some,decide_eq_false n1,decide_eq_false n3,Bool.or_self,cond_false]
 ·rw [decide_eq_false h3]; rfl
theorem Qsh (c : List Int) (h1 : (okL (QAH .u8)) c) : Qfn c = some true:=by
 unfold Qfn Qi2
 simp only [Option.bind_some]
 by_cases hb : 1048576 < ln c
 ·rw [decide_eq_true hb]; rfl
 rw [decide_eq_false hb]
 rw [VA] at hb
 obtain ⟨cu,e0,k0⟩:=Qwh c (by omega)
 obtain ⟨c1,h,e1,k1,sh,vh⟩:=QuV cu k0
 obtain ⟨c2,l,e2,k2,n2,he,_⟩:=QrA c1 16 k1 (by omega)
 have d1 : Zn c = some (h,l):=by unfold Zn; simp only [e0,e1,e2,Option.bind_some]
 obtain ⟨b,b1,b2,b3⟩:=QCh l (by omega) he l.length 0 h (by omega) sh vh
 have hcl:=Qry b b2 (Qk8 b b2 (QgU b b2 b3.ok))
 simp only [d1,QgU h sh vh.ok,vh.ok,Option.bind_some,decide_true,Bool.not_true,cond_false,show run (ZQ l) (h,0) = some (.brk b) from b1,evO,hcl]
end Go.Proofs.YtonidbheohhgdaaGreat
