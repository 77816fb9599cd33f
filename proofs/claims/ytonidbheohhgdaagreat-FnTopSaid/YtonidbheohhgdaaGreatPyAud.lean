import Derived.Test.YtonidbheohhgdaaGreatPz6
namespace Go.Proofs.YtonidbheohhgdaaGreat
open Go
set_option linter.unusedVariables false
set_option linter.unusedSimpArgs false
theorem Qn0 (h : House) (x : Hand) (hl : h.Claims.length ≤ 1048576) : Qa4 h x = some (decide (x.Holder = 3) && h.Claims.any fun c=>decide (c.State = 3) && (decide (c.Thing = x.Thing) && decide (c.Who = x.Who))):=by
 have hi:=XH h.Claims (fun c=>decide (c.State = 3) && (decide (c.Thing = x.Thing) && decide (c.Who = x.Who))) (fun i=>(i : Int)) (step:=QB h.Claims x (ln h.Claims))
  (fun i hi=>by
   simp only [QB,Qch,Qt hi,Qe hi,Qm hi,QD (show (i : Int) < 9223372036854775807 by omega),cond_true,Qa,Option.bind_some]
   cases (decide (h.Claims[i].State = 3) && (decide (h.Claims[i].Thing = x.Thing) && decide (h.Claims[i].Who = x.Who))) <;> rfl)
  (by simp only [QB,Qx (Nat.le_refl _),cond_false])
 have hc : QP h.Claims x = some (h.Claims.any fun c=>decide (c.State = 3) && (decide (c.Thing = x.Thing) && decide (c.Who = x.Who))):=by
  unfold QP Vp
  rw [hi]
  cases hf : h.Claims.findIdx? (fun c=>decide (c.State = 3) && (decide (c.Thing = x.Thing) && decide (c.Who = x.Who))) with
  | none =>
   have : (h.Claims.any fun c=>decide (c.State = 3) && (decide (c.Thing = x.Thing) && decide (c.Who = x.Who))) = false:=by
    rw [List.any_eq_false]
    intro c hc
    have:=List.findIdx?_eq_none_iff.1 hf c hc
    simpa using this
   rw [this]; rfl
  | some i =>
   obtain ⟨hi',hp⟩:=ZZ hf
   rw [List.any_eq_true.2 ⟨_,List.getElem_mem hi',hp⟩]
   simp only [Option.bind_some,evO,decide_eq_true (show (0 : Int) ≤ (i : Int) by omega)]
 unfold Qa4
 rw [hc]
 cases decide (x.Holder = 3) <;> rfl
theorem QsY (l : List Find) (hl : l.length ≤ 1048576) (hv : V1 l = some true) (f : Find) (hf : f ∈ l) : ∃ k : Nat,∃ hk : k < l.length,Xg l f.Thing.Id = (k : Int) ∧ l[k] = f:=by
 have hp:=Qq0 l hl hv
 obtain ⟨j,hj,rfl⟩:=List.getElem_of_mem hf
 unfold Xg
 cases hx : l.findIdx? (fun x=>decide (x.Thing.Id = l[j].Thing.Id)) with
 | none =>
  have:=List.findIdx?_eq_none_iff.1 hx l[j] (List.getElem_mem hj)
  simp at this
 | some i =>
  obtain ⟨hi,hq⟩:=ZZ hx
  have hq : l[i].Thing.Id = l[j].Thing.Id:=by simpa using hq
  refine ⟨i,hi,rfl,?_⟩
  have hij : i = j:=by
   by_cases h1 : i < j
   ·have:=List.pairwise_iff_getElem.1 hp i j hi hj h1; omega
   ·by_cases h2 : j < i
    ·have:=List.pairwise_iff_getElem.1 hp j i hj hi h2; omega
    ·omega
  subst hij
  rfl
theorem Qur (h : House) (hm : Qf h) (hi : Inv h) (ho : HouseOk h) : Z3 h = some true:=by
 obtain ⟨b,e1,_,e3⟩:=QiA h.Chain
 rw [ho.nS] at e1
 injection e1 with e1
 subst e1
 have hcl : h.Chain.length ≤ 1048576:=hm.2.2.2.2.2.1
 have m1 : h.Finds.length ≤ 1048576:=hm.1
 obtain ⟨r,r1,r2,r3,_⟩:=QnQ h hm.1 hm.2.2.1 (e3 rfl).1 ho.nS ho.nI ho.kept
 have hr:=Qgi (n:=h.Finds.length) (step:=X7 h r h.Finds (ln h.Finds)) (fun i hi'=>by
   obtain ⟨x,x1,x2⟩:=hi.acc _ (List.getElem_mem hi')
   obtain ⟨q,hq,rfl⟩:=List.getElem_of_mem x1
   obtain ⟨j,_,hj⟩:=QgM h.Chain h.Finds[i].Thing.Id h.Chain.length q hq (by rw [Qm hq]; exact x2)
   obtain ⟨c,w1,w2⟩:=Qbv h.Slots h.Finds[i].Thing.Id hm.2.2.1
   have w3:=r3 i hi'
   simp only [X7,Qt hi',Qe hi',Qm hi',cond_true,Qa,QjV h.Chain _ hcl,hj,decide_eq_false (show ¬ (j : Int) < 0 by omega),cond_false,w1,w2,QDA r _ (show r.length ≤ 1048576 by omega),Option.bind_some,QD (show (i : Int) < 9223372036854775807 by omega),w3]
   cases XT h.Slots h.Finds[i].Thing.Id <;> rfl)
  (by simp only [X7,Qx (Nat.le_refl _),cond_false])
 unfold Z3
 rw [r1,Option.bind_some,hr]; rfl
theorem Qu4 (h : House) (hm : Qf h) (hi : Inv h) (ho : HouseOk h) : Qbx h = some true:=by
 have m4 : h.Claims.length ≤ 1048576:=hm.2.2.2.1
 have m6 : h.Chain.length ≤ 1048576:=hm.2.2.2.2.2.1
 have hr:=Qgi (n:=h.Chain.length) (step:=JI h h.Chain (ln h.Chain)) (fun i hi'=>by
   have hw:=QD (show (i : Int) < 9223372036854775807 by omega)
   simp only [JI,Qt hi',Qe hi',Qm hi',cond_true,Qa,Qn0 h _ m4,(VZ h.Finds _ hm.1).2,Option.bind_some,hw]
   by_cases h3 : h.Chain[i].Holder = 3
   ·rw [decide_eq_true h3]
    rcases hi.own _ (List.getElem_mem hi') (by omega) with ⟨_,c,c1,c2,c3,c4⟩ | ⟨f,f1,f2,_,f4⟩
    ·rw [List.any_eq_true.2 ⟨c,c1,by simp [c2,c3,c4]⟩]; rfl
    ·obtain ⟨k,hk,k1,k2⟩:=QsY h.Finds hm.1 ho.fS f f1
     rw [f2] at k1
     rw [k1,decide_eq_false (show ¬ (k : Int) < 0 by omega),Qe hk,Qm hk,k2,decide_eq_true (f4 h3)]
     cases (h.Claims.any fun c=>decide (c.State = 3) && (decide (c.Thing = h.Chain[i].Thing) && decide (c.Who = h.Chain[i].Who))) <;> rfl
   ·rw [decide_eq_false h3]; rfl)
  (by simp only [JI,Qx (Nat.le_refl _),cond_false])
 unfold Qbx
 rw [hr]; rfl
theorem QqD (h : House) (hm : Qf h) (hi : Inv h) (ho : HouseOk h) : ZI h = some true:=by
 have m4 : h.Claims.length ≤ 1048576:=hm.2.2.2.1
 have m6 : h.Chain.length ≤ 1048576:=hm.2.2.2.2.2.1
 have hr:=Qgi (n:=h.Chain.length) (step:=XD h h.Chain (ln h.Chain)) (fun i hi'=>by
   have hw:=QD (show (i : Int) < 9223372036854775807 by omega)
   simp only [XD,Qt hi',Qe hi',Qm hi',cond_true,Qa,Qn0 h _ m4,(VZ h.Finds _ hm.1).2,Option.bind_some,hw]
   by_cases h2 : h.Chain[i].Holder ≤ 2
   ·rw [decide_eq_true h2]; rfl
   ·rw [decide_eq_false h2]
    rcases hi.own _ (List.getElem_mem hi') (by omega) with ⟨h3,c,c1,c2,c3,c4⟩ | ⟨f,f1,f2,f3,_⟩
    ·rw [decide_eq_true h3,List.any_eq_true.2 ⟨c,c1,by simp [c2,c3,c4]⟩]; rfl
    ·obtain ⟨k,hk,k1,k2⟩:=QsY h.Finds hm.1 ho.fS f f1
     obtain ⟨d,d1,d2⟩:=QC7 f h.Chain[i].At
     have hd : d = true:=(Option.some.inj (f3.symm.trans d1)).symm
     subst hd
     rw [f2] at k1
     rw [k1,decide_eq_false (show ¬ (k : Int) < 0 by omega),Qe hk,Qm hk,k2,d2]
     cases (decide (h.Chain[i].Holder = 3) && h.Claims.any fun c=>decide (c.State = 3) && (decide (c.Thing = h.Chain[i].Thing) && decide (c.Who = h.Chain[i].Who))) <;> rfl)
  (by simp only [XD,Qx (Nat.le_refl _),cond_false])
 unfold ZI
 rw [hr]; rfl
theorem Quv (h : House) (hm : Qf h) (hi : Inv h) : QcQ h = some []:=by
 have hv:=QgU h hm hi.ok
 have ho:=Qk8 h hm hv
 unfold QcQ
 simp only [hv,Qur h hm hi ho,Qu4 h hm hi ho,QqD h hm hi ho,QyY h hm.2.2.2.2.2.2 ho.eS hi.bal,Option.bind_some,Bool.not_true,cond_false]
end Go.Proofs.YtonidbheohhgdaaGreat
