import Derived.Test.YtncpklppoancgaaGreatPz2
namespace Go.Proofs.YtncpklppoancgaaGreat
open Go
set_option linter.unusedVariables false
set_option linter.unusedSimpArgs false
theorem QtG {n : Nat} (f : Nat → Int) (h : ∀ i,i < n → 0 < i → f (i - 1) < f i) : ∀ j i,i < j → j < n → f i < f j:=by
 intro j
 induction j with
 | zero=>intro i h1 _; omega
 | succ j ih =>
  intro i h1 h2
  have h3:=h (j + 1) h2 (by omega)
  rw [show j + 1 - 1 = j by omega] at h3
  by_cases hij : i = j
  ·subst hij; exact h3
  ·have:=ih i (by omega) (by omega); omega
theorem Qgb (l : List Slot) (h : ∀ i (hi : i < l.length) (h0 : 0 < i),(l[i - 1]'(by omega)).Id < l[i].Id) (i j : Nat) (hi : i < l.length) (hj : j < l.length) (he : l[i].Id = l[j].Id) : i = j:=by
 have hu:=QtG (n:=l.length) (fun i=>(gt l (i : Int)).Id) (fun i h1 h2=>by
  show (gt l ((i - 1 : Nat) : Int)).Id < (gt l (i : Int)).Id
  rw [QF h1,QF (show i - 1 < l.length by omega)]; exact h i h1 h2)
 by_cases h1 : i < j
 ·have:=hu j i h1 hj
  simp only [QF hi,QF hj] at this; omega
 ·by_cases h2 : j < i
  ·have:=hu i j h2 hi
   simp only [QF hi,QF hj] at this; omega
  ·omega
theorem QlR (l : List Slot) (t : Int) (hl : l.length ≤ 1048576) : JJ l t = some (bif decide (t = 0) || decide (QaG l t < 0) then 0 else (gt l (QaG l t)).Id):=by
 have hr:=XY l (fun x=>!decide (t = 0) && decide (x.Thing = t)) (fun i=>(gt l (i : Int)).Id) (step:=Jd l t)
  (fun i hi=>by
   simp only [Jd,QG hi,Qj hi,QF hi,Q0 (show (i : Int) < 9223372036854775807 by omega),cond_true,Qc]
   cases decide (t = 0) <;> cases decide (l[i].Thing = t) <;> rfl)
  (by simp only [Jd,QS (Nat.le_refl _),cond_false])
 unfold JJ QaG
 rw [hr]
 cases decide (t = 0) with
 | true =>
  have : l.findIdx? (fun x=>!true && decide (x.Thing = t)) = none:=by rw [List.findIdx?_eq_none_iff]; intro x _; rfl
  rw [this]; rfl
 | false =>
  have e : (fun x : Slot=>!false && decide (x.Thing = t)) = (fun x : Slot=>decide (x.Thing = t)):=by funext x; simp
  rw [e]
  cases l.findIdx? (fun x=>decide (x.Thing = t)) with
  | none=>rfl
  | some i =>
   simp only [Option.bind_some,evO,Bool.false_or,decide_eq_false (show ¬ (i : Int) < 0 by omega),cond_false]
def Ji (l : List Slot) (t : Int) : Bool:=!(decide (t = 0) || decide (QaG l t < 0))
theorem Qd4 (l : List Slot) (t : Int) (hl : l.length ≤ 1048576) : ∃ c,Xo l t = some c ∧ decide (c < 0) = !Ji l t:=by
 rw [Qg1 l t hl]
 unfold Ji
 cases decide (t = 0) with
 | true=>exact ⟨-1,rfl,rfl⟩
 | false=>exact ⟨QaG l t,rfl,by simp⟩
end Go.Proofs.YtncpklppoancgaaGreat
namespace Go.Proofs.YtncpklppoancgaaGreat
open Go
set_option linter.unusedVariables false
set_option linter.unusedSimpArgs false
theorem QtC (l : List Hand) (x : Hand) (hl : l.length ≤ 1048576) : ∃ r,Qaa l x = some r ∧ Qcl l x = some r ∧ r.1.length ≤ 1048576:=by
 have hrm : rm (0 + l.length) 40 = true:=VQ (by omega) (by omega)
 have hrm1 : rm (l.length + 1) 40 = true:=VQ (by omega) (by omega)
 unfold Qaa Qcl Xe
 have tail : ∀ s : Int,∃ r,((JA s x).bind fun r=>nd (rm (0 + l.length) 40) <| nd (rm (l.length + 1) 40) <| (VU (l ++ [(⟨x.Thing,x.Holder,x.Who,x.At,r⟩ : Hand)])).bind fun r2=>(bif (!r2) then nd (rm (0 + l.length) 40) <| some (l,false) else some (l ++ [(⟨x.Thing,x.Holder,x.Who,x.At,r⟩ : Hand)],true))) = some r ∧
   ((Ju s x).bind fun r=>(nd (rm (0 + l.length) 40) <| some l).bind fun r2=>nd (rm (r2.length + 1) 40) <| (Xq (r2 ++ [(⟨x.Thing,x.Holder,x.Who,x.At,r⟩ : Hand)])).bind fun r3=>(bif (!r3) then (nd (rm (0 + l.length) 40) <| some l).bind fun r4=>some (r4,false) else some (r2 ++ [(⟨x.Thing,x.Holder,x.Who,x.At,r⟩ : Hand)],true))) = some r ∧ r.1.length ≤ 1048576:=by
  intro s
  obtain ⟨c,c1,c2⟩:=Qmx s x
  obtain ⟨b,b1,b2,b3⟩:=Qo4 (l ++ [(⟨x.Thing,x.Holder,x.Who,x.At,c⟩ : Hand)])
  simp only [c1,c2,Option.bind_some,hrm,hrm1,Qc,b1,b2]
  cases b with
  | false=>exact ⟨(l,false),rfl,rfl,hl⟩
  | true=>exact ⟨_,rfl,rfl,by have:=(b3 rfl).1; show (l ++ _).length ≤ _; omega⟩
 by_cases h0 : 0 < l.length
 ·simp only [show decide (0 < ln l) = true from decide_eq_true (by rw [Vw]; omega),cond_true,show w64 (ln l - 1) = ((l.length - 1 : Nat) : Int) from by rw [Vw,Vz] <;> omega,Qj (show l.length - 1 < l.length by omega),Qc]
  exact tail _
 ·simp only [show decide (0 < ln l) = false from decide_eq_false (by rw [Vw]; omega),cond_false]
  exact tail 0
end Go.Proofs.YtncpklppoancgaaGreat
namespace Go.Proofs.YtncpklppoancgaaGreat
open Go
set_option linter.unusedVariables false
set_option linter.unusedSimpArgs false
theorem Qrn (l : List Slot) (t : Int) (hl : l.length ≤ 1048576) : ∃ r,Z9 l t = some r ∧ Qcp l t = some r ∧ r.1.length = l.length ∧ (Ji l t = false → r.2 = false) ∧ (r.2 = true → t ≠ 0 ∧ V7 l = some true ∧ ∃ (k : Nat) (hk : k < l.length),l[k].Thing = t ∧ r.1 = l.set k ⟨l[k].Id,l[k].Size,0⟩):=by
 obtain ⟨c,c1,c2,c3⟩:=Qkl l hl
 have hrm : rm (0 + l.length) 24 = true:=VQ (by omega) (by omega)
 unfold Z9 Qcp Xy Ji
 simp only [hrm,Qc,c1,c2,QlR l t hl,Qg1 l t hl,Option.bind_some]
 cases c with
 | false=>exact ⟨(l,false),rfl,rfl,rfl,fun _=>rfl,fun h=>by cases h⟩
 | true =>
  obtain ⟨s1,s2,s3⟩:=c3 rfl
  cases ht : decide (t = 0) with
  | true=>exact ⟨(l,false),rfl,rfl,rfl,fun _=>rfl,fun h=>by cases h⟩
  | false =>
   rcases QdP l t with ⟨_,h2⟩ | ⟨k,hk,h2,h3,_⟩
   ·rw [h2]; exact ⟨(l,false),rfl,rfl,rfl,fun _=>rfl,fun h=>by cases h⟩
   ·rw [h2]
    have hid : 1 ≤ l[k].Id:=s2 _ (List.getElem_mem hk)
    simp only [Bool.false_or,Bool.not_true,cond_false,decide_eq_false (show ¬ (k : Int) < 0 by omega),QF hk,Qj hk,Qc,decide_eq_false (show ¬ l[k].Id = 0 by omega),Int.toNat_natCast]
    have hr:=Xr (step:=XL l[k].Id) (fun i=>(if i ≤ k then l else l.set k ⟨l[k].Id,l[k].Size,0⟩,(i : Int))) (r:=l.set k ⟨l[k].Id,l[k].Size,0⟩) l.length (fun i hi=>by
      have hw:=Q0 (show (i : Int) < 9223372036854775807 by omega)
      by_cases hik : i < k
      ·have hne : ¬ l[i].Id = l[k].Id:=fun e=>by have:=Qgb l s3 i k hi hk e; omega
       simp only [XL,if_pos (show i ≤ k by omega),if_pos (show i + 1 ≤ k by omega),QG hi,Qj hi,QF hi,hw,decide_eq_false hne,cond_true,cond_false,Qc]
      ·by_cases hek : i = k
       ·subst hek
        simp only [XL,if_pos (Nat.le_refl i),if_neg (show ¬ i + 1 ≤ i by omega),QG hi,Qj hi,QF hi,hw,decide_true,cond_true,Qc,Int.toNat_natCast]
       ·have hne : ¬ l[i].Id = l[k].Id:=fun e=>by have:=Qgb l s3 i k hi hk e; omega
        have hi' : i < (l.set k ⟨l[k].Id,l[k].Size,0⟩).length:=by rw [List.length_set]; exact hi
        have hg : gt (l.set k ⟨l[k].Id,l[k].Size,0⟩) (i : Int) = l[i]:=by rw [Qp2 l k _ i hi,if_neg hek,QF hi]
        simp only [XL,if_neg (show ¬ i ≤ k by omega),if_neg (show ¬ i + 1 ≤ k by omega),QG hi',Qj hi',hg,hw,decide_eq_false hne,cond_true,cond_false,Qc])
     (by
      simp only [XL,if_neg (show ¬ l.length ≤ k by omega)]
      rw [show decide ((l.length : Int) < ln (l.set k ⟨l[k].Id,l[k].Size,0⟩)) = false from decide_eq_false (by rw [Vw,List.length_set]; omega)]
      rfl)
    simp only [show run (XL l[k].Id) (l,0) = some (l.set k ⟨l[k].Id,l[k].Size,0⟩) from hr,Option.bind_some]
    exact ⟨_,rfl,rfl,List.length_set,fun h=>(by simp at h),fun _=>⟨of_decide_eq_false ht,trivial,k,hk,h3,rfl⟩⟩
theorem QBc (l : List Slot) (t : Int) (hl : l.length ≤ 1048576) : ∃ r,Z9 l t = some r ∧ Qcp l t = some r ∧ r.1.length = l.length ∧ (Ji l t = false → r.2 = false):=by
 obtain ⟨r,r1,r2,r3,r4,_⟩:=Qrn l t hl
 exact ⟨r,r1,r2,r3,r4⟩
theorem Qpp (h : House) (t p w : Int) (hm : Qg h) : ∃ r,JH h t p w = some r ∧ Qae h t p w = some r ∧ Qg r.1 ∧ (Ji h.Slots t = false → r.2 = false) ∧ r.1.Book = h.Book ∧ r.1.Now = h.Now ∧ r.1.No = h.No:=by
 have hm7:=hm
 obtain ⟨m1,m2,m3,m4,m5,m6,m7⟩:=hm7
 obtain ⟨a,a1,a2,a3,a4⟩:=QBc h.Slots t m3
 obtain ⟨b,b1,b2,b3⟩:=QtC h.Chain ⟨t,p,w,h.Now,0⟩ m6
 unfold JH Qae
 simp only [Jl h hm,ZO h hm,a1,a2,b1,b2,Option.bind_some]
 have w1 : Qg ⟨h.No,h.Finds,h.Secrets,a.1,h.Claims,h.Trials,b.1,h.Book,h.Now⟩:=smH hm m1 m2 (by omega) m4 m5 b3 m7
 cases ha : a.2 with
 | true=>exact ⟨_,rfl,rfl,w1,(fun hs=>by rw [a4 hs] at ha; cases ha),rfl,rfl,rfl⟩
 | false=>exact ⟨_,rfl,rfl,w1,(fun _=>rfl),rfl,rfl,rfl⟩
end Go.Proofs.YtncpklppoancgaaGreat
namespace Go.Proofs.YtncpklppoancgaaGreat
open Go
set_option linter.unusedVariables false
set_option linter.unusedSimpArgs false
def Jk (l : List Claim) (t : Int) : Nat → Int
 | 0=>-1
 | n + 1=>if (gt l (n : Int)).Thing = t ∧ (gt l (n : Int)).State = 1 ∧ (Jk l t n < 0 ∨ (gt l (n : Int)).At < (gt l (Jk l t n)).At) then (n : Int) else Jk l t n
theorem Qho (l : List Claim) (t : Int) : ∀ n,Jk l t n = -1 ∨ ∃ j : Nat,j < n ∧ Jk l t n = (j : Int)
 | 0=>.inl rfl
 | n + 1=>by
  unfold Jk
  split
  ·exact .inr ⟨n,by omega,rfl⟩
  ·rcases Qho l t n with h | ⟨j,h1,h2⟩
   ·exact .inl h
   ·exact .inr ⟨j,by omega,h2⟩
theorem Qk6 (l : List Claim) (t : Int) (hl : l.length ≤ 1048576) : ∃ c,Zz l t = some c ∧ Zr l t = some c ∧ (c = 0 ∨ ∃ k : Nat,∃ hk : k < l.length,l[k].Id = c):=by
 have hcase : ∀ i : Nat,(Jk l t (i + 1) = (i : Int) ∧ (gt l (i : Int)).Thing = t ∧ (gt l (i : Int)).State = 1 ∧ (Jk l t i = -1 ∨ ∃ j : Nat,j < i ∧ Jk l t i = (j : Int) ∧ (gt l (i : Int)).At < (gt l (j : Int)).At)) ∨
   (Jk l t (i + 1) = Jk l t i ∧ (¬ (gt l (i : Int)).Thing = t ∨ ¬ (gt l (i : Int)).State = 1 ∨ ∃ j : Nat,j < i ∧ Jk l t i = (j : Int) ∧ ¬ (gt l (i : Int)).At < (gt l (j : Int)).At)):=by
  intro i
  have e : Jk l t (i + 1) = (if (gt l (i : Int)).Thing = t ∧ (gt l (i : Int)).State = 1 ∧ (Jk l t i < 0 ∨ (gt l (i : Int)).At < (gt l (Jk l t i)).At) then (i : Int) else Jk l t i):=rfl
  by_cases hc : (gt l (i : Int)).Thing = t ∧ (gt l (i : Int)).State = 1 ∧ (Jk l t i < 0 ∨ (gt l (i : Int)).At < (gt l (Jk l t i)).At)
  ·rw [if_pos hc] at e
   refine .inl ⟨e,hc.1,hc.2.1,?_⟩
   rcases Qho l t i with h | ⟨j,hj,h⟩
   ·exact .inl h
   ·refine .inr ⟨j,hj,h,?_⟩
    rcases hc.2.2 with h' | h'
    ·omega
    ·rw [h] at h'; exact h'
  ·rw [if_neg hc] at e
   refine .inr ⟨e,?_⟩
   by_cases h1 : (gt l (i : Int)).Thing = t
   ·by_cases h2 : (gt l (i : Int)).State = 1
    ·rcases Qho l t i with h | ⟨j,hj,h⟩
     ·exact absurd ⟨h1,h2,.inl (by omega)⟩ hc
     ·refine .inr (.inr ⟨j,hj,h,fun h'=>hc ⟨h1,h2,.inr (by rw [h]; exact h')⟩⟩)
    ·exact .inr (.inl h2)
   ·exact .inl h1
 have hs:=Xr (step:=Vt l t) (fun i=>(Jk l t i,(i : Int))) (r:=Jk l t l.length) l.length (fun i hi=>by
   have hw:=Q0 (show (i : Int) < 9223372036854775807 by omega)
   rcases hcase i with ⟨e,h1,h2,h3 | ⟨j,hj,h3,h4⟩⟩ | ⟨e,h1 | h2 | ⟨j,hj,h3,h4⟩⟩
   ·simp only [Vt,e,h3,h1,h2,QG hi,Qj hi,hw,decide_true,cond_true,Qc]; rfl
   ·simp only [Vt,e,h3,h1,h2,QG hi,Qj hi,hw,decide_true,cond_true,Qc,Qj (show j < l.length by omega),decide_eq_false (show ¬ (j : Int) < 0 by omega),cond_false,decide_eq_true h4]; rfl
   ·simp only [Vt,e,decide_eq_false h1,QG hi,Qj hi,hw,cond_true,cond_false,Qc]; rfl
   ·cases decide ((gt l (i : Int)).Thing = t) <;> simp only [Vt,e,decide_eq_false h2,QG hi,Qj hi,hw,cond_true,cond_false,Qc] <;> cases decide ((gt l (i : Int)).Thing = t) <;> rfl
   ·simp only [Vt,e,h3,QG hi,Qj hi,hw,cond_true,cond_false,Qc,Qj (show j < l.length by omega),decide_eq_false (show ¬ (j : Int) < 0 by omega),decide_eq_false h4]
    cases decide ((gt l (i : Int)).Thing = t) <;> cases decide ((gt l (i : Int)).State = 1) <;> rfl)
  (by simp only [Vt,QS (Nat.le_refl _),cond_false])
 have hi:=Xr (step:=Vu t l (ln l)) (fun i=>(bif decide (Jk l t i < 0) then (⟨0,0,0,0,0⟩ : Claim) else gt l (Jk l t i),decide (0 ≤ Jk l t i),(i : Int))) (r:=bif decide (Jk l t l.length < 0) then (⟨0,0,0,0,0⟩ : Claim) else gt l (Jk l t l.length)) l.length (fun i hi=>by
   have hw:=Q0 (show (i : Int) < 9223372036854775807 by omega)
   have hn : decide ((i : Int) < 0) = false:=decide_eq_false (by omega)
   have hn' : decide (0 ≤ (i : Int)) = true:=decide_eq_true (by omega)
   rcases hcase i with ⟨e,h1,h2,h3 | ⟨j,hj,h3,h4⟩⟩ | ⟨e,h1 | h2 | ⟨j,hj,h3,h4⟩⟩
   ·simp only [Vu,e,h3,h1,h2,QG hi,Qj hi,hw,decide_true,cond_true,Qc,hn,hn']; rfl
   ·simp only [Vu,e,h3,h1,h2,QG hi,Qj hi,hw,decide_true,cond_true,Qc,hn,hn',decide_eq_false (show ¬ (j : Int) < 0 by omega),decide_eq_true (show 0 ≤ (j : Int) by omega),cond_false,decide_eq_true h4]; rfl
   ·simp only [Vu,e,decide_eq_false h1,QG hi,Qj hi,hw,cond_true,cond_false,Qc]; rfl
   ·simp only [Vu,e,decide_eq_false h2,QG hi,Qj hi,hw,cond_true,cond_false,Qc]
    cases decide ((gt l (i : Int)).Thing = t) <;> rfl
   ·simp only [Vu,e,h3,QG hi,Qj hi,hw,cond_true,cond_false,Qc,decide_eq_false (show ¬ (j : Int) < 0 by omega),decide_eq_true (show 0 ≤ (j : Int) by omega),decide_eq_false h4]
    cases decide ((gt l (i : Int)).Thing = t) <;> cases decide ((gt l (i : Int)).State = 1) <;> rfl)
  (by simp only [Vu,QS (Nat.le_refl _),cond_false])
 have hi' : run (Vu t l (ln l)) ((⟨0,0,0,0,0⟩ : Claim),false,0) = some (bif decide (Jk l t l.length < 0) then (⟨0,0,0,0,0⟩ : Claim) else gt l (Jk l t l.length)):=hi
 unfold Zz Zr
 rw [show run (Vt l t) ((-1),0) = some (Jk l t l.length) from hs,hi']
 rcases Qho l t l.length with h | ⟨j,hj,h⟩
 ·rw [h]; exact ⟨0,rfl,rfl,.inl rfl⟩
 ·rw [h]
  simp only [Option.bind_some,decide_eq_false (show ¬ (j : Int) < 0 by omega),cond_false,Qj hj,QF hj,Qc]
  exact ⟨_,rfl,rfl,.inr ⟨j,hj,rfl⟩⟩
theorem QkE (l : List Find) (id : Int) : ZS l id = -1 ∨ ∃ k : Nat,k < l.length ∧ ZS l id = (k : Int):=by
 unfold ZS
 cases hf : l.findIdx? (fun x=>decide (x.Thing.Id = id)) with
 | none=>exact .inl rfl
 | some i =>
  obtain ⟨hi,hp⟩:=Qch hf
  exact .inr ⟨i,hi,rfl⟩
end Go.Proofs.YtncpklppoancgaaGreat
namespace Go.Proofs.YtncpklppoancgaaGreat
open Go
set_option linter.unusedVariables false
set_option linter.unusedSimpArgs false
theorem Qrc (l : List Entry) (x : Entry) (hl : l.length ≤ 1048576) : ∃ r,Zn l x = some r ∧ Zm l x = some r ∧ r.1.length ≤ 1048576:=by
 have hrm : rm (0 + l.length) 32 = true:=VQ (by omega) (by omega)
 have hrm1 : rm (l.length + 1) 32 = true:=VQ (by omega) (by omega)
 obtain ⟨b,b1,b2,b3⟩:=Qlc (l ++ [x]) (by simp; omega)
 unfold Zn Zm XQ
 simp only [hrm,hrm1,Qc,Option.bind_some,b1,b2]
 cases b with
 | false=>exact ⟨(l,false),rfl,rfl,hl⟩
 | true=>exact ⟨_,rfl,rfl,by have:=(b3 rfl).1; show (l ++ _).length ≤ _; omega⟩
end Go.Proofs.YtncpklppoancgaaGreat
namespace Go.Proofs.YtncpklppoancgaaGreat
open Go
set_option linter.unusedVariables false
set_option linter.unusedSimpArgs false
theorem QGH (x : Thing) (d : Int) : ∃ c,Qd1 x d = some c ∧ Qd9 x d = some c:=by
 unfold Qd1 Qd9
 rw [show Qai x = Jb x from rfl]
 obtain ⟨b,b1,_,_⟩:=QjG x
 rw [b1]
 simp only [Option.bind_some,Qf,Qe]
 cases b with
 | false=>exact ⟨0,rfl,rfl⟩
 | true =>
  cases hd : (decide (0 ≤ d) && decide (d ≤ 1000)) with
  | false=>exact ⟨0,rfl,rfl⟩
  | true =>
   simp only [Bool.and_eq_true,decide_eq_true_eq] at hd
   have hw : 0 ≤ x.Worth ∧ x.Worth ≤ 10000000:=by
    unfold Jb Qf at b1
    simp only [Option.bind_some] at b1
    revert b1
    cases (decide (1 ≤ x.Id) && decide (x.Id ≤ 999)) <;> cases (decide (1 ≤ x.Kind) && decide (x.Kind ≤ 8)) <;> cases (decide (0 ≤ x.Colour) && decide (x.Colour ≤ 7)) <;> cases (decide (1 ≤ x.Size) && decide (x.Size ≤ 50)) <;> simp
   have ht0:=Int.tdiv_nonneg hw.1 (show (0 : Int) ≤ 10 by omega)
   have ht1 : x.Worth.tdiv 10 ≤ x.Worth:=by
    rw [Int.tdiv_eq_ediv_of_nonneg hw.1]; omega
   simp only [Bool.not_true,cond_false,Option.bind_some,Qbw]
   rw [Vz (show _ ≤ 10 * d by omega) (by omega),Vz (show _ ≤ 100 + 10 * d by omega) (by omega),Vz (show _ ≤ x.Worth.tdiv 10 by omega) (by omega)]
   by_cases h : x.Worth.tdiv 10 < 100 + 10 * d
   ·rw [decide_eq_true h,if_pos h]
    refine ⟨_,rfl,?_⟩
    by_cases h' : 0 < x.Worth.tdiv 10
    ·rw [if_pos h']
    ·rw [if_neg h']; congr 1; omega
   ·rw [decide_eq_false h,if_neg h]
    refine ⟨_,rfl,?_⟩
    rw [if_pos (by omega)]
theorem QoN (h : House) (t : Int) (hm : Qg h) : ∃ r,XC h t = some r ∧ QbZ h t = some r ∧ Qg r.1:=by
 have hm7:=hm
 obtain ⟨m1,m2,m3,m4,m5,m6,m7⟩:=hm7
 obtain ⟨p,p1,p2,p3⟩:=Qk6 h.Claims t m4
 obtain ⟨w,w1,w2⟩:=Qd4 h.Slots t m3
 unfold XC QbZ Qa0
 simp only [p1,p2,(JY h.Finds t m1).1,(JY h.Finds t m1).2,(XW h hm).1,(XW h hm).2,Jl h hm,ZO h hm,w1,w2,Option.bind_some]
 rcases QkE h.Finds t with hx | ⟨k,hk,hx⟩
 ·rw [hx]
  refine ⟨(h,false),?_,?_,hm⟩
  ·cases decide (p = 0) <;> rfl
  ·cases Jj h <;> rfl
 ·rw [hx,decide_eq_false (show ¬ (k : Int) < 0 by omega)]
  cases hb : Jj h with
  | false=>exact ⟨(h,false),by cases decide (p = 0) <;> rfl,rfl,hm⟩
  | true =>
   by_cases hp : p = 0
   ·rw [decide_eq_true hp]
    refine ⟨(h,false),rfl,?_,hm⟩
    cases Ji h.Slots t with
    | false=>rfl
    | true=>simp only [Qj hk,Qc]; rfl
   ·rw [decide_eq_false hp]
    obtain ⟨j,hj,hjd⟩:=p3.resolve_left hp
    obtain ⟨c,hc,hcx,hcid⟩:=Qlg h.Claims p j hj hjd
    obtain ⟨g,g1,g2,g3,g4,g5,g6,g7⟩:=Qpp h t 3 h.Claims[c].Who hm
    obtain ⟨s,s1,s2,s3⟩:=QAj h.Claims p 3 m4
    obtain ⟨f,f1,f2⟩:=QGH (h.Finds[k]).Thing (w64 ((w64 (h.Now - (h.Finds[k]).At)).tdiv 24))
    obtain ⟨e,e1,e2,e3⟩:=Qrc h.Book ⟨h.Claims[c].Who,0,f,h.Now⟩ m7
    have hm7':=g3
    obtain ⟨n1,n2,n3,n4,n5,n6,n7⟩:=hm7'
    have o1 : Qg ⟨g.1.No,g.1.Finds,g.1.Secrets,g.1.Slots,s.1,g.1.Trials,g.1.Chain,g.1.Book,g.1.Now⟩:=⟨n1,n2,n3,by show s.1.length ≤ _; omega,n5,n6,n7⟩
    have o2 : Qg ⟨g.1.No,g.1.Finds,g.1.Secrets,g.1.Slots,s.1,g.1.Trials,g.1.Chain,e.1,g.1.Now⟩:=⟨n1,n2,n3,by show s.1.length ≤ _; omega,n5,n6,e3⟩
    have hpay : JN ⟨g.1.No,g.1.Finds,g.1.Secrets,g.1.Slots,s.1,g.1.Trials,g.1.Chain,g.1.Book,g.1.Now⟩ h.Claims[c].Who 0 f =
      some (bif decide (f = 0) then (⟨g.1.No,g.1.Finds,g.1.Secrets,g.1.Slots,s.1,g.1.Trials,g.1.Chain,g.1.Book,g.1.Now⟩,true) else (⟨g.1.No,g.1.Finds,g.1.Secrets,g.1.Slots,s.1,g.1.Trials,g.1.Chain,e.1,g.1.Now⟩,e.2)):=by
     unfold JN
     simp only [g5,g6,e1,Option.bind_some]
     cases decide (f = 0) <;> rfl
    have hin : (bif Ji h.Slots t then g.2 else false) = g.2:=by
     cases hi : Ji h.Slots t with
     | true=>rfl
     | false=>rw [g4 hi]; rfl
    simp only [cond_false,Bool.not_true,Option.bind_some,(Qb8 h.Claims p m4).1,(Qb8 h.Claims p m4).2,hcx,Qj hc,QF hc,Qj hk,QF hk,Qc,g1,s1,f1,hpay]
    have hspec : ∀ b : Bool,(bif b then (bif s.2 then (Qp h (bif decide (f = 0) then (⟨g.1.No,g.1.Finds,g.1.Secrets,g.1.Slots,s.1,g.1.Trials,g.1.Chain,g.1.Book,g.1.Now⟩,true) else (⟨g.1.No,g.1.Finds,g.1.Secrets,g.1.Slots,s.1,g.1.Trials,g.1.Chain,e.1,g.1.Now⟩,e.2) : House × Bool).1 (bif decide (f = 0) then (⟨g.1.No,g.1.Finds,g.1.Secrets,g.1.Slots,s.1,g.1.Trials,g.1.Chain,g.1.Book,g.1.Now⟩,true) else (⟨g.1.No,g.1.Finds,g.1.Secrets,g.1.Slots,s.1,g.1.Trials,g.1.Chain,e.1,g.1.Now⟩,e.2) : House × Bool).2).bind fun r10=>some (r10.1,r10.2) else (Qp h (bif decide (f = 0) then (⟨g.1.No,g.1.Finds,g.1.Secrets,g.1.Slots,s.1,g.1.Trials,g.1.Chain,g.1.Book,g.1.Now⟩,true) else (⟨g.1.No,g.1.Finds,g.1.Secrets,g.1.Slots,s.1,g.1.Trials,g.1.Chain,e.1,g.1.Now⟩,e.2) : House × Bool).1 false).bind fun r11=>some (r11.1,r11.2)) else (Qp h (bif decide (f = 0) then (⟨g.1.No,g.1.Finds,g.1.Secrets,g.1.Slots,s.1,g.1.Trials,g.1.Chain,g.1.Book,g.1.Now⟩,true) else (⟨g.1.No,g.1.Finds,g.1.Secrets,g.1.Slots,s.1,g.1.Trials,g.1.Chain,e.1,g.1.Now⟩,e.2) : House × Bool).1 false).bind fun r12=>some (r12.1,r12.2)) =
      some (bif decide (f = 0) then Qcw h ⟨g.1.No,g.1.Finds,g.1.Secrets,g.1.Slots,s.1,g.1.Trials,g.1.Chain,g.1.Book,g.1.Now⟩ (b && s.2) else Qcw h ⟨g.1.No,g.1.Finds,g.1.Secrets,g.1.Slots,s.1,g.1.Trials,g.1.Chain,e.1,g.1.Now⟩ (b && (s.2 && e.2))):=by
     intro b
     cases decide (f = 0) with
     | true =>
      simp only [cond_true,QdC h _ _ hm o1,Option.bind_some]
      cases b <;> cases s.2 <;> rfl
     | false =>
      simp only [cond_false,QdC h _ _ hm o2,Option.bind_some]
      cases b <;> cases s.2 <;> rfl
    rw [hspec]
    refine ⟨_,rfl,?_,?_⟩
    ·cases hi : Ji h.Slots t with
     | false =>
      rw [g4 hi]
      simp only [Bool.not_false,Option.bind_some,cond_true,Bool.not_false,Bool.true_or,Bool.false_and,QeZ]
      cases decide (f = 0) <;> rfl
     | true =>
      simp only [Bool.not_true,Option.bind_some,cond_false,Bool.or_false,Bool.false_or,decide_eq_false hp,(Qb8 h.Claims p m4).2,hcx,Qj hc,QF hc,Qj hk,QF hk,Qc,g2,s2,f2]
      cases hf : decide (f = 0) with
      | true =>
       simp only [Bool.not_true,cond_false,cond_true,QbO h _ _ hm o1 (show [g.2,s.2,true].length ≤ 1048576 by simp),Option.bind_some,List.all_cons,List.all_nil,Bool.and_true,id_eq]
      | false =>
       simp only [Bool.not_false,cond_false,cond_true,e2,QbO h _ _ hm o2 (show [g.2,s.2,e.2].length ≤ 1048576 by simp),Option.bind_some,List.all_cons,List.all_nil,Bool.and_true,id_eq]
    ·cases decide (f = 0) with
     | true=>exact QaW _ _ _ hm o1
     | false=>exact QaW _ _ _ hm o2
end Go.Proofs.YtncpklppoancgaaGreat
namespace Go.Proofs.YtncpklppoancgaaGreat
open Go
set_option linter.unusedVariables false
set_option linter.unusedSimpArgs false
theorem QqL (f : Find) : ∃ b,Jg f = some b ∧ (b = true → 1 ≤ f.Thing.Kind ∧ f.Thing.Kind ≤ 8):=by
 unfold Jg Jb Qf
 simp only [Option.bind_some]
 cases h1 : (decide (1 ≤ f.Thing.Id) && decide (f.Thing.Id ≤ 999)) with
 | false=>exact ⟨false,rfl,fun h=>by cases h⟩
 | true =>
  cases h2 : (decide (1 ≤ f.Thing.Kind) && decide (f.Thing.Kind ≤ 8)) with
  | false=>exact ⟨false,rfl,fun h=>by cases h⟩
  | true =>
   have hk : 1 ≤ f.Thing.Kind ∧ f.Thing.Kind ≤ 8:=by simpa using h2
   simp only [cond_true]
   cases (decide (0 ≤ f.Thing.Colour) && decide (f.Thing.Colour ≤ 7)) <;> cases (decide (1 ≤ f.Thing.Size) && decide (f.Thing.Size ≤ 50)) <;> cases (decide (0 ≤ f.Thing.Worth) && decide (f.Thing.Worth ≤ 10000000)) <;>
    cases (decide (1 ≤ f.Place) && decide (f.Place ≤ 30)) <;> cases (decide (0 ≤ f.At) && decide (f.At ≤ 100000)) <;> cases (decide (0 ≤ f.Finder) && decide (f.Finder ≤ 999)) <;> exact ⟨_,rfl,fun _=>hk⟩
theorem Qyq (k : Int) (h1 : 1 ≤ k) (h2 : k ≤ 8) : ∃ d,Qid k = some d ∧ QdV k = some d:=by
 have : k = 1 ∨ k = 2 ∨ k = 3 ∨ k = 4 ∨ k = 5 ∨ k = 6 ∨ k = 7 ∨ k = 8:=by omega
 rcases this with rfl | rfl | rfl | rfl | rfl | rfl | rfl | rfl <;> exact ⟨_,rfl,rfl⟩
theorem QNj (f : Find) (now : Int) : ∃ b,Qio f now = some b ∧ QeB f now = some b:=by
 obtain ⟨b,h1,h2⟩:=QqL f
 unfold Qio QeB Qi0 Qer
 rw [show Qa3 f = Jg f from rfl,h1]
 cases b with
 | false=>exact ⟨false,rfl,rfl⟩
 | true =>
  obtain ⟨k1,k2⟩:=h2 rfl
  obtain ⟨d,h3,h4⟩:=Qyq f.Thing.Kind k1 k2
  simp only [Option.bind_some,cond_true,cond_false,Bool.not_true,h3,h4]
  exact ⟨_,rfl,rfl⟩
theorem Qx2 (f : Find) (l : List Claim) (now : Int) (hl : l.length ≤ 1048576) : ∃ c,QeY f l now = some c ∧ Qc6 f l now = some c:=by
 obtain ⟨p,p1,p2,_⟩:=Qk6 l f.Thing.Id hl
 obtain ⟨d,d1,d2⟩:=QNj f now
 have hs:=Qf3 l (fun x=>decide (x.Thing = f.Thing.Id) && decide (x.State = 0)) (r:=(0 : Int)) (step:=Qdh l now f)
  (fun i hi=>by
   simp only [Qdh,QG hi,Qj hi,QF hi,Q0 (show (i : Int) < 9223372036854775807 by omega),cond_true,Qc,Option.bind_some]
   cases (decide (l[i].Thing = f.Thing.Id) && decide (l[i].State = 0)) <;> rfl)
  (by simp only [Qdh,QS (Nat.le_refl _),cond_false])
 have hi:=XY l (fun x=>decide (x.Thing = f.Thing.Id) && decide (x.State = 0)) (fun i=>(i : Int)) (step:=QV l f.Thing (ln l))
  (fun i hi=>by
   simp only [QV,QdU,QG hi,Qj hi,QF hi,Q0 (show (i : Int) < 9223372036854775807 by omega),cond_true,Qc,Option.bind_some]
   cases (decide (l[i].Thing = f.Thing.Id) && decide (l[i].State = 0)) <;> rfl)
  (by simp only [QV,QS (Nat.le_refl _),cond_false])
 have hc : Vd l f.Thing = some (l.any (fun x=>decide (x.Thing = f.Thing.Id) && decide (x.State = 0))):=by
  unfold Vd VN
  rw [hi]
  cases hf : l.findIdx? (fun x=>decide (x.Thing = f.Thing.Id) && decide (x.State = 0)) with
  | none =>
   have : l.any (fun x=>decide (x.Thing = f.Thing.Id) && decide (x.State = 0)) = false:=by
    rw [List.any_eq_false]
    intro x hx
    have:=List.findIdx?_eq_none_iff.1 hf x hx
    simpa using this
   rw [this]; rfl
  | some i =>
   obtain ⟨hi',hp⟩:=Qch hf
   rw [List.any_eq_true.2 ⟨_,List.getElem_mem hi',hp⟩]
   simp only [Option.bind_some,evO,decide_eq_true (show (0 : Int) ≤ (i : Int) by omega)]
 unfold QeY Qc6
 rw [p1,p2,d1,d2,hs,hc]
 simp only [Option.bind_some]
 have hlt : decide (f.Thing.Worth ≤ 5000) = !decide (5000 < f.Thing.Worth):=by
  by_cases h : 5000 < f.Thing.Worth
  ·rw [decide_eq_true h,decide_eq_false (by omega)]; rfl
  ·rw [decide_eq_false h,decide_eq_true (by omega)]; rfl
 rw [hlt]
 generalize l.any (fun x=>decide (x.Thing = f.Thing.Id) && decide (x.State = 0)) = q
 cases decide (p = 0) <;> cases q <;> cases d <;> cases (decide (f.Thing.Kind = 7) || decide (f.Thing.Worth = 0)) <;> cases decide (5000 < f.Thing.Worth) <;> cases decide (f.Finder = 0) <;> exact ⟨_,rfl,rfl⟩
end Go.Proofs.YtncpklppoancgaaGreat
namespace Go.Proofs.YtncpklppoancgaaGreat
open Go
set_option linter.unusedVariables false
set_option linter.unusedSimpArgs false
theorem Qzc (h : House) (out : House) (hm : Qg h) : QaM h out [false] = some (h,false):=by
 unfold QaM
 simp only [QmS [false] (by simp),ZO h hm,Option.bind_some]
 rfl
theorem Qwj (h : House) (t : Int) (hm : Qg h) : ∃ r,QaF h t = some r ∧ QbV h t = some r ∧ Qg r.1:=by
 have hm7:=hm
 obtain ⟨m1,m2,m3,m4,m5,m6,m7⟩:=hm7
 obtain ⟨w,w1,w2⟩:=Qd4 h.Slots t m3
 unfold QaF QbV Qa0
 simp only [(JY h.Finds t m1).1,(JY h.Finds t m1).2,(XW h hm).1,(XW h hm).2,Jl h hm,ZO h hm,w1,w2,Option.bind_some]
 rcases QkE h.Finds t with hx | ⟨k,hk,hx⟩
 ·rw [hx]
  refine ⟨(h,false),rfl,?_,hm⟩
  cases Jj h <;> rfl
 ·rw [hx,decide_eq_false (show ¬ (k : Int) < 0 by omega)]
  cases hb : Jj h with
  | false=>exact ⟨(h,false),rfl,rfl,hm⟩
  | true =>
   obtain ⟨f,f1,f2⟩:=Qx2 h.Finds[k] h.Claims h.Now m4
   obtain ⟨a,a1,a2,a3,a4,_⟩:=Qpp h t 3 (h.Finds[k]).Finder hm
   obtain ⟨b,b1,b2,b3,b4,_⟩:=Qpp h t 5 0 hm
   simp only [cond_false,Bool.not_true,Option.bind_some,Qj hk,QF hk,Qc,f1,a1,b1,QdC h _ _ hm a3,QdC h _ _ hm b3]
   refine ⟨bif decide (f = 2) then Qcw h a.1 a.2 else bif decide (f = 4) then Qcw h b.1 b.2 else bif decide (f = 5) then Qcw h b.1 b.2 else (h,false),?_,?_,?_⟩
   ·cases decide (f = 2) <;> cases decide (f = 4) <;> cases decide (f = 5) <;> rfl
   ·cases hi : Ji h.Slots t with
    | false =>
     rw [a4 hi,b4 hi]
     simp only [Bool.not_false,Option.bind_some,cond_true,QeZ]
     cases decide (f = 2) <;> cases decide (f = 4) <;> cases decide (f = 5) <;> rfl
    | true =>
     simp only [Bool.not_true,Option.bind_some,cond_false,Qj hk,QF hk,Qc,f2,a2,b2,Qzc h h hm,QbO h _ _ hm a3 (show [a.2].length ≤ 1048576 by simp),QbO h _ _ hm b3 (show [b.2].length ≤ 1048576 by simp),List.all_cons,List.all_nil,Bool.and_true,id_eq]
     cases decide (f = 2) <;> cases decide (f = 4) <;> cases decide (f = 5) <;> rfl
   ·cases decide (f = 2) <;> cases decide (f = 4) <;> cases decide (f = 5) <;> first | exact QaW _ _ _ hm a3 | exact QaW _ _ _ hm b3 | exact hm
end Go.Proofs.YtncpklppoancgaaGreat
