import Derived.Test.YtonidbheohhgdaaGreatPz2
namespace Go.Proofs.YtonidbheohhgdaaGreat
open Go
set_option linter.unusedVariables false
set_option linter.unusedSimpArgs false
theorem Qnp {n : Nat} (f : Nat → Int) (h : ∀ i,i < n → 0 < i → f (i - 1) < f i) : ∀ j i,i < j → j < n → f i < f j:=by
 intro j
 induction j with
 | zero=>intro i h1 _; omega
 | succ j ih =>
  intro i h1 h2
  have h3:=h (j + 1) h2 (by omega)
  rw [show j + 1 - 1 = j by omega] at h3
  by_cases hij : i = j
  ·subst hij; exact h3
  ·have:=ih i (by omega) (by omega); omega
theorem Qfr (l : List Slot) (h : ∀ i (hi : i < l.length) (h0 : 0 < i),(l[i - 1]'(by omega)).Id < l[i].Id) (i j : Nat) (hi : i < l.length) (hj : j < l.length) (he : l[i].Id = l[j].Id) : i = j:=by
 have hu:=Qnp (n:=l.length) (fun i=>(gt l (i : Int)).Id) (fun i h1 h2=>by
  show (gt l ((i - 1 : Nat) : Int)).Id < (gt l (i : Int)).Id
  rw [Qm h1,Qm (show i - 1 < l.length by omega)]; exact h i h1 h2)
 by_cases h1 : i < j
 ·have:=hu j i h1 hj
  simp only [Qm hi,Qm hj] at this; omega
 ·by_cases h2 : j < i
  ·have:=hu i j h2 hi
   simp only [Qm hi,Qm hj] at this; omega
  ·omega
theorem Qle (l : List Slot) (t : Int) (hl : l.length ≤ 1048576) : JC l t = some (bif decide (t = 0) || decide (QaG l t < 0) then 0 else (gt l (QaG l t)).Id):=by
 have hr:=XH l (fun x=>!decide (t = 0) && decide (x.Thing = t)) (fun i=>(gt l (i : Int)).Id) (step:=XQ l t)
  (fun i hi=>by
   simp only [XQ,Qt hi,Qe hi,Qm hi,QD (show (i : Int) < 9223372036854775807 by omega),cond_true,Qa]
   cases decide (t = 0) <;> cases decide (l[i].Thing = t) <;> rfl)
  (by simp only [XQ,Qx (Nat.le_refl _),cond_false])
 unfold JC QaG
 rw [hr]
 cases decide (t = 0) with
 | true =>
  have : l.findIdx? (fun x=>!true && decide (x.Thing = t)) = none:=by rw [List.findIdx?_eq_none_iff]; intro x _; rfl
  rw [this]; rfl
 | false =>
  have e : (fun x : Slot=>!false && decide (x.Thing = t)) = (fun x : Slot=>decide (x.Thing = t)):=by funext x; simp
  rw [e]
  cases l.findIdx? (fun x=>decide (x.Thing = t)) with
  | none=>rfl
  | some i =>
   simp only [Option.bind_some,evO,Bool.false_or,decide_eq_false (show ¬ (i : Int) < 0 by omega),cond_false]
def XT (l : List Slot) (t : Int) : Bool:=!(decide (t = 0) || decide (QaG l t < 0))
theorem Qbv (l : List Slot) (t : Int) (hl : l.length ≤ 1048576) : ∃ c,V2 l t = some c ∧ decide (c < 0) = !XT l t:=by
 rw [Qf2 l t hl]
 unfold XT
 cases decide (t = 0) with
 | true=>exact ⟨-1,rfl,rfl⟩
 | false=>exact ⟨QaG l t,rfl,by simp⟩
end Go.Proofs.YtonidbheohhgdaaGreat
namespace Go.Proofs.YtonidbheohhgdaaGreat
open Go
set_option linter.unusedVariables false
set_option linter.unusedSimpArgs false
theorem QtH (l : List Hand) (x : Hand) (hl : l.length ≤ 1048576) : ∃ r,QbI l x = some r ∧ QbT l x = some r ∧ r.1.length ≤ 1048576:=by
 have hrm : rm (0 + l.length) 40 = true:=Vz (by omega) (by omega)
 have hrm1 : rm (l.length + 1) 40 = true:=Vz (by omega) (by omega)
 unfold QbI QbT V4
 have tail : ∀ s : Int,∃ r,((Jm s x).bind fun r=>nd (rm (0 + l.length) 40) <| nd (rm (l.length + 1) 40) <| (Vx (l ++ [(⟨x.Thing,x.Holder,x.Who,x.At,r⟩ : Hand)])).bind fun r2=>(bif (!r2) then nd (rm (0 + l.length) 40) <| some (l,false) else some (l ++ [(⟨x.Thing,x.Holder,x.Who,x.At,r⟩ : Hand)],true))) = some r ∧
   ((Jn s x).bind fun r=>(nd (rm (0 + l.length) 40) <| some l).bind fun r2=>nd (rm (r2.length + 1) 40) <| (VQ (r2 ++ [(⟨x.Thing,x.Holder,x.Who,x.At,r⟩ : Hand)])).bind fun r3=>(bif (!r3) then (nd (rm (0 + l.length) 40) <| some l).bind fun r4=>some (r4,false) else some (r2 ++ [(⟨x.Thing,x.Holder,x.Who,x.At,r⟩ : Hand)],true))) = some r ∧ r.1.length ≤ 1048576:=by
  intro s
  obtain ⟨c,c1,c2⟩:=QmP s x
  obtain ⟨b,b1,b2,b3⟩:=QiA (l ++ [(⟨x.Thing,x.Holder,x.Who,x.At,c⟩ : Hand)])
  simp only [c1,c2,Option.bind_some,hrm,hrm1,Qa,b1,b2]
  cases b with
  | false=>exact ⟨(l,false),rfl,rfl,hl⟩
  | true=>exact ⟨_,rfl,rfl,by have:=(b3 rfl).1; show (l ++ _).length ≤ _; omega⟩
 by_cases h0 : 0 < l.length
 ·simp only [show decide (0 < ln l) = true from decide_eq_true (by rw [VA]; omega),cond_true,show w64 (ln l - 1) = ((l.length - 1 : Nat) : Int) from by rw [VA,Vj] <;> omega,Qe (show l.length - 1 < l.length by omega),Qa]
  exact tail _
 ·simp only [show decide (0 < ln l) = false from decide_eq_false (by rw [VA]; omega),cond_false]
  exact tail 0
end Go.Proofs.YtonidbheohhgdaaGreat
namespace Go.Proofs.YtonidbheohhgdaaGreat
open Go
set_option linter.unusedVariables false
set_option linter.unusedSimpArgs false
theorem Qqe (l : List Slot) (t : Int) (hl : l.length ≤ 1048576) : ∃ r,QaF l t = some r ∧ QbH l t = some r ∧ r.1.length = l.length ∧ (XT l t = false → r.2 = false) ∧ (r.2 = true → t ≠ 0 ∧ V0 l = some true ∧ ∃ (k : Nat) (hk : k < l.length),l[k].Thing = t ∧ r.1 = l.set k ⟨l[k].Id,l[k].Size,0⟩):=by
 obtain ⟨c,c1,c2,c3⟩:=QjJ l hl
 have hrm : rm (0 + l.length) 24 = true:=Vz (by omega) (by omega)
 unfold QaF QbH Xj XT
 simp only [hrm,Qa,c1,c2,Qle l t hl,Qf2 l t hl,Option.bind_some]
 cases c with
 | false=>exact ⟨(l,false),rfl,rfl,rfl,fun _=>rfl,fun h=>by cases h⟩
 | true =>
  obtain ⟨s1,s2,s3⟩:=c3 rfl
  cases ht : decide (t = 0) with
  | true=>exact ⟨(l,false),rfl,rfl,rfl,fun _=>rfl,fun h=>by cases h⟩
  | false =>
   rcases Qen l t with ⟨_,h2⟩ | ⟨k,hk,h2,h3,_⟩
   ·rw [h2]; exact ⟨(l,false),rfl,rfl,rfl,fun _=>rfl,fun h=>by cases h⟩
   ·rw [h2]
    have hid : 1 ≤ l[k].Id:=s2 _ (List.getElem_mem hk)
    simp only [Bool.false_or,Bool.not_true,cond_false,decide_eq_false (show ¬ (k : Int) < 0 by omega),Qm hk,Qe hk,Qa,decide_eq_false (show ¬ l[k].Id = 0 by omega),Int.toNat_natCast]
    have hr:=XP (step:=JS l[k].Id) (fun i=>(if i ≤ k then l else l.set k ⟨l[k].Id,l[k].Size,0⟩,(i : Int))) (r:=l.set k ⟨l[k].Id,l[k].Size,0⟩) l.length (fun i hi=>by
      have hw:=QD (show (i : Int) < 9223372036854775807 by omega)
      by_cases hik : i < k
      ·have hne : ¬ l[i].Id = l[k].Id:=fun e=>by have:=Qfr l s3 i k hi hk e; omega
       simp only [JS,if_pos (show i ≤ k by omega),if_pos (show i + 1 ≤ k by omega),Qt hi,Qe hi,Qm hi,hw,decide_eq_false hne,cond_true,cond_false,Qa]
      ·by_cases hek : i = k
       ·subst hek
        simp only [JS,if_pos (Nat.le_refl i),if_neg (show ¬ i + 1 ≤ i by omega),Qt hi,Qe hi,Qm hi,hw,decide_true,cond_true,Qa,Int.toNat_natCast]
       ·have hne : ¬ l[i].Id = l[k].Id:=fun e=>by have:=Qfr l s3 i k hi hk e; omega
        have hi' : i < (l.set k ⟨l[k].Id,l[k].Size,0⟩).length:=by rw [List.length_set]; exact hi
        have hg : gt (l.set k ⟨l[k].Id,l[k].Size,0⟩) (i : Int) = l[i]:=by rw [Qo1 l k _ i hi,if_neg hek,Qm hi]
        simp only [JS,if_neg (show ¬ i ≤ k by omega),if_neg (show ¬ i + 1 ≤ k by omega),Qt hi',Qe hi',hg,hw,decide_eq_false hne,cond_true,cond_false,Qa])
     (by
      simp only [JS,if_neg (show ¬ l.length ≤ k by omega)]
      rw [show decide ((l.length : Int) < ln (l.set k ⟨l[k].Id,l[k].Size,0⟩)) = false from decide_eq_false (by rw [VA,List.length_set]; omega)]
      rfl)
    simp only [show run (JS l[k].Id) (l,0) = some (l.set k ⟨l[k].Id,l[k].Size,0⟩) from hr,Option.bind_some]
    exact ⟨_,rfl,rfl,List.length_set,fun h=>(by simp at h),fun _=>⟨of_decide_eq_false ht,trivial,k,hk,h3,rfl⟩⟩
theorem QAT (l : List Slot) (t : Int) (hl : l.length ≤ 1048576) : ∃ r,QaF l t = some r ∧ QbH l t = some r ∧ r.1.length = l.length ∧ (XT l t = false → r.2 = false):=by
 obtain ⟨r,r1,r2,r3,r4,_⟩:=Qqe l t hl
 exact ⟨r,r1,r2,r3,r4⟩
theorem QoI (h : House) (t p w : Int) (hm : Qf h) : ∃ r,Jd h t p w = some r ∧ ZK h t p w = some r ∧ Qf r.1 ∧ (XT h.Slots t = false → r.2 = false) ∧ r.1.Book = h.Book ∧ r.1.Now = h.Now ∧ r.1.No = h.No:=by
 have hm7:=hm
 obtain ⟨m1,m2,m3,m4,m5,m6,m7⟩:=hm7
 obtain ⟨a,a1,a2,a3,a4⟩:=QAT h.Slots t m3
 obtain ⟨b,b1,b2,b3⟩:=QtH h.Chain ⟨t,p,w,h.Now,0⟩ m6
 unfold Jd ZK
 simp only [V5 h hm,JN h hm,a1,a2,b1,b2,Option.bind_some]
 have w1 : Qf ⟨h.No,h.Finds,h.Secrets,a.1,h.Claims,h.Trials,b.1,h.Book,h.Now⟩:=smH hm m1 m2 (by omega) m4 m5 b3 m7
 cases ha : a.2 with
 | true=>exact ⟨_,rfl,rfl,w1,(fun hs=>by rw [a4 hs] at ha; cases ha),rfl,rfl,rfl⟩
 | false=>exact ⟨_,rfl,rfl,w1,(fun _=>rfl),rfl,rfl,rfl⟩
end Go.Proofs.YtonidbheohhgdaaGreat
namespace Go.Proofs.YtonidbheohhgdaaGreat
open Go
set_option linter.unusedVariables false
set_option linter.unusedSimpArgs false
def XC (l : List Claim) (t : Int) : Nat → Int
 | 0=>-1
 | n + 1=>if (gt l (n : Int)).Thing = t ∧ (gt l (n : Int)).State = 1 ∧ (XC l t n < 0 ∨ (gt l (n : Int)).At < (gt l (XC l t n)).At) then (n : Int) else XC l t n
theorem QgV (l : List Claim) (t : Int) : ∀ n,XC l t n = -1 ∨ ∃ j : Nat,j < n ∧ XC l t n = (j : Int)
 | 0=>.inl rfl
 | n + 1=>by
  unfold XC
  split
  ·exact .inr ⟨n,by omega,rfl⟩
  ·rcases QgV l t n with h | ⟨j,h1,h2⟩
   ·exact .inl h
   ·exact .inr ⟨j,by omega,h2⟩
theorem QnL (l : List Claim) (t : Int) : ∀ (n j : Nat),XC l t n = (j : Int) → (gt l (j : Int)).Thing = t ∧ (gt l (j : Int)).State = 1
 | 0,j,h=>by unfold XC at h; omega
 | n + 1,j,h=>by
  unfold XC at h
  split at h
  ·rename_i hc
   have : n = j:=by omega
   subst this
   exact ⟨hc.1,hc.2.1⟩
  ·exact QnL l t n j h
theorem Qjd (l : List Claim) (t : Int) (hl : l.length ≤ 1048576) : ∃ c,XM l t = some c ∧ XL l t = some c ∧ (c = 0 ∨ ∃ k : Nat,∃ hk : k < l.length,l[k].Id = c ∧ l[k].Thing = t ∧ l[k].State = 1):=by
 have hcase : ∀ i : Nat,(XC l t (i + 1) = (i : Int) ∧ (gt l (i : Int)).Thing = t ∧ (gt l (i : Int)).State = 1 ∧ (XC l t i = -1 ∨ ∃ j : Nat,j < i ∧ XC l t i = (j : Int) ∧ (gt l (i : Int)).At < (gt l (j : Int)).At)) ∨
   (XC l t (i + 1) = XC l t i ∧ (¬ (gt l (i : Int)).Thing = t ∨ ¬ (gt l (i : Int)).State = 1 ∨ ∃ j : Nat,j < i ∧ XC l t i = (j : Int) ∧ ¬ (gt l (i : Int)).At < (gt l (j : Int)).At)):=by
  intro i
  have e : XC l t (i + 1) = (if (gt l (i : Int)).Thing = t ∧ (gt l (i : Int)).State = 1 ∧ (XC l t i < 0 ∨ (gt l (i : Int)).At < (gt l (XC l t i)).At) then (i : Int) else XC l t i):=rfl
  by_cases hc : (gt l (i : Int)).Thing = t ∧ (gt l (i : Int)).State = 1 ∧ (XC l t i < 0 ∨ (gt l (i : Int)).At < (gt l (XC l t i)).At)
  ·rw [if_pos hc] at e
   refine .inl ⟨e,hc.1,hc.2.1,?_⟩
   rcases QgV l t i with h | ⟨j,hj,h⟩
   ·exact .inl h
   ·refine .inr ⟨j,hj,h,?_⟩
    rcases hc.2.2 with h' | h'
    ·omega
    ·rw [h] at h'; exact h'
  ·rw [if_neg hc] at e
   refine .inr ⟨e,?_⟩
   by_cases h1 : (gt l (i : Int)).Thing = t
   ·by_cases h2 : (gt l (i : Int)).State = 1
    ·rcases QgV l t i with h | ⟨j,hj,h⟩
     ·exact absurd ⟨h1,h2,.inl (by omega)⟩ hc
     ·refine .inr (.inr ⟨j,hj,h,fun h'=>hc ⟨h1,h2,.inr (by rw [h]; exact h')⟩⟩)
    ·exact .inr (.inl h2)
   ·exact .inl h1
 have hs:=XP (step:=VI l t) (fun i=>(XC l t i,(i : Int))) (r:=XC l t l.length) l.length (fun i hi=>by
   have hw:=QD (show (i : Int) < 9223372036854775807 by omega)
   rcases hcase i with ⟨e,h1,h2,h3 | ⟨j,hj,h3,h4⟩⟩ | ⟨e,h1 | h2 | ⟨j,hj,h3,h4⟩⟩
   ·simp only [VI,e,h3,h1,h2,Qt hi,Qe hi,hw,decide_true,cond_true,Qa]; rfl
   ·simp only [VI,e,h3,h1,h2,Qt hi,Qe hi,hw,decide_true,cond_true,Qa,Qe (show j < l.length by omega),decide_eq_false (show ¬ (j : Int) < 0 by omega),cond_false,decide_eq_true h4]; rfl
   ·simp only [VI,e,decide_eq_false h1,Qt hi,Qe hi,hw,cond_true,cond_false,Qa]; rfl
   ·cases decide ((gt l (i : Int)).Thing = t) <;> simp only [VI,e,decide_eq_false h2,Qt hi,Qe hi,hw,cond_true,cond_false,Qa] <;> cases decide ((gt l (i : Int)).Thing = t) <;> rfl
   ·simp only [VI,e,h3,Qt hi,Qe hi,hw,cond_true,cond_false,Qa,Qe (show j < l.length by omega),decide_eq_false (show ¬ (j : Int) < 0 by omega),decide_eq_false h4]
    cases decide ((gt l (i : Int)).Thing = t) <;> cases decide ((gt l (i : Int)).State = 1) <;> rfl)
  (by simp only [VI,Qx (Nat.le_refl _),cond_false])
 have hi:=XP (step:=Ve t l (ln l)) (fun i=>(bif decide (XC l t i < 0) then (⟨0,0,0,0,0⟩ : Claim) else gt l (XC l t i),decide (0 ≤ XC l t i),(i : Int))) (r:=bif decide (XC l t l.length < 0) then (⟨0,0,0,0,0⟩ : Claim) else gt l (XC l t l.length)) l.length (fun i hi=>by
   have hw:=QD (show (i : Int) < 9223372036854775807 by omega)
   have hn : decide ((i : Int) < 0) = false:=decide_eq_false (by omega)
   have hn' : decide (0 ≤ (i : Int)) = true:=decide_eq_true (by omega)
   rcases hcase i with ⟨e,h1,h2,h3 | ⟨j,hj,h3,h4⟩⟩ | ⟨e,h1 | h2 | ⟨j,hj,h3,h4⟩⟩
   ·simp only [Ve,e,h3,h1,h2,Qt hi,Qe hi,hw,decide_true,cond_true,Qa,hn,hn']; rfl
   ·simp only [Ve,e,h3,h1,h2,Qt hi,Qe hi,hw,decide_true,cond_true,Qa,hn,hn',decide_eq_false (show ¬ (j : Int) < 0 by omega),decide_eq_true (show 0 ≤ (j : Int) by omega),cond_false,decide_eq_true h4]; rfl
   ·simp only [Ve,e,decide_eq_false h1,Qt hi,Qe hi,hw,cond_true,cond_false,Qa]; rfl
   ·simp only [Ve,e,decide_eq_false h2,Qt hi,Qe hi,hw,cond_true,cond_false,Qa]
    cases decide ((gt l (i : Int)).Thing = t) <;> rfl
   ·simp only [Ve,e,h3,Qt hi,Qe hi,hw,cond_true,cond_false,Qa,decide_eq_false (show ¬ (j : Int) < 0 by omega),decide_eq_true (show 0 ≤ (j : Int) by omega),decide_eq_false h4]
    cases decide ((gt l (i : Int)).Thing = t) <;> cases decide ((gt l (i : Int)).State = 1) <;> rfl)
  (by simp only [Ve,Qx (Nat.le_refl _),cond_false])
 have hi' : run (Ve t l (ln l)) ((⟨0,0,0,0,0⟩ : Claim),false,0) = some (bif decide (XC l t l.length < 0) then (⟨0,0,0,0,0⟩ : Claim) else gt l (XC l t l.length)):=hi
 unfold XM XL
 rw [show run (VI l t) ((-1),0) = some (XC l t l.length) from hs,hi']
 rcases QgV l t l.length with h | ⟨j,hj,h⟩
 ·rw [h]; exact ⟨0,rfl,rfl,.inl rfl⟩
 ·rw [h]
  simp only [Option.bind_some,decide_eq_false (show ¬ (j : Int) < 0 by omega),cond_false,Qe hj,Qm hj,Qa]
  have hc:=QnL l t l.length j h
  rw [Qm hj] at hc
  exact ⟨_,rfl,rfl,.inr ⟨j,hj,rfl,hc⟩⟩
theorem Qf6 (l : List Claim) (t : Int) (hl : l.length ≤ 1048576) : ∃ c,XM l t = some c ∧ XL l t = some c ∧ (c = 0 ∨ ∃ k : Nat,∃ hk : k < l.length,l[k].Id = c):=by
 obtain ⟨c,h1,h2,h3⟩:=Qjd l t hl
 exact ⟨c,h1,h2,h3.imp id fun ⟨k,hk,h,_⟩=>⟨k,hk,h⟩⟩
theorem Qjy (l : List Find) (id : Int) : Xg l id = -1 ∨ ∃ k : Nat,k < l.length ∧ Xg l id = (k : Int):=by
 unfold Xg
 cases hf : l.findIdx? (fun x=>decide (x.Thing.Id = id)) with
 | none=>exact .inl rfl
 | some i =>
  obtain ⟨hi,hp⟩:=ZZ hf
  exact .inr ⟨i,hi,rfl⟩
end Go.Proofs.YtonidbheohhgdaaGreat
namespace Go.Proofs.YtonidbheohhgdaaGreat
open Go
set_option linter.unusedVariables false
set_option linter.unusedSimpArgs false
theorem Qqs (l : List Entry) (x : Entry) (hl : l.length ≤ 1048576) : ∃ r,J7 l x = some r ∧ J4 l x = some r ∧ r.1.length ≤ 1048576:=by
 have hrm : rm (0 + l.length) 32 = true:=Vz (by omega) (by omega)
 have hrm1 : rm (l.length + 1) 32 = true:=Vz (by omega) (by omega)
 obtain ⟨b,b1,b2,b3⟩:=Qf4 (l ++ [x]) (by simp; omega)
 unfold J7 J4 XA
 simp only [hrm,hrm1,Qa,Option.bind_some,b1,b2]
 cases b with
 | false=>exact ⟨(l,false),rfl,rfl,hl⟩
 | true=>exact ⟨_,rfl,rfl,by have:=(b3 rfl).1; show (l ++ _).length ≤ _; omega⟩
end Go.Proofs.YtonidbheohhgdaaGreat
namespace Go.Proofs.YtonidbheohhgdaaGreat
open Go
set_option linter.unusedVariables false
set_option linter.unusedSimpArgs false
theorem QEj (x : Thing) (d : Int) : ∃ c,Qgh x d = some c ∧ QdC x d = some c:=by
 unfold Qgh QdC
 rw [show ZG x = XO x from rfl]
 obtain ⟨b,b1,_,_⟩:=Qi5 x
 rw [b1]
 simp only [Option.bind_some,Qc,Qb]
 cases b with
 | false=>exact ⟨0,rfl,rfl⟩
 | true =>
  cases hd : (decide (0 ≤ d) && decide (d ≤ 1000)) with
  | false=>exact ⟨0,rfl,rfl⟩
  | true =>
   simp only [Bool.and_eq_true,decide_eq_true_eq] at hd
   have hw : 0 ≤ x.Worth ∧ x.Worth ≤ 10000000:=by
    unfold XO Qc at b1
    simp only [Option.bind_some] at b1
    revert b1
    cases (decide (1 ≤ x.Id) && decide (x.Id ≤ 999)) <;> cases (decide (1 ≤ x.Kind) && decide (x.Kind ≤ 8)) <;> cases (decide (0 ≤ x.Colour) && decide (x.Colour ≤ 7)) <;> cases (decide (1 ≤ x.Size) && decide (x.Size ≤ 50)) <;> simp
   have ht0:=Int.tdiv_nonneg hw.1 (show (0 : Int) ≤ 10 by omega)
   have ht1 : x.Worth.tdiv 10 ≤ x.Worth:=by
    rw [Int.tdiv_eq_ediv_of_nonneg hw.1]; omega
   simp only [Bool.not_true,cond_false,Option.bind_some,Qe8]
   rw [Vj (show _ ≤ 10 * d by omega) (by omega),Vj (show _ ≤ 100 + 10 * d by omega) (by omega),Vj (show _ ≤ x.Worth.tdiv 10 by omega) (by omega)]
   by_cases h : x.Worth.tdiv 10 < 100 + 10 * d
   ·rw [decide_eq_true h,if_pos h]
    refine ⟨_,rfl,?_⟩
    by_cases h' : 0 < x.Worth.tdiv 10
    ·rw [if_pos h']
    ·rw [if_neg h']; congr 1; omega
   ·rw [decide_eq_false h,if_neg h]
    refine ⟨_,rfl,?_⟩
    rw [if_pos (by omega)]
theorem QuA (h : House) (t : Int) (hm : Qf h) : ∃ r,Zm h t = some r ∧ Qbq h t = some r ∧ Qf r.1:=by
 have hm7:=hm
 obtain ⟨m1,m2,m3,m4,m5,m6,m7⟩:=hm7
 obtain ⟨p,p1,p2,p3⟩:=Qf6 h.Claims t m4
 obtain ⟨w,w1,w2⟩:=Qbv h.Slots t m3
 unfold Zm Qbq Qas
 simp only [p1,p2,(VZ h.Finds t m1).1,(VZ h.Finds t m1).2,(XF h hm).1,(XF h hm).2,V5 h hm,JN h hm,w1,w2,Option.bind_some]
 rcases Qjy h.Finds t with hx | ⟨k,hk,hx⟩
 ·rw [hx]
  refine ⟨(h,false),?_,?_,hm⟩
  ·cases decide (p = 0) <;> rfl
  ·cases Jf h <;> rfl
 ·rw [hx,decide_eq_false (show ¬ (k : Int) < 0 by omega)]
  cases hb : Jf h with
  | false=>exact ⟨(h,false),by cases decide (p = 0) <;> rfl,rfl,hm⟩
  | true =>
   by_cases hp : p = 0
   ·rw [decide_eq_true hp]
    refine ⟨(h,false),rfl,?_,hm⟩
    cases XT h.Slots t with
    | false=>rfl
    | true=>simp only [Qe hk,Qa]; rfl
   ·rw [decide_eq_false hp]
    obtain ⟨j,hj,hjd⟩:=p3.resolve_left hp
    obtain ⟨c,hc,hcx,hcid⟩:=Qgg h.Claims p j hj hjd
    obtain ⟨g,g1,g2,g3,g4,g5,g6,g7⟩:=QoI h t 3 h.Claims[c].Who hm
    obtain ⟨s,s1,s2,s3⟩:=QyB h.Claims p 3 m4
    obtain ⟨f,f1,f2⟩:=QEj (h.Finds[k]).Thing (w64 ((w64 (h.Now - (h.Finds[k]).At)).tdiv 24))
    obtain ⟨e,e1,e2,e3⟩:=Qqs h.Book ⟨h.Claims[c].Who,0,f,h.Now⟩ m7
    have hm7':=g3
    obtain ⟨n1,n2,n3,n4,n5,n6,n7⟩:=hm7'
    have o1 : Qf ⟨g.1.No,g.1.Finds,g.1.Secrets,g.1.Slots,s.1,g.1.Trials,g.1.Chain,g.1.Book,g.1.Now⟩:=⟨n1,n2,n3,by show s.1.length ≤ _; omega,n5,n6,n7⟩
    have o2 : Qf ⟨g.1.No,g.1.Finds,g.1.Secrets,g.1.Slots,s.1,g.1.Trials,g.1.Chain,e.1,g.1.Now⟩:=⟨n1,n2,n3,by show s.1.length ≤ _; omega,n5,n6,e3⟩
    have hpay : JA ⟨g.1.No,g.1.Finds,g.1.Secrets,g.1.Slots,s.1,g.1.Trials,g.1.Chain,g.1.Book,g.1.Now⟩ h.Claims[c].Who 0 f =
      some (bif decide (f = 0) then (⟨g.1.No,g.1.Finds,g.1.Secrets,g.1.Slots,s.1,g.1.Trials,g.1.Chain,g.1.Book,g.1.Now⟩,true) else (⟨g.1.No,g.1.Finds,g.1.Secrets,g.1.Slots,s.1,g.1.Trials,g.1.Chain,e.1,g.1.Now⟩,e.2)):=by
     unfold JA
     simp only [g5,g6,e1,Option.bind_some]
     cases decide (f = 0) <;> rfl
    have hin : (bif XT h.Slots t then g.2 else false) = g.2:=by
     cases hi : XT h.Slots t with
     | true=>rfl
     | false=>rw [g4 hi]; rfl
    simp only [cond_false,Bool.not_true,Option.bind_some,(Z6 h.Claims p m4).1,(Z6 h.Claims p m4).2,hcx,Qe hc,Qm hc,Qe hk,Qm hk,Qa,g1,s1,f1,hpay]
    have hspec : ∀ b : Bool,(bif b then (bif s.2 then (Qp h (bif decide (f = 0) then (⟨g.1.No,g.1.Finds,g.1.Secrets,g.1.Slots,s.1,g.1.Trials,g.1.Chain,g.1.Book,g.1.Now⟩,true) else (⟨g.1.No,g.1.Finds,g.1.Secrets,g.1.Slots,s.1,g.1.Trials,g.1.Chain,e.1,g.1.Now⟩,e.2) : House × Bool).1 (bif decide (f = 0) then (⟨g.1.No,g.1.Finds,g.1.Secrets,g.1.Slots,s.1,g.1.Trials,g.1.Chain,g.1.Book,g.1.Now⟩,true) else (⟨g.1.No,g.1.Finds,g.1.Secrets,g.1.Slots,s.1,g.1.Trials,g.1.Chain,e.1,g.1.Now⟩,e.2) : House × Bool).2).bind fun r10=>some (r10.1,r10.2) else (Qp h (bif decide (f = 0) then (⟨g.1.No,g.1.Finds,g.1.Secrets,g.1.Slots,s.1,g.1.Trials,g.1.Chain,g.1.Book,g.1.Now⟩,true) else (⟨g.1.No,g.1.Finds,g.1.Secrets,g.1.Slots,s.1,g.1.Trials,g.1.Chain,e.1,g.1.Now⟩,e.2) : House × Bool).1 false).bind fun r11=>some (r11.1,r11.2)) else (Qp h (bif decide (f = 0) then (⟨g.1.No,g.1.Finds,g.1.Secrets,g.1.Slots,s.1,g.1.Trials,g.1.Chain,g.1.Book,g.1.Now⟩,true) else (⟨g.1.No,g.1.Finds,g.1.Secrets,g.1.Slots,s.1,g.1.Trials,g.1.Chain,e.1,g.1.Now⟩,e.2) : House × Bool).1 false).bind fun r12=>some (r12.1,r12.2)) =
      some (bif decide (f = 0) then QbV h ⟨g.1.No,g.1.Finds,g.1.Secrets,g.1.Slots,s.1,g.1.Trials,g.1.Chain,g.1.Book,g.1.Now⟩ (b && s.2) else QbV h ⟨g.1.No,g.1.Finds,g.1.Secrets,g.1.Slots,s.1,g.1.Trials,g.1.Chain,e.1,g.1.Now⟩ (b && (s.2 && e.2))):=by
     intro b
     cases decide (f = 0) with
     | true =>
      simp only [cond_true,QcD h _ _ hm o1,Option.bind_some]
      cases b <;> cases s.2 <;> rfl
     | false =>
      simp only [cond_false,QcD h _ _ hm o2,Option.bind_some]
      cases b <;> cases s.2 <;> rfl
    rw [hspec]
    refine ⟨_,rfl,?_,?_⟩
    ·cases hi : XT h.Slots t with
     | false =>
      rw [g4 hi]
      simp only [Bool.not_false,Option.bind_some,cond_true,Bool.not_false,Bool.true_or,Bool.false_and,Qev]
      cases decide (f = 0) <;> rfl
     | true =>
      simp only [Bool.not_true,Option.bind_some,cond_false,Bool.or_false,Bool.false_or,decide_eq_false hp,(Z6 h.Claims p m4).2,hcx,Qe hc,Qm hc,Qe hk,Qm hk,Qa,g2,s2,f2]
      cases hf : decide (f = 0) with
      | true =>
       simp only [Bool.not_true,cond_false,cond_true,Qbh h _ _ hm o1 (show [g.2,s.2,true].length ≤ 1048576 by simp),Option.bind_some,List.all_cons,List.all_nil,Bool.and_true,id_eq]
      | false =>
       simp only [Bool.not_false,cond_false,cond_true,e2,Qbh h _ _ hm o2 (show [g.2,s.2,e.2].length ≤ 1048576 by simp),Option.bind_some,List.all_cons,List.all_nil,Bool.and_true,id_eq]
    ·cases decide (f = 0) with
     | true=>exact Qab _ _ _ hm o1
     | false=>exact Qab _ _ _ hm o2
end Go.Proofs.YtonidbheohhgdaaGreat
namespace Go.Proofs.YtonidbheohhgdaaGreat
open Go
set_option linter.unusedVariables false
set_option linter.unusedSimpArgs false
theorem Qq1 (f : Find) : ∃ b,X9 f = some b ∧ (b = true → 1 ≤ f.Thing.Kind ∧ f.Thing.Kind ≤ 8):=by
 unfold X9 XO Qc
 simp only [Option.bind_some]
 cases h1 : (decide (1 ≤ f.Thing.Id) && decide (f.Thing.Id ≤ 999)) with
 | false=>exact ⟨false,rfl,fun h=>by cases h⟩
 | true =>
  cases h2 : (decide (1 ≤ f.Thing.Kind) && decide (f.Thing.Kind ≤ 8)) with
  | false=>exact ⟨false,rfl,fun h=>by cases h⟩
  | true =>
   have hk : 1 ≤ f.Thing.Kind ∧ f.Thing.Kind ≤ 8:=by simpa using h2
   simp only [cond_true]
   cases (decide (0 ≤ f.Thing.Colour) && decide (f.Thing.Colour ≤ 7)) <;> cases (decide (1 ≤ f.Thing.Size) && decide (f.Thing.Size ≤ 50)) <;> cases (decide (0 ≤ f.Thing.Worth) && decide (f.Thing.Worth ≤ 10000000)) <;>
    cases (decide (1 ≤ f.Place) && decide (f.Place ≤ 30)) <;> cases (decide (0 ≤ f.At) && decide (f.At ≤ 100000)) <;> cases (decide (0 ≤ f.Finder) && decide (f.Finder ≤ 999)) <;> exact ⟨_,rfl,fun _=>hk⟩
theorem Qwp (k : Int) (h1 : 1 ≤ k) (h2 : k ≤ 8) : ∃ d,Qhw k = some d ∧ Qdk k = some d:=by
 have : k = 1 ∨ k = 2 ∨ k = 3 ∨ k = 4 ∨ k = 5 ∨ k = 6 ∨ k = 7 ∨ k = 8:=by omega
 rcases this with rfl | rfl | rfl | rfl | rfl | rfl | rfl | rfl <;> exact ⟨_,rfl,rfl⟩
theorem QC7 (f : Find) (now : Int) : ∃ b,Qcv f now = some b ∧ Qdd f now = some b:=by
 obtain ⟨b,h1,h2⟩:=Qq1 f
 unfold Qcv Qdd Qiu QdU
 rw [show Qar f = X9 f from rfl,h1]
 cases b with
 | false=>exact ⟨false,rfl,rfl⟩
 | true =>
  obtain ⟨k1,k2⟩:=h2 rfl
  obtain ⟨d,h3,h4⟩:=Qwp f.Thing.Kind k1 k2
  simp only [Option.bind_some,cond_true,cond_false,Bool.not_true,h3,h4]
  exact ⟨_,rfl,rfl⟩
theorem QrU (f : Find) (l : List Claim) (now : Int) (hl : l.length ≤ 1048576) : ∃ c,Jb f l now = some c ∧ QbA f l now = some c:=by
 obtain ⟨p,p1,p2,_⟩:=Qf6 l f.Thing.Id hl
 obtain ⟨d,d1,d2⟩:=QC7 f now
 have hs:=QgT l (fun x=>decide (x.Thing = f.Thing.Id) && decide (x.State = 0)) (r:=(0 : Int)) (step:=Zq l now f)
  (fun i hi=>by
   simp only [Zq,Qt hi,Qe hi,Qm hi,QD (show (i : Int) < 9223372036854775807 by omega),cond_true,Qa,Option.bind_some]
   cases (decide (l[i].Thing = f.Thing.Id) && decide (l[i].State = 0)) <;> rfl)
  (by simp only [Zq,Qx (Nat.le_refl _),cond_false])
 have hi:=XH l (fun x=>decide (x.Thing = f.Thing.Id) && decide (x.State = 0)) (fun i=>(i : Int)) (step:=QF l f.Thing (ln l))
  (fun i hi=>by
   simp only [QF,Qdo,Qt hi,Qe hi,Qm hi,QD (show (i : Int) < 9223372036854775807 by omega),cond_true,Qa,Option.bind_some]
   cases (decide (l[i].Thing = f.Thing.Id) && decide (l[i].State = 0)) <;> rfl)
  (by simp only [QF,Qx (Nat.le_refl _),cond_false])
 have hc : QX l f.Thing = some (l.any (fun x=>decide (x.Thing = f.Thing.Id) && decide (x.State = 0))):=by
  unfold QX VE
  rw [hi]
  cases hf : l.findIdx? (fun x=>decide (x.Thing = f.Thing.Id) && decide (x.State = 0)) with
  | none =>
   have : l.any (fun x=>decide (x.Thing = f.Thing.Id) && decide (x.State = 0)) = false:=by
    rw [List.any_eq_false]
    intro x hx
    have:=List.findIdx?_eq_none_iff.1 hf x hx
    simpa using this
   rw [this]; rfl
  | some i =>
   obtain ⟨hi',hp⟩:=ZZ hf
   rw [List.any_eq_true.2 ⟨_,List.getElem_mem hi',hp⟩]
   simp only [Option.bind_some,evO,decide_eq_true (show (0 : Int) ≤ (i : Int) by omega)]
 unfold Jb QbA
 rw [p1,p2,d1,d2,hs,hc]
 simp only [Option.bind_some]
 have hlt : decide (f.Thing.Worth ≤ 5000) = !decide (5000 < f.Thing.Worth):=by
  by_cases h : 5000 < f.Thing.Worth
  ·rw [decide_eq_true h,decide_eq_false (by omega)]; rfl
  ·rw [decide_eq_false h,decide_eq_true (by omega)]; rfl
 rw [hlt]
 generalize l.any (fun x=>decide (x.Thing = f.Thing.Id) && decide (x.State = 0)) = q
 cases decide (p = 0) <;> cases q <;> cases d <;> cases (decide (f.Thing.Kind = 7) || decide (f.Thing.Worth = 0)) <;> cases decide (5000 < f.Thing.Worth) <;> cases decide (f.Finder = 0) <;> exact ⟨_,rfl,rfl⟩
end Go.Proofs.YtonidbheohhgdaaGreat
namespace Go.Proofs.YtonidbheohhgdaaGreat
open Go
set_option linter.unusedVariables false
set_option linter.unusedSimpArgs false
theorem Qzg (h : House) (out : House) (hm : Qf h) : Qaj h out [false] = some (h,false):=by
 unfold Qaj
 simp only [QlU [false] (by simp),JN h hm,Option.bind_some]
 rfl
theorem QuJ (h : House) (t : Int) (hm : Qf h) : ∃ r,Zp h t = some r ∧ Qbs h t = some r ∧ Qf r.1:=by
 have hm7:=hm
 obtain ⟨m1,m2,m3,m4,m5,m6,m7⟩:=hm7
 obtain ⟨w,w1,w2⟩:=Qbv h.Slots t m3
 unfold Zp Qbs Qas
 simp only [(VZ h.Finds t m1).1,(VZ h.Finds t m1).2,(XF h hm).1,(XF h hm).2,V5 h hm,JN h hm,w1,w2,Option.bind_some]
 rcases Qjy h.Finds t with hx | ⟨k,hk,hx⟩
 ·rw [hx]
  refine ⟨(h,false),rfl,?_,hm⟩
  cases Jf h <;> rfl
 ·rw [hx,decide_eq_false (show ¬ (k : Int) < 0 by omega)]
  cases hb : Jf h with
  | false=>exact ⟨(h,false),rfl,rfl,hm⟩
  | true =>
   obtain ⟨f,f1,f2⟩:=QrU h.Finds[k] h.Claims h.Now m4
   obtain ⟨a,a1,a2,a3,a4,_⟩:=QoI h t 3 (h.Finds[k]).Finder hm
   obtain ⟨b,b1,b2,b3,b4,_⟩:=QoI h t 5 0 hm
   simp only [cond_false,Bool.not_true,Option.bind_some,Qe hk,Qm hk,Qa,f1,a1,b1,QcD h _ _ hm a3,QcD h _ _ hm b3]
   refine ⟨bif decide (f = 2) then QbV h a.1 a.2 else bif decide (f = 4) then QbV h b.1 b.2 else bif decide (f = 5) then QbV h b.1 b.2 else (h,false),?_,?_,?_⟩
   ·cases decide (f = 2) <;> cases decide (f = 4) <;> cases decide (f = 5) <;> rfl
   ·cases hi : XT h.Slots t with
    | false =>
     rw [a4 hi,b4 hi]
     simp only [Bool.not_false,Option.bind_some,cond_true,Qev]
     cases decide (f = 2) <;> cases decide (f = 4) <;> cases decide (f = 5) <;> rfl
    | true =>
     simp only [Bool.not_true,Option.bind_some,cond_false,Qe hk,Qm hk,Qa,f2,a2,b2,Qzg h h hm,Qbh h _ _ hm a3 (show [a.2].length ≤ 1048576 by simp),Qbh h _ _ hm b3 (show [b.2].length ≤ 1048576 by simp),List.all_cons,List.all_nil,Bool.and_true,id_eq]
     cases decide (f = 2) <;> cases decide (f = 4) <;> cases decide (f = 5) <;> rfl
   ·cases decide (f = 2) <;> cases decide (f = 4) <;> cases decide (f = 5) <;> first | exact Qab _ _ _ hm a3 | exact Qab _ _ _ hm b3 | exact hm
end Go.Proofs.YtonidbheohhgdaaGreat
