import Derived.Test.YtonidbheohhgdaaGreatPz1
namespace Go.Proofs.YtonidbheohhgdaaGreat
open Go
set_option linter.unusedVariables false
set_option linter.unusedSimpArgs false
noncomputable def Jf (h : House) : Bool:=(Q9 h).getD false
theorem XF (h : House) (hm : Qf h) : QV h = some (Jf h) ∧ Q9 h = some (Jf h):=by
 obtain ⟨c,c1,c2⟩:=Qsq h hm
 unfold Jf
 rw [c1,c2]
 exact ⟨rfl,rfl⟩
theorem QgW (h : House) (hm : Qf h) (hb : Jf h = true) : HouseOk h:=Qk8 h hm (by rw [(XF h hm).2,hb])
theorem Qir (l : List Secret) (hl : smL Qc8 l) : X0 l = some l:=by
 have hlen:=hl.1
 have h1:=XP (step:=V9 l (ln l)) (fun i=>(l.take i,(i : Int))) (r:=l) l.length (fun i hi=>by
   have hm : l[i].Marks.length ≤ 1048576:=hl.2 _ (List.getElem_mem hi)
   have hr1 : rm (0 + l[i].Marks.length) 16 = true:=Vz (by omega) (by omega)
   have hr2 : rm ((l.take i).length + 1) 40 = true:=Vz (by rw [List.length_take]; omega) (by omega)
   simp only [V9,Xk,Qt hi,Qe hi,Qm hi,hr1,hr2,cond_true,Qa,Option.bind_some,QD (show (i : Int) < 9223372036854775807 by omega)]
   rw [List.take_succ_eq_append_getElem hi])
  (by simp only [V9,Qx (Nat.le_refl _),cond_false,List.take_length])
 unfold X0
 rw [show run (V9 l (ln l)) ([],0) = _ from by simpa using h1]; rfl
theorem JN (h : House) (hm : Qf h) : QU h = some h:=by
 obtain ⟨m1,m2,m3,m4,m5,m6,m7⟩:=hm
 unfold QU X2 Xj Vk QaI V4 XA
 simp only [Qir _ m2,Vz (show 0 + h.Finds.length ≤ 2000000 by omega) (show 64 ≤ 1024 by omega),Vz (show 0 + h.Slots.length ≤ 2000000 by omega) (show 24 ≤ 1024 by omega),Vz (show 0 + h.Claims.length ≤ 2000000 by omega) (show 40 ≤ 1024 by omega),
  Vz (show 0 + h.Trials.length ≤ 2000000 by omega) (show 32 ≤ 1024 by omega),Vz (show 0 + h.Chain.length ≤ 2000000 by omega) (show 40 ≤ 1024 by omega),Vz (show 0 + h.Book.length ≤ 2000000 by omega) (show 32 ≤ 1024 by omega),Qa,Option.bind_some]
theorem QlU (l : List Bool) (hl : l.length ≤ 1048576) : VO l false = some (!l.all id):=by
 have hr:=XH l (fun x=>decide (false = x)) (fun i=>(i : Int)) (step:=XI l false (ln l))
  (fun i hi=>by
   simp only [XI,Qt hi,Qe hi,Qm hi,QD (show (i : Int) < 9223372036854775807 by omega),cond_true,Qa]
   cases decide (false = l[i]) <;> rfl)
  (by simp only [XI,Qx (Nat.le_refl _),cond_false])
 unfold VO Qbg
 rw [hr]
 have hall : l.all id = (l.findIdx? (fun x=>decide (false = x))).isNone:=by
  cases hf : l.findIdx? (fun x=>decide (false = x)) with
  | none =>
   rw [List.findIdx?_eq_none_iff] at hf
   simp only [Option.isNone_none,List.all_eq_true]
   intro x hx
   have:=hf x hx
   cases x <;> simp at this ⊢
  | some i =>
   obtain ⟨hlt,hp⟩:=ZZ hf
   simp only [Option.isNone_some]
   rw [List.all_eq_false]
   exact ⟨l[i],List.getElem_mem hlt,by simp at hp; simp [← hp]⟩
 rw [hall]
 cases l.findIdx? (fun x=>decide (false = x)) with
 | none=>rfl
 | some i =>
  simp only [Option.bind_some,evO]
  rw [decide_eq_true (show (0 : Int) ≤ (i : Int) by omega)]; rfl
noncomputable def QbV (h out : House) (ok : Bool) : House × Bool:=bif ok && (Jf h && Jf out) then (out,true) else (h,false)
theorem Qab (h out : House) (ok : Bool) (hm : Qf h) (ho : Qf out) : Qf (QbV h out ok).1:=by
 unfold QbV
 cases ok && (Jf h && Jf out) <;> assumption
theorem Qev (h out : House) : QbV h out false = (h,false):=rfl
theorem QuF (h out : House) (ok : Bool) (hb : Jf h = false) : QbV h out ok = (h,false):=by
 unfold QbV; rw [hb]; cases ok <;> rfl
theorem QcD (h out : House) (ok : Bool) (hm : Qf h) (ho : Qf out) : Qp h out ok = some (QbV h out ok):=by
 unfold Qp QbV
 simp only [(XF h hm).1,(XF out ho).1,V5 h hm,Option.bind_some]
 cases ok <;> cases Jf h <;> cases Jf out <;> rfl
theorem smH {h : House} (hm : Qf h) {f : List Find} {s : List Secret} {t : List Slot} {c : List Claim} {r : List Trial} {n : List Hand} {b : List Entry} {k : Int} (h1 : f.length ≤ 1048576) (h2 : smL Qc8 s) (h3 : t.length ≤ 1048576) (h4 : c.length ≤ 1048576) (h5 : r.length ≤ 1048576) (h6 : n.length ≤ 1048576) (h7 : b.length ≤ 1048576) :
  Qf ⟨h.No,f,s,t,c,r,n,b,k⟩:=⟨h1,h2,h3,h4,h5,h6,h7⟩
end Go.Proofs.YtonidbheohhgdaaGreat
namespace Go.Proofs.YtonidbheohhgdaaGreat
open Go
set_option linter.unusedVariables false
set_option linter.unusedSimpArgs false
def Qdm (l : List Claim) (i : Nat) : Bool :=
 (decide (1 ≤ (gt l (i : Int)).Id) && decide ((gt l (i : Int)).Id ≤ 999)) && ((decide (1 ≤ (gt l (i : Int)).Who) && decide ((gt l (i : Int)).Who ≤ 999)) && ((decide (1 ≤ (gt l (i : Int)).Thing) && decide ((gt l (i : Int)).Thing ≤ 999)) && ((decide (0 ≤ (gt l (i : Int)).At) && decide ((gt l (i : Int)).At ≤ 100000)) && ((decide (0 ≤ (gt l (i : Int)).State) && decide ((gt l (i : Int)).State ≤ 3)) &&
  ((decide (i = 0) || !decide ((gt l (i : Int)).Id ≤ (gt l ((i - 1 : Nat) : Int)).Id)) && !(l.take i).any (Qd1 (gt l (i : Int))))))))
theorem Qrq (l : List Claim) (hl : l.length ≤ 2097152) (i : Nat) (hi : i < l.length) : Vi l (i : Int) = some (bif Qdm l i then .inl ((i + 1 : Nat) : Int) else .inr (.ret false)):=by
 have hin:=QeH l i hi (by omega)
 simp only [Vi,Qdm,Qt hi,Qe hi,Qm hi,QD (show (i : Int) < 9223372036854775807 by omega),cond_true,Qa,Qc,Option.bind_some,hin]
 generalize (l.take i).any (Qd1 l[i]) = q
 by_cases h0 : 0 < i
 ·simp only [show decide (0 < (i : Int)) = true from decide_eq_true (by omega),show decide (i = 0) = false from decide_eq_false (by omega),Zo h0 (by omega),Qe (show i - 1 < l.length by omega),cond_true,Qa]
  cases (decide (1 ≤ l[i].Id) && decide (l[i].Id ≤ 999)) <;> cases (decide (1 ≤ l[i].Who) && decide (l[i].Who ≤ 999)) <;> cases (decide (1 ≤ l[i].Thing) && decide (l[i].Thing ≤ 999)) <;> cases (decide (0 ≤ l[i].At) && decide (l[i].At ≤ 100000)) <;> cases (decide (0 ≤ l[i].State) && decide (l[i].State ≤ 3)) <;> cases decide (l[i].Id ≤ (gt l ((i - 1 : Nat) : Int)).Id) <;> cases q <;> rfl
 ·simp only [show decide (0 < (i : Int)) = false from decide_eq_false (by omega),show decide (i = 0) = true from decide_eq_true (by omega),cond_false]
  cases (decide (1 ≤ l[i].Id) && decide (l[i].Id ≤ 999)) <;> cases (decide (1 ≤ l[i].Who) && decide (l[i].Who ≤ 999)) <;> cases (decide (1 ≤ l[i].Thing) && decide (l[i].Thing ≤ 999)) <;> cases (decide (0 ≤ l[i].At) && decide (l[i].At ≤ 100000)) <;> cases (decide (0 ≤ l[i].State) && decide (l[i].State ≤ 3)) <;> cases q <;> rfl
theorem Qlr (l : List Claim) (hl : l.length ≤ 2097152) : QS l = some ((List.range l.length).all (Qdm l) && decide ((l.length : Int) ≤ 20)):=by
 have key : ∀ (m i : Nat),i + m = l.length → run (Vi l) (i : Int) = some (bif (List.range' i m).all (Qdm l) then .brk () else .ret false):=by
  intro m
  induction m with
  | zero =>
   intro i hi
   have : i = l.length:=by omega
   subst this
   rw [Qh]
   simp only [Vi,Qx (Nat.le_refl _),cond_false,List.range'_zero,List.all_nil,cond_true,Option.bind_some]
  | succ m ih =>
   intro i hi
   rw [Qh,Qrq l hl i (by omega),List.range'_succ,List.all_cons]
   cases Qdm l i with
   | false=>rfl
   | true=>simp only [cond_true,Bool.true_and]; exact ih (i + 1) (by omega)
 unfold QS
 rw [show run (Vi l) 0 = _ from key l.length 0 (by omega),← List.range_eq_range']
 cases (List.range l.length).all (Qdm l) <;> rfl
theorem Qfu (l : List Claim) (h : QS l = some true) (hl : l.length ≤ 2097152) : l.length ≤ 20 ∧ ∀ i,i < l.length → Qdm l i = true:=by
 rw [Qlr l hl] at h
 simp only [Option.some.injEq,Bool.and_eq_true,decide_eq_true_eq,List.all_eq_true,List.mem_range] at h
 exact ⟨by omega,h.1⟩
theorem Qo1 {α : Type} [Inhabited α] (l : List α) (k : Nat) (x : α) (i : Nat) (hi : i < l.length) : gt (l.set k x) (i : Int) = if i = k then x else gt l (i : Int):=by
 rw [Qm (by rw [List.length_set]; exact hi),Qm hi,List.getElem_set]
 by_cases h : i = k
 ·subst h; simp
 ·rw [if_neg h,if_neg (by omega)]
theorem Qnc (l : List Claim) (k i : Nat) (x y : Claim) (hi : i ≤ l.length) (hx : x.State ≠ 3) (h : (l.take i).any (Qd1 y) = false) : ((l.set k x).take i).any (Qd1 y) = false:=by
 rw [List.any_eq_false] at h ⊢
 intro z hz
 obtain ⟨j,hj,rfl⟩:=List.getElem_of_mem hz
 have hj' : j < i ∧ j < l.length:=by simp at hj; omega
 rw [List.getElem_take,List.getElem_set]
 by_cases hk : k = j
 ·rw [if_pos hk]; unfold Qd1; simp [hx]
 ·rw [if_neg hk]
  exact h _ (by
   rw [List.mem_take_iff_getElem]
   exact ⟨j,by omega,rfl⟩)
theorem Qrz (l : List Claim) (k : Nat) (hk : k < l.length) (s : Int) (hs : s = 1 ∨ s = 2) (hl : l.length ≤ 1048576) (h : QS l = some true) : QS (l.set k ⟨l[k].Id,l[k].Who,l[k].Thing,l[k].At,s⟩) = some true:=by
 obtain ⟨h1,h2⟩:=Qfu l h (by omega)
 rw [Qlr _ (by rw [List.length_set]; omega)]
 rw [List.length_set]
 have : (List.range l.length).all (Qdm (l.set k ⟨l[k].Id,l[k].Who,l[k].Thing,l[k].At,s⟩)) = true:=by
  rw [List.all_eq_true]
  intro i hi
  rw [List.mem_range] at hi
  have ho:=h2 i hi
  have hgi : ∀ j,j < l.length → (gt (l.set k ⟨l[k].Id,l[k].Who,l[k].Thing,l[k].At,s⟩) (j : Int)).Id = (gt l (j : Int)).Id:=by
   intro j hj
   rw [Qo1 l k _ j hj]
   by_cases hjk : j = k
   ·subst hjk; rw [if_pos rfl,Qm hj]
   ·rw [if_neg hjk]
  unfold Qdm at ho ⊢
  rw [hgi i hi,hgi (i - 1) (by omega)]
  simp only [Bool.and_eq_true] at ho ⊢
  obtain ⟨o1,o2,o3,o4,o5,o6,o7⟩:=ho
  rw [Qo1 l k _ i hi]
  by_cases hik : i = k
  ·subst hik
   rw [Qm hi] at o1 o2 o3 o4 o5 o6 o7
   rw [if_pos rfl,Qm hi]
   refine ⟨o1,o2,o3,o4,?_,o6,?_⟩
   ·rcases hs with rfl | rfl <;> exact ⟨rfl,rfl⟩
   ·have hst : s ≠ 3:=by omega
    rw [show ((l.set i ⟨l[i].Id,l[i].Who,l[i].Thing,l[i].At,s⟩).take i).any (Qd1 ⟨l[i].Id,l[i].Who,l[i].Thing,l[i].At,s⟩) = false from by
     rw [List.any_eq_false]; intro z _; unfold Qd1; simp [hst]]
    rfl
  ·rw [if_neg hik]
   refine ⟨o1,o2,o3,o4,o5,o6,?_⟩
   have o7' : (l.take i).any (Qd1 (gt l (i : Int))) = false:=by simpa using o7
   rw [Qnc l k i _ _ (by omega) (by show s ≠ 3; omega) o7']
   rfl
 rw [this]
 simp; omega
end Go.Proofs.YtonidbheohhgdaaGreat
namespace Go.Proofs.YtonidbheohhgdaaGreat
open Go
set_option linter.unusedVariables false
set_option linter.unusedSimpArgs false
theorem Qbh (h out : House) (done : List Bool) (hm : Qf h) (ho : Qf out) (hd : done.length ≤ 1048576) : VG h out done = some (QbV h out (done.all id)):=by
 unfold VG QbV
 simp only [(XF h hm).2,(XF out ho).2,JN h hm,QlU done hd,Option.bind_some]
 cases done.all id <;> cases Jf h <;> cases Jf out <;> rfl
end Go.Proofs.YtonidbheohhgdaaGreat
namespace Go.Proofs.YtonidbheohhgdaaGreat
open Go
set_option linter.unusedVariables false
set_option linter.unusedSimpArgs false
theorem QyC (h : House) (n : Int) (hm : Qf h) : ∃ r,ZR h n = some r ∧ Qcd h n = some r ∧ Qf r.1:=by
 have ho : Qf ⟨h.No,h.Finds,h.Secrets,h.Slots,h.Claims,h.Trials,h.Chain,h.Book,w64 (h.Now + n)⟩:=hm
 refine ⟨QbV h ⟨h.No,h.Finds,h.Secrets,h.Slots,h.Claims,h.Trials,h.Chain,h.Book,w64 (h.Now + n)⟩ (decide (1 ≤ n) && decide (n ≤ 10000)),?_,?_,Qab _ _ _ hm ho⟩
 ·unfold ZR
  simp only [V5 h hm,Qc,QcD h _ _ hm ho,Option.bind_some]
  cases hn : (decide (1 ≤ n) && decide (n ≤ 10000)) with
  | false=>rfl
  | true =>
   cases hw : (decide (0 ≤ h.Now) && decide (h.Now ≤ 100000)) with
   | true=>rfl
   | false =>
    have hb : Jf h = false:=by
     cases hb : Jf h with
     | false=>rfl
     | true =>
      have:=(QgW h hm hb).now
      rw [decide_eq_true this.1,decide_eq_true this.2] at hw
      cases hw
    rw [QuF _ _ _ hb]; rfl
 ·unfold Qcd
  simp only [JN h hm,Qb,Option.bind_some,Qbh h _ _ hm ho (show [decide (1 ≤ n) && decide (n ≤ 10000)].length ≤ 1048576 by simp),List.all_cons,List.all_nil,Bool.and_true,id]
end Go.Proofs.YtonidbheohhgdaaGreat
namespace Go.Proofs.YtonidbheohhgdaaGreat
open Go
set_option linter.unusedVariables false
set_option linter.unusedSimpArgs false
def ZW (l : List Claim) (id : Int) : Int:=match l.findIdx? (fun x=>decide (x.Id = id)) with | some i=>(i : Int) | none=>-1
theorem QhM (l : List Claim) (id : Int) (hl : l.length ≤ 1048576) : Xc l id = some (ZW l id):=by
 have hi:=XH l (fun x=>decide (x.Id = id)) (fun i=>(i : Int)) (step:=Qy l id (ln l))
  (fun i hi=>by
   simp only [Qy,QbP,Option.bind_some,Qt hi,Qe hi,Qm hi,QD (show (i : Int) < 9223372036854775807 by omega),cond_true,Qa]
   cases decide (l[i].Id = id) <;> rfl)
  (by simp only [Qy,Qx (Nat.le_refl _),cond_false])
 unfold Xc Vl ZW
 rw [hi]
 cases l.findIdx? (fun x=>decide (x.Id = id)) <;> rfl
theorem Qfl (l : List Claim) (id : Int) : ZW l id = -1 ∨ ∃ k : Nat,∃ hk : k < l.length,ZW l id = (k : Int) ∧ l[k].Id = id:=by
 unfold ZW
 cases hf : l.findIdx? (fun x=>decide (x.Id = id)) with
 | none=>exact .inl rfl
 | some i =>
  obtain ⟨hi,hp⟩:=ZZ hf
  exact .inr ⟨i,hi,rfl,by simpa using hp⟩
theorem Qgg (l : List Claim) (id : Int) (j : Nat) (hj : j < l.length) (h : l[j].Id = id) : ∃ k : Nat,∃ hk : k < l.length,ZW l id = (k : Int) ∧ l[k].Id = id:=by
 rcases Qfl l id with h0 | h0
 ·exfalso
  unfold ZW at h0
  cases hf : l.findIdx? (fun x=>decide (x.Id = id)) with
  | none =>
   have:=List.findIdx?_eq_none_iff.1 hf _ (List.getElem_mem hj)
   simp [h] at this
  | some i=>rw [hf] at h0; simp only at h0; omega
 ·exact h0
theorem Qeg (h : House) (ht : VL h = some true) : h.Trials.length = h.Claims.length:=by
 by_cases hlen : h.Trials.length = h.Claims.length
 ·exact hlen
 ·exfalso
  unfold VL at ht
  rw [show (!decide (ln h.Trials = ln h.Claims)) = true from by rw [VA,VA]; simp; omega] at ht
  cases ht
end Go.Proofs.YtonidbheohhgdaaGreat
namespace Go.Proofs.YtonidbheohhgdaaGreat
open Go
set_option linter.unusedVariables false
set_option linter.unusedSimpArgs false
theorem Z6 (l : List Claim) (id : Int) (hl : l.length ≤ 1048576) : Qby l id = some (ZW l id) ∧ Xc l id = some (ZW l id):=by
 have hs:=XH l (fun x=>decide (x.Id = id)) (fun i=>(i : Int)) (step:=Qbk l id)
  (fun i hi=>by
   simp only [Qbk,Qt hi,Qe hi,Qm hi,QD (show (i : Int) < 9223372036854775807 by omega),cond_true,Qa]
   cases decide (l[i].Id = id) <;> rfl)
  (by simp only [Qbk,Qx (Nat.le_refl _),cond_false])
 refine ⟨?_,QhM l id hl⟩
 unfold Qby ZW
 rw [hs]
 cases l.findIdx? (fun x=>decide (x.Id = id)) <;> rfl
end Go.Proofs.YtonidbheohhgdaaGreat
namespace Go.Proofs.YtonidbheohhgdaaGreat
open Go
set_option linter.unusedVariables false
set_option linter.unusedSimpArgs false
theorem Qhx (l : List Claim) (id s : Int) (k : Nat) (hk : k < l.length) (hid : ZW l id = (k : Int)) (h0 : l[k].State = 0) (hs : s = 1 ∨ s = 2) (hl : l.length ≤ 1048576) (h : QS l = some true) (hI : Xm l = some true) :
  Jo l id s = some (l.set k ⟨l[k].Id,l[k].Who,l[k].Thing,l[k].At,s⟩,true):=by
 obtain ⟨d,d1,d2,d3⟩:=Qfh (l.set k ⟨l[k].Id,l[k].Who,l[k].Thing,l[k].At,s⟩) (by rw [List.length_set]; omega)
 rw [Qrz l k hk s hs hl h] at d1
 cases d1
 unfold Jo Vk
 have hrm : rm (0 + l.length) 40 = true:=Vz (by omega) (by omega)
 simp only [hrm,Qa,(Z6 l id hl).2,hI,Option.bind_some,hid,decide_eq_false (show ¬ (k : Int) < 0 by omega),cond_false,Bool.not_true,Qe hk,Qm hk,Int.toNat_natCast,d2,h0,decide_true,cond_true]
 rcases hs with rfl | rfl <;> rfl
theorem QxC (x : Int) : ∃ c,ZD [x] = some c ∧ Qc7 [x] = some c ∧ 0 ≤ c ∧ c < 2147483647:=by
 obtain ⟨c,hc,h0,h1⟩ : ∃ c,Qc1 x 2147483647 = some c ∧ 0 ≤ c ∧ c < 2147483647:=by
  rw [Qre]
  obtain ⟨h1,h2⟩:=Qkp x (m:=2147483647) (by omega)
  unfold QcM Qb
  simp only [Option.bind_some,show (decide ((1 : Int) ≤ 2147483647) && decide ((2147483647 : Int) ≤ 1000000000000)) = true from rfl,Bool.not_true,cond_false,show (!decide ((2147483647 : Int) = 0)) = true from rfl,Qa]
  generalize x.tmod 2147483647 = t at h1 h2
  by_cases ht : t < 0
  ·rw [decide_eq_true ht]; exact ⟨_,rfl,by rw [Vj] <;> omega,by rw [Vj] <;> omega⟩
  ·rw [decide_eq_false ht]; exact ⟨_,rfl,by omega,by omega⟩
 have hs : ZD [x] = some ((11000033 + c + 13).tmod 2147483647):=by
  unfold ZD
  have hr:=XP (step:=Xp [x]) (fun i=>if i = 0 then (11,0) else ((11000033 + c + 13).tmod 2147483647,1)) (r:=(11000033 + c + 13).tmod 2147483647) 1 (fun i hi=>by
   have : i = 0:=by omega
   subst this
   simp only [Xp,if_true,show decide ((0 : Int) < ln [x]) = true from rfl,show inb [x] 0 = true from rfl,show gt [x] (0 : Int) = x from rfl,cond_true,Qa,hc,Option.bind_some,show ¬ (0 + 1 = 0) from by omega,if_false]
   rw [show w64 (11 * 1000003) = 11000033 from rfl,show w64 (0 + 1) = 1 from rfl,Vj (show _ ≤ 11000033 + c by omega) (by omega),Vj (show _ ≤ 11000033 + c + 13 by omega) (by omega)])
   (by simp only [Xp,show ¬ (1 = 0) from by omega,if_false]; rfl)
  rw [show run (Xp [x]) (11,0) = _ from hr]; rfl
 refine ⟨_,hs,by rw [← QsE,hs],Int.tmod_nonneg _ (by omega),Int.tmod_lt_of_pos _ (by omega)⟩
theorem Qqb (l : List Mark) (c v : Int) (hl : l.length ≤ 1048576) : ∃ q,Qdc l c v = some q ∧ Z8 l c v = some q:=by
 obtain ⟨m,m1,m2⟩:=QiW l (by omega)
 obtain ⟨c',c1,c2,c3,c4⟩:=QxC c
 unfold Qdc Z8 Qc Qb
 simp only [m1,m2,Option.bind_some]
 by_cases h0 : ln l = 0
 ·rw [decide_eq_true h0]; exact ⟨0,rfl,rfl⟩
 ·rw [decide_eq_false h0]
  have hpos : 0 < ln l:=by rw [VA] at h0 ⊢; omega
  cases m with
  | false=>exact ⟨0,rfl,rfl⟩
  | true =>
   cases hv : (decide (0 ≤ v) && decide (v ≤ 1000)) with
   | false=>exact ⟨0,rfl,rfl⟩
   | true =>
    simp only [Bool.and_eq_true,decide_eq_true_eq] at hv
    have hb:=Int.tmod_lt_of_pos c' hpos
    have hn:=Int.tmod_nonneg (ln l) c3
    have hle : ln l ≤ 1048576:=by rw [VA]; omega
    have hmod : Qc1 c' (ln l) = some (c'.tmod (ln l)):=by
     unfold Qc1 Qc
     simp only [Option.bind_some,show (decide (1 ≤ ln l) && decide (ln l ≤ 1000000000000)) = true from by rw [decide_eq_true (show 1 ≤ ln l by omega),decide_eq_true (show ln l ≤ 1000000000000 by omega)]; rfl,Bool.not_true,cond_false,decide_eq_false h0,Bool.not_false,Qa]
     rw [Vj (by omega) (by omega),Int.tmod_eq_emod_of_nonneg (show 0 ≤ c'.tmod (ln l) + ln l by omega),Int.add_emod_right,Int.emod_eq_of_lt hn hb]
    have hin : inb l ((w64 (c'.tmod (ln l) + v)).tmod (ln l)) = true:=by
     rw [Vj (by omega) (by omega),QcV]
     exact ⟨Int.tmod_nonneg _ (by omega),by have:=Int.tmod_lt_of_pos (c'.tmod (ln l) + v) hpos; rw [VA] at this; exact this⟩
    simp only [c1,c2,hmod,Option.bind_some,cond_false,Bool.not_true,Bool.not_false,Qa,hin]
    exact ⟨_,rfl,rfl⟩
theorem Qoc (l : List Mark) (x : Trial) (hl : l.length ≤ 1048576) : ∃ q,QcJ l x = some q ∧ ZJ l x = some q:=by
 obtain ⟨s,s1,s2⟩:=Qd8 l x hl
 obtain ⟨q,q1,q2⟩:=Qqb l x.Claim x.Asked hl
 unfold QcJ ZJ
 simp only [s1,s2,q1,q2,Option.bind_some]
 cases decide (s = 0) <;> exact ⟨_,rfl,rfl⟩
theorem Qwt (l : List Mark) (q : Int) (hl : l.length ≤ 1048576) : ∃ a,QeL l q = some a ∧ Qce l q = some a:=by
 have hs:=XH l (fun x=>decide (x.Question = q)) (fun i=>(gt l (i : Int)).Answer) (step:=QbM l q)
  (fun i hi=>by
   simp only [QbM,Qt hi,Qe hi,Qm hi,QD (show (i : Int) < 9223372036854775807 by omega),cond_true,Qa]
   cases decide (l[i].Question = q) <;> rfl)
  (by simp only [QbM,Qx (Nat.le_refl _),cond_false])
 have hi:=XH l (fun x=>decide (x.Question = q)) (fun i=>(gt l (i : Int)).Answer) (step:=Zg q l (ln l))
  (fun i hi=>by
   simp only [Zg,Qt hi,Qe hi,Qm hi,QD (show (i : Int) < 9223372036854775807 by omega),cond_true,Qa]
   cases decide (l[i].Question = q) <;> rfl)
  (by simp only [Zg,Qx (Nat.le_refl _),cond_false])
 unfold QeL Qce
 rw [hs,hi]
 cases l.findIdx? (fun x=>decide (x.Question = q)) <;> exact ⟨_,rfl,rfl⟩
theorem QrK (l : List Mark) (x : Trial) (a : Int) (hl : l.length ≤ 1048576) : ∃ r,QdK l x a = some r ∧ QaY l x a = some r:=by
 obtain ⟨q,q1,q2⟩:=Qoc l x hl
 obtain ⟨b,b1,b2⟩:=Qwt l q hl
 unfold QdK QaY
 simp only [q1,q2,b1,b2,Option.bind_some]
 cases decide (q = 0) <;> cases decide (b = a) <;> exact ⟨_,rfl,rfl⟩
theorem QrY (h : House) (id a : Int) (hm : Qf h) : ∃ r,JW h id a = some r ∧ QaR h id a = some r ∧ Qf r.1:=by
 have hm7:=hm
 obtain ⟨m1,m2,m3,m4,m5,m6,m7⟩:=hm7
 unfold JW QaR
 simp only [V5 h hm,JN h hm,(Z6 h.Claims id m4).1,(Z6 h.Claims id m4).2,(XF h hm).1,(XF h hm).2,Option.bind_some]
 rcases Qfl h.Claims id with hx | ⟨k,hk,hx,hid⟩
 ·rw [hx]
  refine ⟨(h,false),rfl,?_,hm⟩
  cases Jf h <;> rfl
 ·rw [hx,decide_eq_false (show ¬ (k : Int) < 0 by omega)]
  cases hb : Jf h with
  | false=>exact ⟨(h,false),rfl,rfl,hm⟩
  | true =>
   have ho:=QgW h hm hb
   simp only [cond_false,Bool.not_true,Qe hk,Qm hk,Qa,Option.bind_some]
   by_cases h0 : h.Claims[k].State = 0
   ·have hkt : k < h.Trials.length:=by rw [Qeg h ho.trials]; exact hk
    obtain ⟨m,k1,k2,k3⟩:=Qk5 h.Secrets h.Claims[k].Thing m2.1 (fun x hx=>m2.2 x hx)
    obtain ⟨g,g1,g2⟩:=QrK m h.Trials[k] a k3
    obtain ⟨s,s1,s2⟩:=Qd8 m g.1 k3
    have hl1 : (h.Trials.set k g.1).length ≤ 1048576:=by rw [List.length_set]; exact m5
    have hl2 : ∀ s : Int,(h.Claims.set k ⟨h.Claims[k].Id,h.Claims[k].Who,h.Claims[k].Thing,h.Claims[k].At,s⟩).length ≤ 1048576:=fun s=>by rw [List.length_set]; exact m4
    have w1 : Qf ⟨h.No,h.Finds,h.Secrets,h.Slots,h.Claims.set k ⟨h.Claims[k].Id,h.Claims[k].Who,h.Claims[k].Thing,h.Claims[k].At,1⟩,h.Trials.set k g.1,h.Chain,h.Book,h.Now⟩:=smH hm m1 m2 m3 (hl2 1) hl1 m6 m7
    have w2 : Qf ⟨h.No,h.Finds,h.Secrets,h.Slots,h.Claims.set k ⟨h.Claims[k].Id,h.Claims[k].Who,h.Claims[k].Thing,h.Claims[k].At,2⟩,h.Trials.set k g.1,h.Chain,h.Book,h.Now⟩:=smH hm m1 m2 m3 (hl2 2) hl1 m6 m7
    have w3 : Qf ⟨h.No,h.Finds,h.Secrets,h.Slots,h.Claims,h.Trials.set k g.1,h.Chain,h.Book,h.Now⟩:=smH hm m1 m2 m3 m4 hl1 m6 m7
    simp only [h0,decide_true,Bool.not_true,cond_false,k1,k2,g1,g2,s1,s2,Qe hkt,Qm hkt,Qa,Option.bind_some,Int.toNat_natCast,
     Qhx h.Claims id 1 k hk hx h0 (.inl rfl) m4 ho.cS ho.cI,Qhx h.Claims id 2 k hk hx h0 (.inr rfl) m4 ho.cS ho.cI,QcD h _ _ hm w1,QcD h _ _ hm w2,QcD h _ _ hm w3,
     Qbh h _ _ hm w1 (show [g.2].length ≤ 1048576 by simp),Qbh h _ _ hm w2 (show [g.2].length ≤ 1048576 by simp),Qbh h _ _ hm w3 (show [g.2].length ≤ 1048576 by simp),List.all_cons,List.all_nil,Bool.and_true,id_eq]
    cases decide (s = 1) with
    | true=>exact ⟨_,rfl,rfl,Qab _ _ _ hm w1⟩
    | false=>cases decide (s = 2) with
     | true=>exact ⟨_,rfl,rfl,Qab _ _ _ hm w2⟩
     | false=>exact ⟨_,rfl,rfl,Qab _ _ _ hm w3⟩
   ·simp only [decide_eq_false h0,Bool.not_false,cond_true]
    exact ⟨(h,false),rfl,rfl,hm⟩
end Go.Proofs.YtonidbheohhgdaaGreat
namespace Go.Proofs.YtonidbheohhgdaaGreat
open Go
set_option linter.unusedVariables false
set_option linter.unusedSimpArgs false
theorem QyB (l : List Claim) (id s : Int) (hl : l.length ≤ 1048576) : ∃ r,Qb8 l id s = some r ∧ Jo l id s = some r ∧ r.1.length = l.length:=by
 obtain ⟨c,c1,c2,c3⟩:=Qfh l hl
 unfold Qb8 Jo Vk
 have hrm : rm (0 + l.length) 40 = true:=Vz (by omega) (by omega)
 simp only [hrm,Qa,(Z6 l id hl).1,(Z6 l id hl).2,c1,c2,Option.bind_some]
 rcases Qfl l id with h | ⟨k,hk,h,hid⟩
 ·rw [h]; exact ⟨(l,false),rfl,rfl,rfl⟩
 ·rw [h,decide_eq_false (show ¬ (k : Int) < 0 by omega)]
  cases c with
  | false=>exact ⟨(l,false),rfl,rfl,rfl⟩
  | true =>
   obtain ⟨d,d1,d2,d3⟩:=Qfh (l.set k ⟨l[k].Id,l[k].Who,l[k].Thing,l[k].At,s⟩) (by rw [List.length_set]; omega)
   simp only [cond_false,Option.bind_some,Bool.not_true,Qe hk,Qm hk,Qa,Int.toNat_natCast,d1,d2]
   have hset:=List.length_set (as:=l) (i:=k) (a:=(⟨l[k].Id,l[k].Who,l[k].Thing,l[k].At,s⟩ : Claim))
   cases decide (l[k].State = 0) <;> cases decide (s = 1) <;> cases decide (s = 2) <;> cases decide (l[k].State = 1) <;> cases decide (s = 3) <;> cases d <;> first | exact ⟨(l,false),rfl,rfl,rfl⟩ | exact ⟨(l.set k ⟨l[k].Id,l[k].Who,l[k].Thing,l[k].At,s⟩,true),rfl,rfl,hset⟩
end Go.Proofs.YtonidbheohhgdaaGreat
