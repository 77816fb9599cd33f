import Derived.Test.YtncpklppoancgaaGreatPz1
namespace Go.Proofs.YtncpklppoancgaaGreat
open Go
set_option linter.unusedVariables false
set_option linter.unusedSimpArgs false
noncomputable def Jj (h : House) : Bool:=(QD h).getD false
theorem XW (h : House) (hm : Qg h) : Vv h = some (Jj h) ∧ QD h = some (Jj h):=by
 obtain ⟨c,c1,c2⟩:=Qvx h hm
 unfold Jj
 rw [c1,c2]
 exact ⟨rfl,rfl⟩
theorem Qhv (h : House) (hm : Qg h) (hb : Jj h = true) : HouseOk h:=Qpr h hm (by rw [(XW h hm).2,hb])
theorem Qjc (l : List Secret) (hl : smL Qdf l) : X8 l = some l:=by
 have hlen:=hl.1
 have h1:=Xr (step:=Xg l (ln l)) (fun i=>(l.take i,(i : Int))) (r:=l) l.length (fun i hi=>by
   have hm : l[i].Marks.length ≤ 1048576:=hl.2 _ (List.getElem_mem hi)
   have hr1 : rm (0 + l[i].Marks.length) 16 = true:=VQ (by omega) (by omega)
   have hr2 : rm ((l.take i).length + 1) 40 = true:=VQ (by rw [List.length_take]; omega) (by omega)
   simp only [Xg,Xu,QG hi,Qj hi,QF hi,hr1,hr2,cond_true,Qc,Option.bind_some,Q0 (show (i : Int) < 9223372036854775807 by omega)]
   rw [List.take_succ_eq_append_getElem hi])
  (by simp only [Xg,QS (Nat.le_refl _),cond_false,List.take_length])
 unfold X8
 rw [show run (Xg l (ln l)) ([],0) = _ from by simpa using h1]; rfl
theorem ZO (h : House) (hm : Qg h) : Vi h = some h:=by
 obtain ⟨m1,m2,m3,m4,m5,m6,m7⟩:=hm
 unfold Vi X9 Xy VB Qbi Xe XQ
 simp only [Qjc _ m2,VQ (show 0 + h.Finds.length ≤ 2000000 by omega) (show 64 ≤ 1024 by omega),VQ (show 0 + h.Slots.length ≤ 2000000 by omega) (show 24 ≤ 1024 by omega),VQ (show 0 + h.Claims.length ≤ 2000000 by omega) (show 40 ≤ 1024 by omega),
  VQ (show 0 + h.Trials.length ≤ 2000000 by omega) (show 32 ≤ 1024 by omega),VQ (show 0 + h.Chain.length ≤ 2000000 by omega) (show 40 ≤ 1024 by omega),VQ (show 0 + h.Book.length ≤ 2000000 by omega) (show 32 ≤ 1024 by omega),Qc,Option.bind_some]
theorem QmS (l : List Bool) (hl : l.length ≤ 1048576) : V3 l false = some (!l.all id):=by
 have hr:=XY l (fun x=>decide (false = x)) (fun i=>(i : Int)) (step:=XT l false (ln l))
  (fun i hi=>by
   simp only [XT,QG hi,Qj hi,QF hi,Q0 (show (i : Int) < 9223372036854775807 by omega),cond_true,Qc]
   cases decide (false = l[i]) <;> rfl)
  (by simp only [XT,QS (Nat.le_refl _),cond_false])
 unfold V3 QbM
 rw [hr]
 have hall : l.all id = (l.findIdx? (fun x=>decide (false = x))).isNone:=by
  cases hf : l.findIdx? (fun x=>decide (false = x)) with
  | none =>
   rw [List.findIdx?_eq_none_iff] at hf
   simp only [Option.isNone_none,List.all_eq_true]
   intro x hx
   have:=hf x hx
   cases x <;> simp at this ⊢
  | some i =>
   obtain ⟨hlt,hp⟩:=Qch hf
   simp only [Option.isNone_some]
   rw [List.all_eq_false]
   exact ⟨l[i],List.getElem_mem hlt,by simp at hp; simp [← hp]⟩
 rw [hall]
 cases l.findIdx? (fun x=>decide (false = x)) with
 | none=>rfl
 | some i =>
  simp only [Option.bind_some,evO]
  rw [decide_eq_true (show (0 : Int) ≤ (i : Int) by omega)]; rfl
noncomputable def Qcw (h out : House) (ok : Bool) : House × Bool:=bif ok && (Jj h && Jj out) then (out,true) else (h,false)
theorem QaW (h out : House) (ok : Bool) (hm : Qg h) (ho : Qg out) : Qg (Qcw h out ok).1:=by
 unfold Qcw
 cases ok && (Jj h && Jj out) <;> assumption
theorem QeZ (h out : House) : Qcw h out false = (h,false):=rfl
theorem QwB (h out : House) (ok : Bool) (hb : Jj h = false) : Qcw h out ok = (h,false):=by
 unfold Qcw; rw [hb]; cases ok <;> rfl
theorem QdC (h out : House) (ok : Bool) (hm : Qg h) (ho : Qg out) : Qp h out ok = some (Qcw h out ok):=by
 unfold Qp Qcw
 simp only [(XW h hm).1,(XW out ho).1,Jl h hm,Option.bind_some]
 cases ok <;> cases Jj h <;> cases Jj out <;> rfl
theorem smH {h : House} (hm : Qg h) {f : List Find} {s : List Secret} {t : List Slot} {c : List Claim} {r : List Trial} {n : List Hand} {b : List Entry} {k : Int} (h1 : f.length ≤ 1048576) (h2 : smL Qdf s) (h3 : t.length ≤ 1048576) (h4 : c.length ≤ 1048576) (h5 : r.length ≤ 1048576) (h6 : n.length ≤ 1048576) (h7 : b.length ≤ 1048576) :
  Qg ⟨h.No,f,s,t,c,r,n,b,k⟩:=⟨h1,h2,h3,h4,h5,h6,h7⟩
end Go.Proofs.YtncpklppoancgaaGreat
namespace Go.Proofs.YtncpklppoancgaaGreat
open Go
set_option linter.unusedVariables false
set_option linter.unusedSimpArgs false
def QdX (l : List Claim) (i : Nat) : Bool :=
 (decide (1 ≤ (gt l (i : Int)).Id) && decide ((gt l (i : Int)).Id ≤ 999)) && ((decide (1 ≤ (gt l (i : Int)).Who) && decide ((gt l (i : Int)).Who ≤ 999)) && ((decide (1 ≤ (gt l (i : Int)).Thing) && decide ((gt l (i : Int)).Thing ≤ 999)) && ((decide (0 ≤ (gt l (i : Int)).At) && decide ((gt l (i : Int)).At ≤ 100000)) && ((decide (0 ≤ (gt l (i : Int)).State) && decide ((gt l (i : Int)).State ≤ 3)) &&
  ((decide (i = 0) || !decide ((gt l (i : Int)).Id ≤ (gt l ((i - 1 : Nat) : Int)).Id)) && !(l.take i).any (QeF (gt l (i : Int))))))))
theorem QsF (l : List Claim) (hl : l.length ≤ 2097152) (i : Nat) (hi : i < l.length) : VA l (i : Int) = some (bif QdX l i then .inl ((i + 1 : Nat) : Int) else .inr (.ret false)):=by
 have hin:=Qe9 l i hi (by omega)
 simp only [VA,QdX,QG hi,Qj hi,QF hi,Q0 (show (i : Int) < 9223372036854775807 by omega),cond_true,Qc,Qf,Option.bind_some,hin]
 generalize (l.take i).any (QeF l[i]) = q
 by_cases h0 : 0 < i
 ·simp only [show decide (0 < (i : Int)) = true from decide_eq_true (by omega),show decide (i = 0) = false from decide_eq_false (by omega),ZM h0 (by omega),Qj (show i - 1 < l.length by omega),cond_true,Qc]
  cases (decide (1 ≤ l[i].Id) && decide (l[i].Id ≤ 999)) <;> cases (decide (1 ≤ l[i].Who) && decide (l[i].Who ≤ 999)) <;> cases (decide (1 ≤ l[i].Thing) && decide (l[i].Thing ≤ 999)) <;> cases (decide (0 ≤ l[i].At) && decide (l[i].At ≤ 100000)) <;> cases (decide (0 ≤ l[i].State) && decide (l[i].State ≤ 3)) <;> cases decide (l[i].Id ≤ (gt l ((i - 1 : Nat) : Int)).Id) <;> cases q <;> rfl
 ·simp only [show decide (0 < (i : Int)) = false from decide_eq_false (by omega),show decide (i = 0) = true from decide_eq_true (by omega),cond_false]
  cases (decide (1 ≤ l[i].Id) && decide (l[i].Id ≤ 999)) <;> cases (decide (1 ≤ l[i].Who) && decide (l[i].Who ≤ 999)) <;> cases (decide (1 ≤ l[i].Thing) && decide (l[i].Thing ≤ 999)) <;> cases (decide (0 ≤ l[i].At) && decide (l[i].At ≤ 100000)) <;> cases (decide (0 ≤ l[i].State) && decide (l[i].State ≤ 3)) <;> cases q <;> rfl
theorem QmH (l : List Claim) (hl : l.length ≤ 2097152) : Va l = some ((List.range l.length).all (QdX l) && decide ((l.length : Int) ≤ 20)):=by
 have key : ∀ (m i : Nat),i + m = l.length → run (VA l) (i : Int) = some (bif (List.range' i m).all (QdX l) then .brk () else .ret false):=by
  intro m
  induction m with
  | zero =>
   intro i hi
   have : i = l.length:=by omega
   subst this
   rw [Qn]
   simp only [VA,QS (Nat.le_refl _),cond_false,List.range'_zero,List.all_nil,cond_true,Option.bind_some]
  | succ m ih =>
   intro i hi
   rw [Qn,QsF l hl i (by omega),List.range'_succ,List.all_cons]
   cases QdX l i with
   | false=>rfl
   | true=>simp only [cond_true,Bool.true_and]; exact ih (i + 1) (by omega)
 unfold Va
 rw [show run (VA l) 0 = _ from key l.length 0 (by omega),← List.range_eq_range']
 cases (List.range l.length).all (QdX l) <;> rfl
theorem QfT (l : List Claim) (h : Va l = some true) (hl : l.length ≤ 2097152) : l.length ≤ 20 ∧ ∀ i,i < l.length → QdX l i = true:=by
 rw [QmH l hl] at h
 simp only [Option.some.injEq,Bool.and_eq_true,decide_eq_true_eq,List.all_eq_true,List.mem_range] at h
 exact ⟨by omega,h.1⟩
theorem Qp2 {α : Type} [Inhabited α] (l : List α) (k : Nat) (x : α) (i : Nat) (hi : i < l.length) : gt (l.set k x) (i : Int) = if i = k then x else gt l (i : Int):=by
 rw [QF (by rw [List.length_set]; exact hi),QF hi,List.getElem_set]
 by_cases h : i = k
 ·subst h; simp
 ·rw [if_neg h,if_neg (by omega)]
theorem QnX (l : List Claim) (k i : Nat) (x y : Claim) (hi : i ≤ l.length) (hx : x.State ≠ 3) (h : (l.take i).any (QeF y) = false) : ((l.set k x).take i).any (QeF y) = false:=by
 rw [List.any_eq_false] at h ⊢
 intro z hz
 obtain ⟨j,hj,rfl⟩:=List.getElem_of_mem hz
 have hj' : j < i ∧ j < l.length:=by simp at hj; omega
 rw [List.getElem_take,List.getElem_set]
 by_cases hk : k = j
 ·rw [if_pos hk]; unfold QeF; simp [hx]
 ·rw [if_neg hk]
  exact h _ (by
   rw [List.mem_take_iff_getElem]
   exact ⟨j,by omega,rfl⟩)
theorem Qsy (l : List Claim) (k : Nat) (hk : k < l.length) (s : Int) (hs : s = 1 ∨ s = 2) (hl : l.length ≤ 1048576) (h : Va l = some true) : Va (l.set k ⟨l[k].Id,l[k].Who,l[k].Thing,l[k].At,s⟩) = some true:=by
 obtain ⟨h1,h2⟩:=QfT l h (by omega)
 rw [QmH _ (by rw [List.length_set]; omega)]
 rw [List.length_set]
 have : (List.range l.length).all (QdX (l.set k ⟨l[k].Id,l[k].Who,l[k].Thing,l[k].At,s⟩)) = true:=by
  rw [List.all_eq_true]
  intro i hi
  rw [List.mem_range] at hi
  have ho:=h2 i hi
  have hgi : ∀ j,j < l.length → (gt (l.set k ⟨l[k].Id,l[k].Who,l[k].Thing,l[k].At,s⟩) (j : Int)).Id = (gt l (j : Int)).Id:=by
   intro j hj
   rw [Qp2 l k _ j hj]
   by_cases hjk : j = k
   ·subst hjk; rw [if_pos rfl,QF hj]
   ·rw [if_neg hjk]
  unfold QdX at ho ⊢
  rw [hgi i hi,hgi (i - 1) (by omega)]
  simp only [Bool.and_eq_true] at ho ⊢
  obtain ⟨o1,o2,o3,o4,o5,o6,o7⟩:=ho
  rw [Qp2 l k _ i hi]
  by_cases hik : i = k
  ·subst hik
   rw [QF hi] at o1 o2 o3 o4 o5 o6 o7
   rw [if_pos rfl,QF hi]
   refine ⟨o1,o2,o3,o4,?_,o6,?_⟩
   ·rcases hs with rfl | rfl <;> exact ⟨rfl,rfl⟩
   ·have hst : s ≠ 3:=by omega
    rw [show ((l.set i ⟨l[i].Id,l[i].Who,l[i].Thing,l[i].At,s⟩).take i).any (QeF ⟨l[i].Id,l[i].Who,l[i].Thing,l[i].At,s⟩) = false from by
     rw [List.any_eq_false]; intro z _; unfold QeF; simp [hst]]
    rfl
  ·rw [if_neg hik]
   refine ⟨o1,o2,o3,o4,o5,o6,?_⟩
   have o7' : (l.take i).any (QeF (gt l (i : Int))) = false:=by simpa using o7
   rw [QnX l k i _ _ (by omega) (by show s ≠ 3; omega) o7']
   rfl
 rw [this]
 simp; omega
end Go.Proofs.YtncpklppoancgaaGreat
namespace Go.Proofs.YtncpklppoancgaaGreat
open Go
set_option linter.unusedVariables false
set_option linter.unusedSimpArgs false
theorem QbO (h out : House) (done : List Bool) (hm : Qg h) (ho : Qg out) (hd : done.length ≤ 1048576) : VV h out done = some (Qcw h out (done.all id)):=by
 unfold VV Qcw
 simp only [(XW h hm).2,(XW out ho).2,ZO h hm,QmS done hd,Option.bind_some]
 cases done.all id <;> cases Jj h <;> cases Jj out <;> rfl
end Go.Proofs.YtncpklppoancgaaGreat
namespace Go.Proofs.YtncpklppoancgaaGreat
open Go
set_option linter.unusedVariables false
set_option linter.unusedSimpArgs false
theorem Qqo (h : House) (n : Int) (hm : Qg h) : ∃ r,XX h n = some r ∧ QcK h n = some r ∧ Qg r.1:=by
 have ho : Qg ⟨h.No,h.Finds,h.Secrets,h.Slots,h.Claims,h.Trials,h.Chain,h.Book,w64 (h.Now + n)⟩:=hm
 refine ⟨Qcw h ⟨h.No,h.Finds,h.Secrets,h.Slots,h.Claims,h.Trials,h.Chain,h.Book,w64 (h.Now + n)⟩ (decide (1 ≤ n) && decide (n ≤ 10000)),?_,?_,QaW _ _ _ hm ho⟩
 ·unfold XX
  simp only [Jl h hm,Qf,QdC h _ _ hm ho,Option.bind_some]
  cases hn : (decide (1 ≤ n) && decide (n ≤ 10000)) with
  | false=>rfl
  | true =>
   cases hw : (decide (0 ≤ h.Now) && decide (h.Now ≤ 100000)) with
   | true=>rfl
   | false =>
    have hb : Jj h = false:=by
     cases hb : Jj h with
     | false=>rfl
     | true =>
      have:=(Qhv h hm hb).now
      rw [decide_eq_true this.1,decide_eq_true this.2] at hw
      cases hw
    rw [QwB _ _ _ hb]; rfl
 ·unfold QcK
  simp only [ZO h hm,Qe,Option.bind_some,QbO h _ _ hm ho (show [decide (1 ≤ n) && decide (n ≤ 10000)].length ≤ 1048576 by simp),List.all_cons,List.all_nil,Bool.and_true,id]
end Go.Proofs.YtncpklppoancgaaGreat
namespace Go.Proofs.YtncpklppoancgaaGreat
open Go
set_option linter.unusedVariables false
set_option linter.unusedSimpArgs false
def ZP (l : List Claim) (id : Int) : Int:=match l.findIdx? (fun x=>decide (x.Id = id)) with | some i=>(i : Int) | none=>-1
theorem QiK (l : List Claim) (id : Int) (hl : l.length ≤ 1048576) : XF l id = some (ZP l id):=by
 have hi:=XY l (fun x=>decide (x.Id = id)) (fun i=>(i : Int)) (step:=QK l id (ln l))
  (fun i hi=>by
   simp only [QK,Qcd,Option.bind_some,QG hi,Qj hi,QF hi,Q0 (show (i : Int) < 9223372036854775807 by omega),cond_true,Qc]
   cases decide (l[i].Id = id) <;> rfl)
  (by simp only [QK,QS (Nat.le_refl _),cond_false])
 unfold XF VD ZP
 rw [hi]
 cases l.findIdx? (fun x=>decide (x.Id = id)) <;> rfl
theorem QeN (l : List Claim) (id : Int) : ZP l id = -1 ∨ ∃ k : Nat,∃ hk : k < l.length,ZP l id = (k : Int) ∧ l[k].Id = id:=by
 unfold ZP
 cases hf : l.findIdx? (fun x=>decide (x.Id = id)) with
 | none=>exact .inl rfl
 | some i =>
  obtain ⟨hi,hp⟩:=Qch hf
  exact .inr ⟨i,hi,rfl,by simpa using hp⟩
theorem Qlg (l : List Claim) (id : Int) (j : Nat) (hj : j < l.length) (h : l[j].Id = id) : ∃ k : Nat,∃ hk : k < l.length,ZP l id = (k : Int) ∧ l[k].Id = id:=by
 rcases QeN l id with h0 | h0
 ·exfalso
  unfold ZP at h0
  cases hf : l.findIdx? (fun x=>decide (x.Id = id)) with
  | none =>
   have:=List.findIdx?_eq_none_iff.1 hf _ (List.getElem_mem hj)
   simp [h] at this
  | some i=>rw [hf] at h0; simp only at h0; omega
 ·exact h0
theorem Qiu (h : House) (ht : Xm h = some true) : h.Trials.length = h.Claims.length:=by
 by_cases hlen : h.Trials.length = h.Claims.length
 ·exact hlen
 ·exfalso
  unfold Xm at ht
  rw [show (!decide (ln h.Trials = ln h.Claims)) = true from by rw [Vw,Vw]; simp; omega] at ht
  cases ht
end Go.Proofs.YtncpklppoancgaaGreat
namespace Go.Proofs.YtncpklppoancgaaGreat
open Go
set_option linter.unusedVariables false
set_option linter.unusedSimpArgs false
theorem Qb8 (l : List Claim) (id : Int) (hl : l.length ≤ 1048576) : JK l id = some (ZP l id) ∧ XF l id = some (ZP l id):=by
 have hs:=XY l (fun x=>decide (x.Id = id)) (fun i=>(i : Int)) (step:=JV l id)
  (fun i hi=>by
   simp only [JV,QG hi,Qj hi,QF hi,Q0 (show (i : Int) < 9223372036854775807 by omega),cond_true,Qc]
   cases decide (l[i].Id = id) <;> rfl)
  (by simp only [JV,QS (Nat.le_refl _),cond_false])
 refine ⟨?_,QiK l id hl⟩
 unfold JK ZP
 rw [hs]
 cases l.findIdx? (fun x=>decide (x.Id = id)) <;> rfl
end Go.Proofs.YtncpklppoancgaaGreat
namespace Go.Proofs.YtncpklppoancgaaGreat
open Go
set_option linter.unusedVariables false
set_option linter.unusedSimpArgs false
theorem Qh8 (l : List Claim) (id s : Int) (k : Nat) (hk : k < l.length) (hid : ZP l id = (k : Int)) (h0 : l[k].State = 0) (hs : s = 1 ∨ s = 2) (hl : l.length ≤ 1048576) (h : Va l = some true) (hI : XD l = some true) :
  Jv l id s = some (l.set k ⟨l[k].Id,l[k].Who,l[k].Thing,l[k].At,s⟩,true):=by
 obtain ⟨d,d1,d2,d3⟩:=QfH (l.set k ⟨l[k].Id,l[k].Who,l[k].Thing,l[k].At,s⟩) (by rw [List.length_set]; omega)
 rw [Qsy l k hk s hs hl h] at d1
 cases d1
 unfold Jv VB
 have hrm : rm (0 + l.length) 40 = true:=VQ (by omega) (by omega)
 simp only [hrm,Qc,(Qb8 l id hl).2,hI,Option.bind_some,hid,decide_eq_false (show ¬ (k : Int) < 0 by omega),cond_false,Bool.not_true,Qj hk,QF hk,Int.toNat_natCast,d2,h0,decide_true,cond_true]
 rcases hs with rfl | rfl <;> rfl
theorem Qx1 (x : Int) : ∃ c,Z7 [x] = some c ∧ QdO [x] = some c ∧ 0 ≤ c ∧ c < 2147483647:=by
 obtain ⟨c,hc,h0,h1⟩ : ∃ c,Qdk x 2147483647 = some c ∧ 0 ≤ c ∧ c < 2147483647:=by
  rw [Qsz]
  obtain ⟨h1,h2⟩:=Qk3 x (m:=2147483647) (by omega)
  unfold Qdl Qe
  simp only [Option.bind_some,show (decide ((1 : Int) ≤ 2147483647) && decide ((2147483647 : Int) ≤ 1000000000000)) = true from rfl,Bool.not_true,cond_false,show (!decide ((2147483647 : Int) = 0)) = true from rfl,Qc]
  generalize x.tmod 2147483647 = t at h1 h2
  by_cases ht : t < 0
  ·rw [decide_eq_true ht]; exact ⟨_,rfl,by rw [Vz] <;> omega,by rw [Vz] <;> omega⟩
  ·rw [decide_eq_false ht]; exact ⟨_,rfl,by omega,by omega⟩
 have hs : Z7 [x] = some ((11000033 + c + 13).tmod 2147483647):=by
  unfold Z7
  have hr:=Xr (step:=XM [x]) (fun i=>if i = 0 then (11,0) else ((11000033 + c + 13).tmod 2147483647,1)) (r:=(11000033 + c + 13).tmod 2147483647) 1 (fun i hi=>by
   have : i = 0:=by omega
   subst this
   simp only [XM,if_true,show decide ((0 : Int) < ln [x]) = true from rfl,show inb [x] 0 = true from rfl,show gt [x] (0 : Int) = x from rfl,cond_true,Qc,hc,Option.bind_some,show ¬ (0 + 1 = 0) from by omega,if_false]
   rw [show w64 (11 * 1000003) = 11000033 from rfl,show w64 (0 + 1) = 1 from rfl,Vz (show _ ≤ 11000033 + c by omega) (by omega),Vz (show _ ≤ 11000033 + c + 13 by omega) (by omega)])
   (by simp only [XM,show ¬ (1 = 0) from by omega,if_false]; rfl)
  rw [show run (XM [x]) (11,0) = _ from hr]; rfl
 refine ⟨_,hs,by rw [← Qud,hs],Int.tmod_nonneg _ (by omega),Int.tmod_lt_of_pos _ (by omega)⟩
theorem Qq9 (l : List Mark) (c v : Int) (hl : l.length ≤ 1048576) : ∃ q,QaQ l c v = some q ∧ QaN l c v = some q:=by
 obtain ⟨m,m1,m2⟩:=QfI l (by omega)
 obtain ⟨c',c1,c2,c3,c4⟩:=Qx1 c
 unfold QaQ QaN Qf Qe
 simp only [m1,m2,Option.bind_some]
 by_cases h0 : ln l = 0
 ·rw [decide_eq_true h0]; exact ⟨0,rfl,rfl⟩
 ·rw [decide_eq_false h0]
  have hpos : 0 < ln l:=by rw [Vw] at h0 ⊢; omega
  cases m with
  | false=>exact ⟨0,rfl,rfl⟩
  | true =>
   cases hv : (decide (0 ≤ v) && decide (v ≤ 1000)) with
   | false=>exact ⟨0,rfl,rfl⟩
   | true =>
    simp only [Bool.and_eq_true,decide_eq_true_eq] at hv
    have hb:=Int.tmod_lt_of_pos c' hpos
    have hn:=Int.tmod_nonneg (ln l) c3
    have hle : ln l ≤ 1048576:=by rw [Vw]; omega
    have hmod : Qdk c' (ln l) = some (c'.tmod (ln l)):=by
     unfold Qdk Qf
     simp only [Option.bind_some,show (decide (1 ≤ ln l) && decide (ln l ≤ 1000000000000)) = true from by rw [decide_eq_true (show 1 ≤ ln l by omega),decide_eq_true (show ln l ≤ 1000000000000 by omega)]; rfl,Bool.not_true,cond_false,decide_eq_false h0,Bool.not_false,Qc]
     rw [Vz (by omega) (by omega),Int.tmod_eq_emod_of_nonneg (show 0 ≤ c'.tmod (ln l) + ln l by omega),Int.add_emod_right,Int.emod_eq_of_lt hn hb]
    have hin : inb l ((w64 (c'.tmod (ln l) + v)).tmod (ln l)) = true:=by
     rw [Vz (by omega) (by omega),QcY]
     exact ⟨Int.tmod_nonneg _ (by omega),by have:=Int.tmod_lt_of_pos (c'.tmod (ln l) + v) hpos; rw [Vw] at this; exact this⟩
    simp only [c1,c2,hmod,Option.bind_some,cond_false,Bool.not_true,Bool.not_false,Qc,hin]
    exact ⟨_,rfl,rfl⟩
theorem Qjh (l : List Mark) (x : Trial) (hl : l.length ≤ 1048576) : ∃ q,JR l x = some q ∧ Qac l x = some q:=by
 obtain ⟨s,s1,s2⟩:=QfV l x hl
 obtain ⟨q,q1,q2⟩:=Qq9 l x.Claim x.Asked hl
 unfold JR Qac
 simp only [s1,s2,q1,q2,Option.bind_some]
 cases decide (s = 0) <;> exact ⟨_,rfl,rfl⟩
theorem Qp9 (l : List Mark) (q : Int) (hl : l.length ≤ 1048576) : ∃ a,QbJ l q = some a ∧ QcJ l q = some a:=by
 have hs:=XY l (fun x=>decide (x.Question = q)) (fun i=>(gt l (i : Int)).Answer) (step:=Zs l q)
  (fun i hi=>by
   simp only [Zs,QG hi,Qj hi,QF hi,Q0 (show (i : Int) < 9223372036854775807 by omega),cond_true,Qc]
   cases decide (l[i].Question = q) <;> rfl)
  (by simp only [Zs,QS (Nat.le_refl _),cond_false])
 have hi:=XY l (fun x=>decide (x.Question = q)) (fun i=>(gt l (i : Int)).Answer) (step:=ZB q l (ln l))
  (fun i hi=>by
   simp only [ZB,QG hi,Qj hi,QF hi,Q0 (show (i : Int) < 9223372036854775807 by omega),cond_true,Qc]
   cases decide (l[i].Question = q) <;> rfl)
  (by simp only [ZB,QS (Nat.le_refl _),cond_false])
 unfold QbJ QcJ
 rw [hs,hi]
 cases l.findIdx? (fun x=>decide (x.Question = q)) <;> exact ⟨_,rfl,rfl⟩
theorem QsD (l : List Mark) (x : Trial) (a : Int) (hl : l.length ≤ 1048576) : ∃ r,Qbp l x a = some r ∧ Qbz l x a = some r:=by
 obtain ⟨q,q1,q2⟩:=Qjh l x hl
 obtain ⟨b,b1,b2⟩:=Qp9 l q hl
 unfold Qbp Qbz
 simp only [q1,q2,b1,b2,Option.bind_some]
 cases decide (q = 0) <;> cases decide (b = a) <;> exact ⟨_,rfl,rfl⟩
theorem QiM (h : House) (id a : Int) (hm : Qg h) : ∃ r,Xp h id a = some r ∧ QbE h id a = some r ∧ Qg r.1:=by
 have hm7:=hm
 obtain ⟨m1,m2,m3,m4,m5,m6,m7⟩:=hm7
 unfold Xp QbE
 simp only [Jl h hm,ZO h hm,(Qb8 h.Claims id m4).1,(Qb8 h.Claims id m4).2,(XW h hm).1,(XW h hm).2,Option.bind_some]
 rcases QeN h.Claims id with hx | ⟨k,hk,hx,hid⟩
 ·rw [hx]
  refine ⟨(h,false),rfl,?_,hm⟩
  cases Jj h <;> rfl
 ·rw [hx,decide_eq_false (show ¬ (k : Int) < 0 by omega)]
  cases hb : Jj h with
  | false=>exact ⟨(h,false),rfl,rfl,hm⟩
  | true =>
   have ho:=Qhv h hm hb
   simp only [cond_false,Bool.not_true,Qj hk,QF hk,Qc,Option.bind_some]
   by_cases h0 : h.Claims[k].State = 0
   ·have hkt : k < h.Trials.length:=by rw [Qiu h ho.trials]; exact hk
    obtain ⟨m,k1,k2,k3⟩:=QlX h.Secrets h.Claims[k].Thing m2.1 (fun x hx=>m2.2 x hx)
    obtain ⟨g,g1,g2⟩:=QsD m h.Trials[k] a k3
    obtain ⟨s,s1,s2⟩:=QfV m g.1 k3
    have hl1 : (h.Trials.set k g.1).length ≤ 1048576:=by rw [List.length_set]; exact m5
    have hl2 : ∀ s : Int,(h.Claims.set k ⟨h.Claims[k].Id,h.Claims[k].Who,h.Claims[k].Thing,h.Claims[k].At,s⟩).length ≤ 1048576:=fun s=>by rw [List.length_set]; exact m4
    have w1 : Qg ⟨h.No,h.Finds,h.Secrets,h.Slots,h.Claims.set k ⟨h.Claims[k].Id,h.Claims[k].Who,h.Claims[k].Thing,h.Claims[k].At,1⟩,h.Trials.set k g.1,h.Chain,h.Book,h.Now⟩:=smH hm m1 m2 m3 (hl2 1) hl1 m6 m7
    have w2 : Qg ⟨h.No,h.Finds,h.Secrets,h.Slots,h.Claims.set k ⟨h.Claims[k].Id,h.Claims[k].Who,h.Claims[k].Thing,h.Claims[k].At,2⟩,h.Trials.set k g.1,h.Chain,h.Book,h.Now⟩:=smH hm m1 m2 m3 (hl2 2) hl1 m6 m7
    have w3 : Qg ⟨h.No,h.Finds,h.Secrets,h.Slots,h.Claims,h.Trials.set k g.1,h.Chain,h.Book,h.Now⟩:=smH hm m1 m2 m3 m4 hl1 m6 m7
    simp only [h0,decide_true,Bool.not_true,cond_false,k1,k2,g1,g2,s1,s2,Qj hkt,QF hkt,Qc,Option.bind_some,Int.toNat_natCast,
     Qh8 h.Claims id 1 k hk hx h0 (.inl rfl) m4 ho.cS ho.cI,Qh8 h.Claims id 2 k hk hx h0 (.inr rfl) m4 ho.cS ho.cI,QdC h _ _ hm w1,QdC h _ _ hm w2,QdC h _ _ hm w3,
     QbO h _ _ hm w1 (show [g.2].length ≤ 1048576 by simp),QbO h _ _ hm w2 (show [g.2].length ≤ 1048576 by simp),QbO h _ _ hm w3 (show [g.2].length ≤ 1048576 by simp),List.all_cons,List.all_nil,Bool.and_true,id_eq]
    cases decide (s = 1) with
    | true=>exact ⟨_,rfl,rfl,QaW _ _ _ hm w1⟩
    | false=>cases decide (s = 2) with
     | true=>exact ⟨_,rfl,rfl,QaW _ _ _ hm w2⟩
     | false=>exact ⟨_,rfl,rfl,QaW _ _ _ hm w3⟩
   ·simp only [decide_eq_false h0,Bool.not_false,cond_true]
    exact ⟨(h,false),rfl,rfl,hm⟩
end Go.Proofs.YtncpklppoancgaaGreat
namespace Go.Proofs.YtncpklppoancgaaGreat
open Go
set_option linter.unusedVariables false
set_option linter.unusedSimpArgs false
theorem QAj (l : List Claim) (id s : Int) (hl : l.length ≤ 1048576) : ∃ r,QcM l id s = some r ∧ Jv l id s = some r ∧ r.1.length = l.length:=by
 obtain ⟨c,c1,c2,c3⟩:=QfH l hl
 unfold QcM Jv VB
 have hrm : rm (0 + l.length) 40 = true:=VQ (by omega) (by omega)
 simp only [hrm,Qc,(Qb8 l id hl).1,(Qb8 l id hl).2,c1,c2,Option.bind_some]
 rcases QeN l id with h | ⟨k,hk,h,hid⟩
 ·rw [h]; exact ⟨(l,false),rfl,rfl,rfl⟩
 ·rw [h,decide_eq_false (show ¬ (k : Int) < 0 by omega)]
  cases c with
  | false=>exact ⟨(l,false),rfl,rfl,rfl⟩
  | true =>
   obtain ⟨d,d1,d2,d3⟩:=QfH (l.set k ⟨l[k].Id,l[k].Who,l[k].Thing,l[k].At,s⟩) (by rw [List.length_set]; omega)
   simp only [cond_false,Option.bind_some,Bool.not_true,Qj hk,QF hk,Qc,Int.toNat_natCast,d1,d2]
   have hset:=List.length_set (as:=l) (i:=k) (a:=(⟨l[k].Id,l[k].Who,l[k].Thing,l[k].At,s⟩ : Claim))
   cases decide (l[k].State = 0) <;> cases decide (s = 1) <;> cases decide (s = 2) <;> cases decide (l[k].State = 1) <;> cases decide (s = 3) <;> cases d <;> first | exact ⟨(l,false),rfl,rfl,rfl⟩ | exact ⟨(l.set k ⟨l[k].Id,l[k].Who,l[k].Thing,l[k].At,s⟩,true),rfl,rfl,hset⟩
end Go.Proofs.YtncpklppoancgaaGreat
