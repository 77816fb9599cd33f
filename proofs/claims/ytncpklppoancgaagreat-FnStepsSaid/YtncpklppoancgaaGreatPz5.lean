import Derived.Test.YtncpklppoancgaaGreatPz4
import Derived.Test.YtncpklppoancgaaGreatFam
import Derived.Test.YtncpklppoancgaaGreatPz2
import Derived.Test.YtncpklppoancgaaGreatPz1
import Derived.Test.YtncpklppoancgaaGreatPz3
namespace Go.Proofs.YtncpklppoancgaaGreat
open Go
set_option linter.unusedVariables false
set_option linter.unusedSimpArgs false
theorem QvQ (c : l1Cur) (i : Int) (h : okC c) : ∃ c' x,Qd3 c i = some (c',x) ∧ okC c' ∧ x.Id = i:=by
 obtain ⟨c1,x1,e1,k1,_⟩:=Qw c 8 h
 obtain ⟨c2,x2,e2,k2,_⟩:=Qw c1 8 k1
 obtain ⟨c3,x3,e3,k3,_⟩:=Qw c2 20 k2
 obtain ⟨c4,x4,e4,k4,_⟩:=Qw c3 500 k3
 exact ⟨c4,_,by unfold Qd3; simp only [e1,e2,e3,e4,Option.bind_some]; rfl,k4,rfl⟩
theorem QoO (c : l1Cur) (i : Int) (h : okC c) : ∃ c' x,Qdd c i = some (c',x) ∧ okC c':=by
 obtain ⟨c1,x1,e1,k1,_⟩:=QvQ c i h
 obtain ⟨c2,x2,e2,k2,_⟩:=Qw c1 6 k1
 obtain ⟨c3,x3,e3,k3,_⟩:=Qw c2 80 k2
 obtain ⟨c4,x4,e4,k4,_⟩:=Qw c3 5 k3
 exact ⟨c4,_,by unfold Qdd; simp only [e1,e2,e3,e4,Option.bind_some]; rfl,k4⟩
theorem Qsh {S R : Type} {step : S → Option (S ⊕ R)} (I : S → Prop) (J : R → Prop) (h1 : ∀ s s',I s → step s = some (.inl s') → I s') (h2 : ∀ s r,I s → step s = some (.inr r) → J r) {s : S} {r : R} (hs : I s) (h : run step s = some r) : J r:=by
 obtain ⟨n,hn⟩:=QcO.1 h
 clear h
 induction n generalizing s with
 | zero=>simp [itr] at hn
 | succ n ih =>
  simp only [itr] at hn
  cases ho : step s with
  | none=>rw [ho] at hn; cases hn
  | some o =>
   rw [ho] at hn
   cases o with
   | inl s'=>exact ih (h1 _ _ hs ho) hn
   | inr q=>injection hn with hn; subst hn; exact h2 _ _ hs ho
theorem Jc {B : Type} {b : Bool} {q : Option B} {r : B} (h : (nd b <| q) = some r) : b = true ∧ q = some r:=by
 cases b with
 | false=>cases h
 | true=>exact ⟨rfl,h⟩
end Go.Proofs.YtncpklppoancgaaGreat
namespace Go.Proofs.YtncpklppoancgaaGreat
open Go
set_option linter.unusedVariables false
set_option linter.unusedSimpArgs false
def Qtf (l : List Slot) : Prop:=l.length ≤ 8 ∧ ∀ i (h : i < l.length),l[i].Id = (i : Int) + 1 ∧ 1 ≤ l[i].Size ∧ l[i].Size ≤ 50 ∧ l[i].Thing = 0
theorem QsZ (c : l1Cur) (h : okC c) : ∃ c' l,QcI c = some (c',l) ∧ okC c' ∧ Qtf l:=by
 have key : ∀ (m : Nat) (c : l1Cur) (l : List Slot) (i : Int),okC c → i + (m : Int) = 8 → i = (l.length : Int) + 1 → Qtf l → ∃ c' l',run Zy (c,l,i) = some (c',l') ∧ okC c' ∧ Qtf l':=by
  intro m
  induction m with
  | zero =>
   intro c l i hc hi hl hg
   obtain ⟨c1,x1,e1,k1,l1,u1⟩:=Qw c 5 hc
   have u1:=u1 (by omega)
   refine ⟨c1,l,?_,k1,hg⟩
   rw [Qn]
   simp only [Zy,e1,Option.bind_some,show w64 (3 + x1) = 3 + x1 from Vz (by omega) (by omega),decide_eq_false (show ¬ i ≤ 3 + x1 by omega),cond_false]
  | succ m ih =>
   intro c l i hc hi hl hg
   obtain ⟨c1,x1,e1,k1,l1,u1⟩:=Qw c 5 hc
   have u1:=u1 (by omega)
   obtain ⟨c2,x2,e2,k2,l2,u2⟩:=Qw c1 4 k1
   have u2:=u2 (by omega)
   rw [Qn]
   simp only [Zy,e1,e2,Option.bind_some,show w64 (3 + x1) = 3 + x1 from Vz (by omega) (by omega),VQ (show l.length + 1 ≤ 2000000 by omega) (show 24 ≤ 1024 by omega),Qc,show w64 (i + 1) = i + 1 from Vz (by omega) (by omega),show w64 (5 * x2) = 5 * x2 from Vz (by omega) (by omega),show w64 (10 + 5 * x2) = 10 + 5 * x2 from Vz (by omega) (by omega)]
   by_cases hd : i ≤ 3 + x1
   ·rw [decide_eq_true hd]
    refine ih c2 _ (i + 1) k2 (by omega) (by simp; omega) ⟨by simp; omega,fun j hj=>?_⟩
    by_cases hjl : j < l.length
    ·rw [List.getElem_append_left hjl]; exact hg.2 j hjl
    ·have : j = l.length:=by simp at hj; omega
     subst this
     simp only [List.getElem_append_right (Nat.le_refl _),Nat.sub_self,List.getElem_cons_zero]
     exact ⟨hl,by omega,by omega,trivial⟩
   ·rw [decide_eq_false hd]
    exact ⟨c1,l,rfl,k1,hg⟩
 obtain ⟨c',l',r1,r2,r3⟩:=key 7 c [] 1 h (by omega) (by simp) ⟨by simp,fun i h=>by simp at h⟩
 exact ⟨c',l',by unfold QcI; rw [r1]; rfl,r2,r3⟩
theorem QsN (l : List Slot) (hg : Qtf l) : V7 l = some true:=by
 obtain ⟨hl,hg⟩:=hg
 have inner : ∀ i (hi : i < l.length),run (VZ l (i : Int)) 0 = some (.brk ()):=by
  intro i hi
  have key : ∀ (m j : Nat),j + m = i → run (VZ l (i : Int)) (j : Int) = some (.brk ()):=by
   intro m
   induction m with
   | zero=>intro j hj; rw [Qn]; simp only [VZ,decide_eq_false (show ¬ (j : Int) < (i : Int) by omega),cond_false,Option.bind_some]
   | succ m ih =>
    intro j hj
    rw [Qn]
    simp only [VZ,decide_eq_true (show (j : Int) < (i : Int) by omega),Qj hi,QF hi,(hg i hi).2.2.2,decide_true,Bool.not_true,cond_true,cond_false,Qc,Option.bind_some,Q0 (show (j : Int) < 9223372036854775807 by omega)]
    exact ih (j + 1) (by omega)
  exact key i 0 (by omega)
 have key : ∀ (m i : Nat),i + m = l.length → run (QI l) (i : Int) = some (.brk ()):=by
  intro m
  induction m with
  | zero =>
   intro i hi
   have : i = l.length:=by omega
   subst this
   rw [Qn]; simp only [QI,QS (Nat.le_refl _),cond_false,Option.bind_some]
  | succ m ih =>
   intro i hi
   have hlt : i < l.length:=by omega
   obtain ⟨g1,g2,g3,g4⟩:=hg i hlt
   rw [Qn]
   simp only [QI,QG hlt,Qj hlt,QF hlt,Qf,cond_true,Qc,Option.bind_some,g1,g4,decide_eq_true (show (1 : Int) ≤ (i : Int) + 1 by omega),decide_eq_true (show (i : Int) + 1 ≤ 99 by omega),decide_eq_true g2,decide_eq_true g3,show decide ((0 : Int) ≤ 0) = true from rfl,show decide ((0 : Int) ≤ 999) = true from rfl,Bool.and_self,Bool.not_true,cond_false,inner i hlt,evO,Q0 (show (i : Int) < 9223372036854775807 by omega)]
   by_cases h0 : 0 < i
   ·obtain ⟨p1,_⟩:=hg (i - 1) (by omega)
    simp only [decide_eq_true (show (0 : Int) < (i : Int) by omega),ZM h0 (by omega),Qj (show i - 1 < l.length by omega),QF (show i - 1 < l.length by omega),p1,decide_eq_false (show ¬ (i : Int) + 1 ≤ ((i - 1 : Nat) : Int) + 1 by omega),cond_true,cond_false,Qc,Option.bind_some]
    exact ih (i + 1) (by omega)
   ·simp only [decide_eq_false (show ¬ (0 : Int) < (i : Int) by omega),cond_false,Option.bind_some]
    exact ih (i + 1) (by omega)
 unfold V7
 rw [show run (QI l) 0 = some (.brk ()) from key l.length 0 (by omega)]
 simp only [Option.bind_some,evO]
 rw [decide_eq_true (show ln l ≤ 30 by rw [Vw]; omega)]
theorem Qwe (l : List Slot) (hg : Qtf l) : Qb3 l = some (l.length : Int):=by
 have key : ∀ (m i : Nat),i + m = l.length → run (X5 l) ((i : Int),(i : Int)) = some (l.length : Int):=by
  intro m
  induction m with
  | zero =>
   intro i hi
   have : i = l.length:=by omega
   subst this
   rw [Qn]; simp only [X5,QS (Nat.le_refl _),cond_false,Option.bind_some]
  | succ m ih =>
   intro i hi
   have hlt : i < l.length:=by omega
   have:=hg.1
   rw [Qn]
   simp only [X5,QG hlt,Qj hlt,QF hlt,(hg.2 i hlt).2.2.2,decide_true,cond_true,Qc,Option.bind_some,Q0 (show (i : Int) < 9223372036854775807 by omega)]
   exact ih (i + 1) (by omega)
 unfold Qb3
 rw [show run (X5 l) (0,0) = some (l.length : Int) from key l.length 0 (by omega)]; rfl
theorem Qqn (no : Int) (l : List Slot) (h1 : 1 ≤ no) (h2 : no ≤ 9) (hg : Qtf l) : Vv ⟨no,[],[],l,[],[],[],[],0⟩ = some true:=by
 have e1 : Xz [] = some true:=by unfold Xz; rw [Qn]; rfl
 have e2 : XJ [] = some true:=by unfold XJ; rw [Qn]; rfl
 have e3 : Va [] = some true:=by unfold Va; rw [Qn]; rfl
 have e4 : VU [] = some true:=by unfold VU; rw [Qn]; rfl
 have e5 : VY [] = some true:=by unfold VY; rw [Qn]; rfl
 have e6 : ∀ n,Qbe [] n = some []:=fun n=>by unfold Qbe; rw [Qn]; rfl
 have e7 : JD ⟨no,[],[],l,[],[],[],[],0⟩ = some true:=by unfold JD; rw [Qn]; rfl
 have e8 : run (VK ⟨no,[],[],l,[],[],[],[],0⟩) 0 = some (.brk ()):=by
  have key : ∀ (m i : Nat),i + m = l.length → run (VK ⟨no,[],[],l,[],[],[],[],0⟩) (i : Int) = some (.brk ()):=by
   intro m
   induction m with
   | zero =>
    intro i hi
    have : i = l.length:=by omega
    subst this
    rw [Qn]; simp only [VK,QS (Nat.le_refl _),cond_false,Option.bind_some]
   | succ m ih =>
    intro i hi
    have hlt : i < l.length:=by omega
    have:=hg.1
    rw [Qn]
    simp only [VK,QG hlt,Qj hlt,QF hlt,(hg.2 i hlt).2.2.2,decide_true,Bool.not_true,cond_true,cond_false,Qc,Option.bind_some,Q0 (show (i : Int) < 9223372036854775807 by omega)]
    exact ih (i + 1) (by omega)
  exact key l.length 0 (by omega)
 have e9 : JC ⟨no,[],[],l,[],[],[],[],0⟩ = some true:=by
  unfold JC
  simp only [decide_true,Bool.not_true,cond_false,e6,Option.bind_some]
  rw [Qn]
  simp only [XZ,show decide ((0 : Int) < ln ([] : List Int)) = false from rfl,cond_false,Option.bind_some,evO]
  rw [Qn]
  simp only [XO,show decide ((0 : Int) < ln ([] : List Find)) = false from rfl,cond_false,Option.bind_some,evO]
  rw [e8]; rfl
 unfold Vv
 simp only [Qf,decide_eq_true h1,decide_eq_true h2,Bool.and_self,Bool.not_true,cond_false,e1,e2,e3,e4,e5,e7,e9,QsN l hg,Option.bind_some,show decide ((0 : Int) ≤ 0) = true from rfl,show decide ((0 : Int) ≤ 100000) = true from rfl,show decide ((0 : Int) < ln ([] : List Hand)) = false from rfl,show decide ((0 : Int) < ln ([] : List Entry)) = false from rfl,cond_true]
theorem QvY (no : Int) (l : List Slot) (h1 : 1 ≤ no) (h2 : no ≤ 9) (hg : Qtf l) : QcL no l = some (⟨no,[],[],l,[],[],[],[],0⟩,true):=by
 have hl:=hg.1
 have hm : Qg ⟨no,[],[],l,[],[],[],[],0⟩:=⟨by simp,⟨by simp,by simp⟩,by simp only; omega,by simp,by simp,by simp,by simp⟩
 have hv:=Qqn no l h1 h2 hg
 unfold QcL
 rw [Jl _ hm]
 simp only [Option.bind_some,hv,Qwe l hg,Vw,decide_true,Bool.not_true,cond_false]
end Go.Proofs.YtncpklppoancgaaGreat
namespace Go.Proofs.YtncpklppoancgaaGreat
open Go
set_option linter.unusedVariables false
set_option linter.unusedSimpArgs false
theorem Qwi (c : l1Cur) (h : okC c) : ∃ c' l,Qde c = some (c',l) ∧ okC c' ∧ l.length ≤ 100:=by
 have key : ∀ (m : Nat) (c : l1Cur) (l : List Bid) (i : Int),okC c → i + (m : Int) = 7 → 0 ≤ i → l.length + m ≤ 100 → ∃ c' l',run QaR (c,l,i) = some (c',l') ∧ okC c' ∧ l'.length ≤ 100:=by
  intro m
  induction m with
  | zero =>
   intro c l i hc hi h0 hl
   obtain ⟨c1,x1,e1,k1,l1,u1⟩:=Qw c 7 hc
   have u1:=u1 (by omega)
   refine ⟨c1,l,?_,k1,by omega⟩
   rw [Qn]
   simp only [QaR,e1,Option.bind_some,decide_eq_false (show ¬ i ≤ x1 by omega),cond_false]
  | succ m ih =>
   intro c l i hc hi h0 hl
   obtain ⟨c1,x1,e1,k1,l1,u1⟩:=Qw c 7 hc
   obtain ⟨c2,x2,e2,k2,_⟩:=Qw c1 12 k1
   obtain ⟨s,hs⟩:=QoL [7,i,w64 (1 + x2)] (by simp)
   have hsb : Qdt 7 i (w64 (1 + x2)) = some s:=by unfold Qdt; rw [hs]; rfl
   rw [Qn]
   simp only [QaR,e1,e2,hsb,Option.bind_some,VQ (show l.length + 1 ≤ 2000000 by omega) (show 24 ≤ 1024 by omega),Qc,show w64 (i + 1) = i + 1 from Vz (by omega) (by omega)]
   by_cases hd : i ≤ x1
   ·rw [decide_eq_true hd]
    exact ih c2 _ (i + 1) k2 (by omega) (by omega) (by simp; omega)
   ·rw [decide_eq_false hd]
    exact ⟨c1,l,rfl,k1,by omega⟩
 obtain ⟨c1,l,r1,k1,n1⟩:=key 6 c [] 1 h (by omega) (by omega) (by simp)
 unfold Qde
 rw [r1]
 simp only [Option.bind_some]
 by_cases h0 : 0 < ln l
 ·rw [decide_eq_true h0]
  obtain ⟨c2,x2,e2,k2,l2,u2⟩:=Qw c1 (ln l) k1
  have u2:=u2 h0
  rw [Vw] at u2
  have hin : inb l x2 = true:=by rw [QcY]; omega
  obtain ⟨c3,x3,e3,k3,_⟩:=Qw c2 10 k2
  obtain ⟨c4,x4,e4,k4,_⟩:=QdE c3 [0,1,999,1000] k3 (by simp)
  obtain ⟨c5,x5,e5,k5,_⟩:=QdE c3 [0,10000000,10000001] k3 (by simp)
  simp only [e2,e3,e4,e5,hin,Option.bind_some,cond_true,Qc]
  cases decide (x3 = 0) with
  | true=>exact ⟨_,_,rfl,k4,by rw [List.length_set]; exact n1⟩
  | false =>
  cases decide (x3 = 1) with
  | true=>exact ⟨_,_,rfl,k5,by rw [List.length_set]; exact n1⟩
  | false=>exact ⟨_,_,rfl,k3,n1⟩
 ·rw [decide_eq_false h0]
  exact ⟨c1,l,rfl,k1,n1⟩
end Go.Proofs.YtncpklppoancgaaGreat
namespace Go.Proofs.YtncpklppoancgaaGreat
open Go
set_option linter.unusedVariables false
set_option linter.unusedSimpArgs false
theorem Qsr {A : Type} (l : List A) (a b : Int) : (cut l a b).length ≤ l.length:=by
 unfold cut; simp; omega
theorem QsS (l : List Mark) (m : Mark) (hl : l.length ≤ 1000) : ∃ l' b,QdA l m = some (l',b) ∧ l'.length ≤ l.length + 1:=by
 have key : ∀ (d k : Nat),k + d = l.length → ∃ r : Nat,run (JZ l m) (k : Int) = some (r : Int) ∧ r ≤ l.length:=by
  intro d
  induction d with
  | zero =>
   intro k hk
   have : k = l.length:=by omega
   subst this
   exact ⟨l.length,by rw [Qn]; simp only [JZ,QS (Nat.le_refl _),cond_false,Option.bind_some],Nat.le_refl _⟩
  | succ d ih =>
   intro k hk
   have hlt : k < l.length:=by omega
   obtain ⟨r,r1,r2⟩:=ih (k + 1) (by omega)
   rw [Qn]
   simp only [JZ,QG hlt,Qj hlt,cond_true,Qc,Option.bind_some,Q0 (show (k : Int) < 9223372036854775807 by omega)]
   cases decide ((gt l (k : Int)).Question < m.Question) with
   | true=>exact ⟨r,r1,r2⟩
   | false=>exact ⟨k,rfl,by omega⟩
 obtain ⟨k,r1,hk⟩:=key l.length 0 (by omega)
 have s1 : slB (k : Int) (ln l) (ln l) = true:=by unfold slB; simp [Vw]; omega
 have s2 : slB 0 (k : Int) (ln l) = true:=by unfold slB; simp [Vw]; omega
 have c1:=Qsr l 0 (k : Int)
 have c2:=Qsr l (k : Int) (ln l)
 have c0 : (cut l 0 (k : Int)).length ≤ k:=by unfold cut; simp; omega
 have c3 : (cut l (k : Int) (ln l)).length ≤ l.length - k:=by unfold cut; simp [Vw]
 have c4:=Qsr (cut l (k : Int) (ln l)) 1 (ln (cut l (k : Int) (ln l)))
 have rms : ∀ {n : Nat},n ≤ 2000000 → rm n 16 = true:=fun h=>VQ h (by omega)
 unfold QdA
 rw [show run (JZ l m) 0 = some (k : Int) from r1]
 simp only [Option.bind_some,s1,s2,Qc,rms (show 0 + (cut l 0 (k : Int)).length ≤ 2000000 by omega),rms (show (cut l 0 (k : Int)).length + 1 ≤ 2000000 by omega),rms (show (cut l 0 (k : Int)).length + 1 + (cut (cut l (k : Int) (ln l)) 1 (ln (cut l (k : Int) (ln l)))).length ≤ 2000000 by omega),
  rms (show (cut l 0 (k : Int)).length + 1 + (cut l (k : Int) (ln l)).length ≤ 2000000 by omega),rms (show 0 + l.length ≤ 2000000 by omega)]
 obtain ⟨b1,a1,_⟩:=QfI (((cut l 0 (k : Int)) ++ [m]) ++ (cut (cut l (k : Int) (ln l)) 1 (ln (cut l (k : Int) (ln l))))) (by simp; omega)
 obtain ⟨b2,a2,_⟩:=QfI (((cut l 0 (k : Int)) ++ [m]) ++ (cut l (k : Int) (ln l))) (by simp; omega)
 have off : ∃ l' b,((JB (((cut l 0 (k : Int)) ++ [m]) ++ (cut l (k : Int) (ln l)))).bind fun r=>(bif (!r) then some (l,false) else some (((cut l 0 (k : Int)) ++ [m]) ++ (cut l (k : Int) (ln l)),true)) : Option (List Mark × Bool)) = some (l',b) ∧ l'.length ≤ l.length + 1:=by
  rw [a2]
  cases b2 with
  | false=>exact ⟨l,false,rfl,by omega⟩
  | true=>exact ⟨_,true,rfl,by simp; omega⟩
 by_cases h0 : 0 < (cut l (k : Int) (ln l)).length
 ·rw [decide_eq_true (show 0 < ln (cut l (k : Int) (ln l)) by rw [Vw]; omega)]
  have hi : inb (cut l (k : Int) (ln l)) 0 = true:=by rw [QcY]; omega
  have s3 : slB 1 (ln (cut l (k : Int) (ln l))) (ln (cut l (k : Int) (ln l))) = true:=by
   have hlen : (1 : Int) ≤ ln (cut l (k : Int) (ln l)):=by rw [Vw]; omega
   unfold slB; rw [decide_eq_true hlen]; simp
  simp only [hi,cond_true,Qc,Option.bind_some]
  cases decide ((gt (cut l (k : Int) (ln l)) 0).Question = m.Question) with
  | true =>
   simp only [cond_true,s3,Qc,a1,Option.bind_some]
   cases b1 with
   | false=>exact ⟨l,false,rfl,by omega⟩
   | true=>exact ⟨_,true,rfl,by simp; omega⟩
  | false=>exact off
 ·rw [decide_eq_false (show ¬ 0 < ln (cut l (k : Int) (ln l)) by rw [Vw]; omega)]
  exact off
theorem QmX (c : l1Cur) (h : okC c) : ∃ c' l,Qcn c = some (c',l) ∧ okC c' ∧ l.length ≤ 100:=by
 have key : ∀ (m : Nat) (c : l1Cur) (l : List Mark),okC c → l.length + m ≤ 100 → ∃ c' l',run ZZ (c,l,(m : Int)) = some (c',l') ∧ okC c' ∧ l'.length ≤ 100:=by
  intro m
  induction m with
  | zero =>
   intro c l hc hl
   exact ⟨c,l,by rw [Qn]; simp only [ZZ,show decide ((0 : Int) < ((0 : Nat) : Int)) = false from rfl,cond_false,Option.bind_some],hc,by omega⟩
  | succ m ih =>
   intro c l hc hl
   obtain ⟨c1,x1,e1,k1,_⟩:=Qw c 8 hc
   obtain ⟨c2,x2,e2,k2,_⟩:=Qw c1 9 k1
   obtain ⟨l3,b3,e3,n3⟩:=QsS l (⟨w64 (1 + x1),x2⟩ : Mark) (by omega)
   obtain ⟨c',l',r1,r2⟩:=ih c2 l3 k2 (by omega)
   refine ⟨c',l',?_,r2⟩
   rw [Qn]
   simp only [ZZ,decide_eq_true (show (0 : Int) < ((m + 1 : Nat) : Int) by omega),e1,e2,e3,cond_true,Option.bind_some,show w64 (((m + 1 : Nat) : Int) - 1) = (m : Int) from by rw [Vz] <;> omega]
   exact r1
 obtain ⟨c1,x1,e1,k1,l1,u1⟩:=Qw c 6 h
 have u1:=u1 (by omega)
 obtain ⟨k,rfl⟩ : ∃ k : Nat,x1 = (k : Int):=⟨x1.toNat,by omega⟩
 obtain ⟨c2,l,r2,k2,n2⟩:=key k c1 [] k1 (by simp; omega)
 exact ⟨c2,l,by unfold Qcn; simp only [e1,Option.bind_some]; rw [r2]; rfl,k2,n2⟩
theorem QvM (c : l1Cur) (a : Int) (h : okC c) : ∃ c' x,Qd5 c a = some (c',x) ∧ okC c' ∧ x.Marks.length ≤ 100:=by
 obtain ⟨c1,l,e1,k1,n1⟩:=QmX c h
 obtain ⟨c2,x2,e2,k2,_⟩:=Qw c1 9 k1
 obtain ⟨c3,x3,e3,k3,_⟩:=Qw c2 99 k2
 obtain ⟨c4,x4,e4,k4,_⟩:=Qw c1 99 k1
 unfold Qd5
 simp only [e1,e2,e3,e4,Option.bind_some]
 cases decide (ln l = 0) with
 | true=>exact ⟨_,_,rfl,k3,by simp⟩
 | false=>exact ⟨_,_,rfl,k4,n1⟩
theorem QwM (c : l1Cur) (h : okC c) : ∃ c' l,Qc5 c = some (c',l) ∧ okC c' ∧ l.length ≤ 100:=by
 obtain ⟨c1,l,e1,k1,n1⟩:=QmX c h
 unfold Qc5
 rw [e1]
 simp only [Option.bind_some]
 by_cases h0 : l.length = 0
 ·rw [decide_eq_true (show ln l = 0 by rw [Vw]; omega)]; exact ⟨c1,l,rfl,k1,n1⟩
 ·rw [decide_eq_false (show ¬ ln l = 0 by rw [Vw]; omega)]
  obtain ⟨c2,x2,e2,k2,l2,u2⟩:=Qw c1 (ln l) k1
  have u2:=u2 (by rw [Vw]; omega)
  rw [Vw] at u2
  have hin : inb l x2 = true:=by rw [QcY]; omega
  obtain ⟨c3,x3,e3,k3,_⟩:=Qw c2 9 k2
  obtain ⟨c4,x4,e4,k4,_⟩:=QdE c3 [0,20,21] k3 (by simp)
  obtain ⟨c5,x5,e5,k5,_⟩:=QdE c3 [(-1),99,100] k3 (by simp)
  simp only [e2,e3,e4,e5,hin,cond_false,Option.bind_some,Qc]
  cases decide (x3 = 0) with
  | true=>exact ⟨_,_,rfl,k4,by rw [List.length_set]; exact n1⟩
  | false =>
  cases decide (x3 = 1) with
  | true=>exact ⟨_,_,rfl,k5,by rw [List.length_set]; exact n1⟩
  | false=>exact ⟨_,_,rfl,k3,n1⟩
end Go.Proofs.YtncpklppoancgaaGreat
namespace Go.Proofs.YtncpklppoancgaaGreat
open Go
set_option linter.unusedVariables false
set_option linter.unusedSimpArgs false
theorem QxZ (h : House) (c : Int) (hl : h.Trials.length ≤ 1048576) : ∃ r,Qdp h c = some r:=by
 have hs:=XY h.Trials (fun x=>decide (x.Claim = c)) (fun i=>(h.Trials.getD i default,true)) (step:=Z1 c h (⟨0,0,0,0⟩ : Trial))
  (fun i hi=>by
   simp only [Z1,QG hi,Qj hi,QF hi,Q0 (show (i : Int) < 9223372036854775807 by omega),cond_true,Qc,List.getD_eq_getElem?_getD,List.getElem?_eq_getElem hi,Option.getD_some]
   cases decide (h.Trials[i].Claim = c) <;> rfl)
  (by simp only [Z1,QS (Nat.le_refl _),cond_false])
 unfold Qdp
 rw [hs]
 split <;> exact ⟨_,rfl⟩
theorem Qnh (a : House) (c : Int) (hm : Qg a) : ∃ r,Qbj a c = some r:=by
 obtain ⟨m1,⟨m2,m2'⟩,m3,m4,m5,m6,m7⟩:=hm
 obtain ⟨r2,e2⟩:=QxZ a c m5
 unfold Qbj
 rw [(Qb8 a.Claims c m4).1,e2]
 simp only [Option.bind_some]
 by_cases hb : (decide (ZP a.Claims c < 0) || !r2.2) = true
 ·rw [hb]; exact ⟨_,rfl⟩
 ·have hb' : (decide (ZP a.Claims c < 0) || !r2.2) = false:=by simpa using hb
  rw [hb']
  simp only [Bool.or_eq_false_iff,decide_eq_false_iff_not] at hb'
  have hin : inb a.Claims (ZP a.Claims c) = true:=by
   rcases QeN a.Claims c with h | ⟨k,hk,h,_⟩
   ·omega
   ·rw [h]; exact Qj hk
  obtain ⟨m,e3,_,n3⟩:=QlX a.Secrets (gt a.Claims (ZP a.Claims c)).Thing m2 m2'
  obtain ⟨q,e4,_⟩:=Qjh m r2.1 n3
  obtain ⟨v,e5,_⟩:=Qp9 m q n3
  exact ⟨v,by simp only [hin,e3,e4,e5,cond_false,Qc,Option.bind_some]⟩
theorem QrK (c : l1Cur) (a : House) (i : Int) (h : okC c) (hm : Qg a) : ∃ c' x,QaI c a i = some (c',x) ∧ okC c' ∧ Qg x:=by
 obtain ⟨c1,x1,e1,k1⟩:=QoO c i h
 obtain ⟨c2,x2,e2,k2,_⟩:=Qw c1 15 k1
 obtain ⟨x3,e3⟩ : ∃ x,Qbw x1.At a.Now = some x:=by unfold Qbw; cases decide (a.Now < x1.At) <;> exact ⟨_,rfl⟩
 obtain ⟨c4,x4,e4,k4,_⟩:=QdE c2 [0,900,5000,5001,60000] k2 (by simp)
 obtain ⟨c5,x5,e5,k5,n5⟩:=QvM c4 i k4
 obtain ⟨c6,x6,e6,k6,_⟩:=Qw c5 50 k5
 obtain ⟨r,e7,_,s7⟩:=Qr9 a (⟨⟨x1.Thing.Id,x1.Thing.Kind,x1.Thing.Colour,w64 (1 + x2),x4⟩,x1.Place,x3,x1.Finder⟩ : Find) x5.Marks x6 hm (by omega)
 exact ⟨c6,r.1,by unfold QaI; simp only [e1,e2,e3,e4,e5,e6,e7,Option.bind_some],k6,s7⟩
theorem Qex (c : l1Cur) (a : Int) (h : okC c) : ∃ c' b,JE c a = some (c',b) ∧ okC c':=by
 obtain ⟨c1,x1,e1,k1,_⟩:=Qw c a h
 exact ⟨c1,_,by unfold JE; rw [e1]; rfl,k1⟩
theorem QyE (c : l1Cur) (h : okC c) : ∀ (m : Nat) (c : l1Cur) (a : House) (i : Int),okC c → Qg a → i + (m : Int) = 4 → 0 ≤ i → ∃ c' x,run Z2 (c,a,i) = some (c',x) ∧ okC c' ∧ Qg x:=by
 intro m
 induction m with
 | zero =>
  intro c a i hc ha hi h0
  obtain ⟨c1,x1,e1,k1,l1,u1⟩:=Qw c 3 hc
  have u1:=u1 (by omega)
  refine ⟨c1,a,?_,k1,ha⟩
  rw [Qn]
  simp only [Z2,e1,Option.bind_some,show w64 (1 + x1) = 1 + x1 from Vz (by omega) (by omega),decide_eq_false (show ¬ i ≤ 1 + x1 by omega),cond_false]
 | succ m ih =>
  intro c a i hc ha hi h0
  obtain ⟨c1,x1,e1,k1,l1,u1⟩:=Qw c 3 hc
  obtain ⟨c2,x2,e2,k2,s2⟩:=QrK c1 a (w64 (2 * i)) k1 ha
  rw [Qn]
  simp only [Z2,e1,e2,Option.bind_some,show w64 (i + 1) = i + 1 from Vz (by omega) (by omega)]
  cases decide (i ≤ w64 (1 + x1)) with
  | true=>exact ih c2 x2 (i + 1) k2 s2 (by omega) (by omega)
  | false=>exact ⟨c1,a,rfl,k1,ha⟩
theorem QzQ : ∀ (m : Nat) (c : l1Cur) (a : House),m ≤ 1000 → okC c → Qg a → ∃ c' x,run Z3 (c,a,(m : Int)) = some (c',x) ∧ okC c' ∧ Qg x:=by
 intro m
 induction m with
 | zero =>
  intro c a hm hc ha
  exact ⟨c,a,by rw [Qn]; simp only [Z3,show decide ((0 : Int) < ((0 : Nat) : Int)) = false from rfl,cond_false,Option.bind_some],hc,ha⟩
 | succ m ih =>
  intro c a hm hc ha
  obtain ⟨c1,x1,e1,k1,_⟩:=Qw c 5 hc
  obtain ⟨c2,x2,e2,k2,_⟩:=Qw c1 8 k1
  obtain ⟨c3,x3,e3,k3,_⟩:=Qw c2 6 k2
  obtain ⟨c4,x4,e4,k4,_⟩:=Qw c3 3 k3
  obtain ⟨r5,e5,_,s5⟩:=Qod a (w64 (1 + x1)) (w64 (1 + x3)) (w64 (2 * (w64 (1 + x4)))) ha
  obtain ⟨c6,x6,e6,k6,_⟩:=QdE c2 [1,24,100,2160,4320] k2 (by simp)
  obtain ⟨r7,e7,_,s7⟩:=Qqo a x6 ha
  obtain ⟨c8,x8,e8,k8,_⟩:=Qw c2 3 k2
  obtain ⟨r9,e9,_,s9⟩:=QoN a (w64 (2 * (w64 (1 + x8)))) ha
  obtain ⟨x10,e10⟩:=Qnh a (w64 (1 + x1)) ha
  obtain ⟨c11,x11,e11,k11⟩:=Qex c2 5 k2
  obtain ⟨c12,x12,e12,k12,_⟩:=Qw c11 9 k11
  obtain ⟨r13,e13,_,s13⟩:=QiM a (w64 (1 + x1)) x12 ha
  obtain ⟨r14,e14,_,s14⟩:=QiM a (w64 (1 + x1)) x10 ha
  have ew : w64 (((m + 1 : Nat) : Int) - 1) = (m : Int):=by rw [Vz] <;> omega
  rw [Qn]
  simp only [Z3,decide_eq_true (show (0 : Int) < ((m + 1 : Nat) : Int) by omega),e1,e2,e3,e4,e5,e6,e7,e8,e9,e10,e11,e12,e13,e14,ew,cond_true,Option.bind_some]
  cases decide (x2 = 0) with
  | true=>exact ih _ _ (by omega) k4 s5
  | false =>
  cases decide (x2 = 1) with
  | true=>exact ih _ _ (by omega) k4 s5
  | false =>
  cases decide (x2 = 2) with
  | true=>exact ih _ _ (by omega) k6 s7
  | false =>
  cases decide (x2 = 3) with
  | true=>exact ih _ _ (by omega) k8 s9
  | false =>
  cases x11 with
  | true=>exact ih _ _ (by omega) k12 s13
  | false=>exact ih _ _ (by omega) k11 s14
theorem QcZ (c : l1Cur) (h : okC c) : ∃ c' a,X3 c = some (c',a) ∧ okC c' ∧ Qg a:=by
 obtain ⟨c1,x1,e1,k1,l1,u1⟩:=Qw c 3 h
 have u1:=u1 (by omega)
 obtain ⟨c2,l,e2,k2,hg⟩:=QsZ c1 k1
 have hl:=hg.1
 have ew : w64 (1 + x1) = 1 + x1:=Vz (by omega) (by omega)
 obtain ⟨c3,x3,e3,k3,s3⟩:=QyE c2 k2 3 c2 ⟨1 + x1,[],[],l,[],[],[],[],20⟩ 1 k2 ⟨by simp,⟨by simp,by simp⟩,by simp only; omega,by simp,by simp,by simp,by simp⟩ (by omega) (by omega)
 obtain ⟨c4,x4,e4,k4,l4,u4⟩:=Qw c3 9 k3
 have u4:=u4 (by omega)
 obtain ⟨k,rfl⟩ : ∃ k : Nat,x4 = (k : Int):=⟨x4.toNat,by omega⟩
 obtain ⟨c5,x5,e5,k5,s5⟩:=QzQ k c4 x3 (by omega) k4 s3
 refine ⟨c5,x5,?_,k5,s5⟩
 unfold X3
 simp only [e1,e2,ew,QvY (1 + x1) l (by omega) (by omega) hg,e3,e4,e5,Option.bind_some]
end Go.Proofs.YtncpklppoancgaaGreat
namespace Go.Proofs.YtncpklppoancgaaGreat
open Go
set_option linter.unusedVariables false
set_option linter.unusedSimpArgs false
theorem QzZ (a : List Find) (hm : a.length ≤ 1048576) : Qah a a = some true:=by
 have q : ∀ x : Find,QlO x x = true:=fun x=>by simp [QlO]
 have h:=Xr (step:=Xl a a (ln a)) (fun i=>(i : Int)) (r:=.brk ()) a.length (fun i hi=>by simp only [Xl,QG hi,Qj hi,QF hi,q,Bool.not_true,Q0 (show (i : Int) < 9223372036854775807 by omega),cond_true,cond_false,Qc]) (by simp only [Xl,QS (Nat.le_refl _),cond_false])
 unfold Qah
 rw [show run (Xl a a (ln a)) 0 = some (.brk ()) from h,decide_eq_true rfl]; rfl
theorem Qzr (a : List Mark) (hm : a.length ≤ 1048576) : Qao a a = some true:=by
 have q : ∀ x : Mark,QlL x x = true:=fun x=>by simp [QlL]
 have h:=Xr (step:=Xk a a (ln a)) (fun i=>(i : Int)) (r:=.brk ()) a.length (fun i hi=>by simp only [Xk,QG hi,Qj hi,QF hi,q,Bool.not_true,Q0 (show (i : Int) < 9223372036854775807 by omega),cond_true,cond_false,Qc]) (by simp only [Xk,QS (Nat.le_refl _),cond_false])
 unfold Qao
 rw [show run (Xk a a (ln a)) 0 = some (.brk ()) from h,decide_eq_true rfl]; rfl
theorem Qxu (a : List Slot) (hm : a.length ≤ 1048576) : Qab a a = some true:=by
 have q : ∀ x : Slot,QlY x x = true:=fun x=>by simp [QlY]
 have h:=Xr (step:=Xi a a (ln a)) (fun i=>(i : Int)) (r:=.brk ()) a.length (fun i hi=>by simp only [Xi,QG hi,Qj hi,QF hi,q,Bool.not_true,Q0 (show (i : Int) < 9223372036854775807 by omega),cond_true,cond_false,Qc]) (by simp only [Xi,QS (Nat.le_refl _),cond_false])
 unfold Qab
 rw [show run (Xi a a (ln a)) 0 = some (.brk ()) from h,decide_eq_true rfl]; rfl
theorem Qwr (a : List Claim) (hm : a.length ≤ 1048576) : ZI a a = some true:=by
 have q : ∀ x : Claim,Qji x x = true:=fun x=>by simp [Qji]
 have h:=Xr (step:=Xa a a (ln a)) (fun i=>(i : Int)) (r:=.brk ()) a.length (fun i hi=>by simp only [Xa,QG hi,Qj hi,QF hi,q,Bool.not_true,Q0 (show (i : Int) < 9223372036854775807 by omega),cond_true,cond_false,Qc]) (by simp only [Xa,QS (Nat.le_refl _),cond_false])
 unfold ZI
 rw [show run (Xa a a (ln a)) 0 = some (.brk ()) from h,decide_eq_true rfl]; rfl
theorem Qv6 (a : List Trial) (hm : a.length ≤ 1048576) : ZL a a = some true:=by
 have q : ∀ x : Trial,Qjr x x = true:=fun x=>by simp [Qjr]
 have h:=Xr (step:=Xc a a (ln a)) (fun i=>(i : Int)) (r:=.brk ()) a.length (fun i hi=>by simp only [Xc,QG hi,Qj hi,QF hi,q,Bool.not_true,Q0 (show (i : Int) < 9223372036854775807 by omega),cond_true,cond_false,Qc]) (by simp only [Xc,QS (Nat.le_refl _),cond_false])
 unfold ZL
 rw [show run (Xc a a (ln a)) 0 = some (.brk ()) from h,decide_eq_true rfl]; rfl
theorem Qx6 (a : List Hand) (hm : a.length ≤ 1048576) : Qag a a = some true:=by
 have q : ∀ x : Hand,QlJ x x = true:=fun x=>by simp [QlJ]
 have h:=Xr (step:=Xj a a (ln a)) (fun i=>(i : Int)) (r:=.brk ()) a.length (fun i hi=>by simp only [Xj,QG hi,Qj hi,QF hi,q,Bool.not_true,Q0 (show (i : Int) < 9223372036854775807 by omega),cond_true,cond_false,Qc]) (by simp only [Xj,QS (Nat.le_refl _),cond_false])
 unfold Qag
 rw [show run (Xj a a (ln a)) 0 = some (.brk ()) from h,decide_eq_true rfl]; rfl
theorem Qv5 (a : List Entry) (hm : a.length ≤ 1048576) : ZJ a a = some true:=by
 have q : ∀ x : Entry,Qi5 x x = true:=fun x=>by simp [Qi5]
 have h:=Xr (step:=Xb a a (ln a)) (fun i=>(i : Int)) (r:=.brk ()) a.length (fun i hi=>by simp only [Xb,QG hi,Qj hi,QF hi,q,Bool.not_true,Q0 (show (i : Int) < 9223372036854775807 by omega),cond_true,cond_false,Qc]) (by simp only [Xb,QS (Nat.le_refl _),cond_false])
 unfold ZJ
 rw [show run (Xb a a (ln a)) 0 = some (.brk ()) from h,decide_eq_true rfl]; rfl
theorem Qrq (a : List Secret) (hm : smL Qdf a) : Qam a a = some true:=by
 have q : ∀ x ∈ a,Zd x x = some true:=fun x hx=>by
  unfold Zd
  rw [Qzr x.Marks (hm.2 x hx),decide_eq_true rfl,decide_eq_true rfl]; rfl
 have hl:=hm.1
 have h:=Xr (step:=QA a a (ln a)) (fun i=>(i : Int)) (r:=.brk ()) a.length (fun i hi=>by simp only [QA,QG hi,Qj hi,QF hi,q _ (List.getElem_mem hi),Bool.not_true,Option.bind_some,Q0 (show (i : Int) < 9223372036854775807 by omega),cond_true,cond_false,Qc]) (by simp only [QA,QS (Nat.le_refl _),cond_false])
 unfold Qam Vn
 rw [show run (QA a a (ln a)) 0 = some (.brk ()) from h,decide_eq_true rfl]; rfl
theorem QwC (h : House) (hm : Qg h) : Q9 h h = some true:=by
 obtain ⟨m1,m2,m3,m4,m5,m6,m7⟩:=hm
 unfold Q9
 rw [QzZ _ m1,Qrq _ m2,Qxu _ m3,Qwr _ m4,Qv6 _ m5,Qx6 _ m6,Qv5 _ m7,decide_eq_true rfl,decide_eq_true rfl]; rfl
end Go.Proofs.YtncpklppoancgaaGreat
namespace Go.Proofs.YtncpklppoancgaaGreat
open Go
set_option linter.unusedVariables false
set_option linter.unusedSimpArgs false
theorem QDY (x y : Int) : w64 (w64 x + y) = w64 (x + y):=by unfold w64; omega
theorem QHc (x y : Int) : w64 (w64 x - w64 y) = w64 (x - y):=by unfold w64; omega
def Qcv (l : List Entry) (a : Int) : Int:=(l.map fun x=>if x.To = a then x.Cents else 0).sum
def Jm (l : List Entry) (a : Int) : Int:=(l.map fun x=>if x.From = a then x.Cents else 0).sum
theorem QsE (l : List Entry) (a : Int) (i : Nat) (h : i < l.length) : Qcv (l.take (i + 1)) a = Qcv (l.take i) a + (if l[i].To = a then l[i].Cents else 0):=by
 unfold Qcv; rw [List.take_succ_eq_append_getElem h,List.map_append,List.sum_append]; rw [List.map_cons,List.map_nil,List.sum_cons,List.sum_nil,Int.add_zero]
theorem QpG (l : List Entry) (a : Int) (i : Nat) (h : i < l.length) : Jm (l.take (i + 1)) a = Jm (l.take i) a + (if l[i].From = a then l[i].Cents else 0):=by
 unfold Jm; rw [List.take_succ_eq_append_getElem h,List.map_append,List.sum_append]; rw [List.map_cons,List.map_nil,List.sum_cons,List.sum_nil,Int.add_zero]
theorem QoQ {β : Type} {step : Int → Option (Int ⊕ (Fl β Unit))} {n : Nat} (h1 : ∀ i : Nat,i < n → ∀ o,step (i : Int) = some (.inl o) → o = ((i + 1 : Nat) : Int)) (h2 : ∀ i : Nat,i < n → step (i : Int) ≠ some (.inr (.brk ()))) (h : run step 0 = some (.brk ())) : ∀ i : Nat,i < n → step (i : Int) = some (.inl ((i + 1 : Nat) : Int)):=by
 have key : ∀ (m i : Nat),i + m = n → run step (i : Int) = some (.brk ()) → ∀ j,i ≤ j → j < n → step (j : Int) = some (.inl ((j + 1 : Nat) : Int)):=by
  intro m
  induction m with
  | zero=>intro i hi _ j h3 h4; omega
  | succ m ih =>
   intro i hi hr j h3 h4
   rw [Qn] at hr
   obtain ⟨o,ho,hr⟩:=Option.bind_eq_some_iff.1 hr
   cases o with
   | inl s =>
    have:=h1 i (by omega) s ho
    subst this
    by_cases hij : j = i
    ·subst hij; exact ho
    ·exact ih (i + 1) (by omega) hr j (by omega) h4
   | inr r =>
    injection hr with hr
    subst hr
    exact absurd ho (h2 i (by omega))
 exact fun i hi=>key n 0 (by omega) h i (by omega) hi
theorem QBL {x : Option (Fl Bool Unit)} {q : Bool} (h : x.bind (evO (fun r=>some r) fun _=>some q) = some true) (hx : ∀ r,x = some (.ret r) → r = false) : x = some (.brk ()):=by
 obtain ⟨o,ho,h⟩:=Option.bind_eq_some_iff.1 h
 cases o with
 | ret r =>
  have:=hx r ho
  subst this
  cases h
 | brk u=>exact ho
theorem QnD (l : List Entry) (hl : l.length ≤ 1048576) (h : VY l = some true) : ∀ x ∈ l,1 ≤ x.Cents ∧ x.Cents ≤ 10000000:=by
 have cases3 : ∀ i : Nat,i < l.length → Vg l (i : Int) = some (.inr (.ret false)) ∨ (Vg l (i : Int) = some (.inl ((i + 1 : Nat) : Int)) ∧ ∀ hi : i < l.length,1 ≤ l[i].Cents ∧ l[i].Cents ≤ 10000000):=fun i hi=>by
  have hw:=Q0 (show (i : Int) < 9223372036854775807 by omega)
  simp only [Vg,Qf,QG hi,Qj hi,QF hi,cond_true,Qc,Option.bind_some,hw]
  by_cases hc : 1 ≤ l[i].Cents ∧ l[i].Cents ≤ 10000000
  ·have hp : (bif decide (0 < (i : Int)) then nd (inb l (w64 ((i : Int) - 1))) <| some (decide (l[i].At < (gt l (w64 ((i : Int) - 1))).At)) else some false) = some true ∨ (bif decide (0 < (i : Int)) then nd (inb l (w64 ((i : Int) - 1))) <| some (decide (l[i].At < (gt l (w64 ((i : Int) - 1))).At)) else some false) = some false:=by
    by_cases h0 : 0 < i
    ·rw [decide_eq_true (show (0 : Int) < (i : Int) by omega),ZM h0 (by omega),Qj (show i - 1 < l.length by omega)]
     cases decide (l[i].At < (gt l ((i - 1 : Nat) : Int)).At) <;> first | exact .inl rfl | exact .inr rfl
    ·rw [decide_eq_false (show ¬ (0 : Int) < (i : Int) by omega)]; exact .inr rfl
   rcases hp with hp | hp <;> rw [hp] <;>
    cases (decide (0 ≤ l[i].From) && decide (l[i].From ≤ 999)) <;> cases (decide (0 ≤ l[i].To) && decide (l[i].To ≤ 999)) <;> cases decide (l[i].From = l[i].To) <;> cases (decide (1 ≤ l[i].Cents) && decide (l[i].Cents ≤ 10000000)) <;> cases (decide (0 ≤ l[i].At) && decide (l[i].At ≤ 100000)) <;> first | exact .inl rfl | exact .inr ⟨rfl,fun _=>hc⟩
  ·rw [show (decide (1 ≤ l[i].Cents) && decide (l[i].Cents ≤ 10000000)) = false by rw [Bool.eq_false_iff]; simpa using fun h=>by omega]
   left
   cases (decide (0 ≤ l[i].From) && decide (l[i].From ≤ 999)) <;> cases (decide (0 ≤ l[i].To) && decide (l[i].To ≤ 999)) <;> cases decide (l[i].From = l[i].To) <;> rfl
 unfold VY at h
 have hb:=QBL h fun r hr=>by
  obtain ⟨q,hq⟩ : ∃ q,r = q:=⟨r,rfl⟩
  exact Qsh (step:=Vg l) (fun s=>0 ≤ s ∧ s ≤ (l.length : Int)) (fun o=>∀ r,o = .ret r → r = false)
   (fun s s' hs e=>by
    obtain ⟨k,rfl⟩ : ∃ k : Nat,s = (k : Int):=⟨s.toNat,by omega⟩
    by_cases hk : k < l.length
    ·rcases cases3 k hk with h | ⟨h,_⟩
     ·rw [h] at e; cases e
     ·rw [h] at e; injection e with e; injection e with e; omega
    ·simp only [Vg,QS (show l.length ≤ k by omega),cond_false] at e; cases e)
   (fun s o hs e=>by
    obtain ⟨k,rfl⟩ : ∃ k : Nat,s = (k : Int):=⟨s.toNat,by omega⟩
    by_cases hk : k < l.length
    ·rcases cases3 k hk with h | ⟨h,_⟩
     ·rw [h] at e; injection e with e; injection e with e; subst e; intro r hr; injection hr with hr; exact hr.symm
     ·rw [h] at e; cases e
    ·simp only [Vg,QS (show l.length ≤ k by omega),cond_false] at e
     injection e with e; injection e with e; subst e; intro r hr; cases hr)
   (s:=0) ⟨by omega,by omega⟩ hr r rfl
 have hall:=QoQ (n:=l.length) (fun i hi o ho=>by
   rcases cases3 i hi with h | ⟨h,_⟩
   ·rw [h] at ho; cases ho
   ·rw [h] at ho; injection ho with ho; injection ho with ho; exact ho.symm)
  (fun i hi ho=>by
   rcases cases3 i hi with h | ⟨h,_⟩
   ·rw [h] at ho; cases ho
   ·rw [h] at ho; cases ho) hb
 intro x hx
 obtain ⟨k,hk,rfl⟩:=List.getElem_of_mem hx
 rcases cases3 k hk with h | ⟨_,h⟩
 ·rw [hall k hk] at h; cases h
 ·exact h hk
theorem Qt6 (a : Int) : ∀ (l : List Entry),(∀ x ∈ l,1 ≤ x.Cents ∧ x.Cents ≤ 10000000) → (0 ≤ Qcv l a ∧ Qcv l a ≤ 10000000 * (l.length : Int)) ∧ 0 ≤ Jm l a ∧ Jm l a ≤ 10000000 * (l.length : Int)
 | [],_=>by simp [Qcv,Jm]
 | x :: l,h=>by
  obtain ⟨⟨h1,h2⟩,h3,h4⟩:=Qt6 a l fun y hy=>h y (by simp [hy])
  have hx:=h x (by simp)
  unfold Qcv Jm at *
  simp only [List.map_cons,List.sum_cons,List.length_cons]
  refine ⟨⟨?_,?_⟩,?_,?_⟩ <;> split <;> omega
theorem Qom (l t : List Entry) (a : Int) : Qcv (l ++ t) a = Qcv l a + Qcv t a:=by unfold Qcv; rw [List.map_append,List.sum_append]
theorem Qk4 (l t : List Entry) (a : Int) : Jm (l ++ t) a = Jm l a + Jm t a:=by unfold Jm; rw [List.map_append,List.sum_append]
theorem Qsg (l : List Entry) (a : Int) (hl : l.length ≤ 1048576) (hv : VY l = some true) : Zf l a = some (Qcv l a - Jm l a):=by
 obtain ⟨b,e1,e2,e3⟩:=Qig l hl
 rw [hv] at e1
 injection e1 with e1
 subst e1
 have hn:=(e3 rfl).1
 obtain ⟨⟨b1,b2⟩,b3,b4⟩:=Qt6 a l (QnD l hl hv)
 have key : Zf l a = some (w64 (Qcv l a - Jm l a)):=by
  unfold Zf Qes Qdj
  have h1 : run (J3 a l (ln l)) (0,0) = some (w64 (Qcv l a)):=by
   have:=Xr (step:=J3 a l (ln l)) (fun i=>(w64 (Qcv (l.take i) a),(i : Int))) (r:=w64 (Qcv l a)) l.length (fun i hi=>by
     simp only [J3,QG hi,Qj hi,QF hi,cond_true,Qc,Q0 (show (i : Int) < 9223372036854775807 by omega),QsE l a i hi]
     by_cases h1 : l[i].To = a
     ·rw [decide_eq_true h1,if_pos h1,cond_true,QDY]
     ·rw [decide_eq_false h1,if_neg h1,cond_false,Int.add_zero])
    (by simp only [J3,QS (Nat.le_refl _),cond_false,List.take_length])
   simpa [Qcv,w64] using this
  have h2 : run (X6 a l (ln l)) (0,0) = some (w64 (Jm l a)):=by
   have:=Xr (step:=X6 a l (ln l)) (fun i=>(w64 (Jm (l.take i) a),(i : Int))) (r:=w64 (Jm l a)) l.length (fun i hi=>by
     simp only [X6,QG hi,Qj hi,QF hi,cond_true,Qc,Q0 (show (i : Int) < 9223372036854775807 by omega),QpG l a i hi]
     by_cases h1 : l[i].From = a
     ·rw [decide_eq_true h1,if_pos h1,cond_true,QDY]
     ·rw [decide_eq_false h1,if_neg h1,cond_false,Int.add_zero])
    (by simp only [X6,QS (Nat.le_refl _),cond_false,List.take_length])
   simpa [Jm,w64] using this
  simp only [e2,h1,h2,Option.bind_some,Bool.not_true,cond_false,QHc]
 rw [key,Vz (by omega) (by omega)]
end Go.Proofs.YtncpklppoancgaaGreat
namespace Go.Proofs.YtncpklppoancgaaGreat
open Go
set_option linter.unusedVariables false
set_option linter.unusedSimpArgs false
def Dd (p : House → Prop) (x : Option (House × Bool)) : Prop:=∀ r,x = some r → r.2 = true → p r.1
theorem Dd.bind {A : Type} {p : House → Prop} {o : Option A} {k : A → Option (House × Bool)} (h : ∀ y,o = some y → Dd p (k y)) : Dd p (o.bind k):=fun r hr hd=>by
 obtain ⟨y,hy,hk⟩:=Option.bind_eq_some_iff.1 hr
 exact h y hy r hk hd
theorem Dd.cond {p : House → Prop} {b : Bool} {x y : Option (House × Bool)} (hx : b = true → Dd p x) (hy : b = false → Dd p y) : Dd p (bif b then x else y):=by
 cases b with
 | true=>exact hx rfl
 | false=>exact hy rfl
theorem Dd.nd {p : House → Prop} {b : Bool} {x : Option (House × Bool)} (hx : b = true → Dd p x) : Dd p (nd b <| x):=by
 cases b with
 | true=>exact hx rfl
 | false=>intro r hr; cases hr
theorem Dd.none {p : House → Prop} : Dd p none:=fun r hr=>by cases hr
theorem Dd.no {p : House → Prop} {a : House} : Dd p (some (a,false)):=fun r hr hd=>by injection hr with hr; subst hr; cases hd
theorem Dd.done {p : House → Prop} {a o : House} {o2 : Bool} (h : o2 = true → p o) : Dd p ((Qp a o o2).bind fun r=>some (r.1,r.2)):=fun r hr hd=>by
 obtain ⟨y,hy,e⟩:=Option.bind_eq_some_iff.1 hr
 injection e with e; subst e
 unfold Qp at hy
 obtain ⟨b,hb,hy⟩:=Option.bind_eq_some_iff.1 hy
 cases b with
 | true =>
  simp only [cond_true] at hy
  obtain ⟨z,_,hy⟩:=Option.bind_eq_some_iff.1 hy
  injection hy with hy; subst hy; cases hd
 | false =>
  simp only [cond_false] at hy
  injection hy with hy; subst hy
  cases o2 with
  | true=>exact h rfl
  | false=>cases hb
theorem Dd.donF {p : House → Prop} {a o : House} : Dd p ((Qp a o false).bind fun r=>some (r.1,r.2)):=Dd.done fun h=>by cases h
theorem Qpx (l : List Slot) (hl : l.length ≤ 1048576) (hv : V7 l = some true) : ∀ i (hi : i < l.length),l[i].Thing ≠ 0 → ∀ j (hj : j < i),(l[j]'(by omega)).Thing ≠ l[i].Thing:=by
 have cases3 : ∀ (i : Nat) (hi : i < l.length),QI l (i : Int) = some (.inr (.ret false)) ∨ (QI l (i : Int) = some (.inl ((i + 1 : Nat) : Int)) ∧ (!decide (l[i].Thing = 0) && (l.take i).any (fun x=>decide (x.Thing = l[i].Thing))) = false):=fun i hi=>by
  have hw:=Q0 (show (i : Int) < 9223372036854775807 by omega)
  simp only [QI,Qf,QG hi,Qj hi,QF hi,cond_true,Qc,Option.bind_some,hw,QdM l i hi hl]
  generalize (!decide (l[i].Thing = 0) && (l.take i).any (fun x=>decide (x.Thing = l[i].Thing))) = q
  have hp : (bif decide (0 < (i : Int)) then nd (inb l (w64 ((i : Int) - 1))) <| some (decide (l[i].Id ≤ (gt l (w64 ((i : Int) - 1))).Id)) else some false) = some true ∨ (bif decide (0 < (i : Int)) then nd (inb l (w64 ((i : Int) - 1))) <| some (decide (l[i].Id ≤ (gt l (w64 ((i : Int) - 1))).Id)) else some false) = some false:=by
   by_cases h0 : 0 < i
   ·rw [decide_eq_true (show (0 : Int) < (i : Int) by omega),ZM h0 (by omega),Qj (show i - 1 < l.length by omega)]
    cases decide (l[i].Id ≤ (gt l ((i - 1 : Nat) : Int)).Id) <;> first | exact .inl rfl | exact .inr rfl
   ·rw [decide_eq_false (show ¬ (0 : Int) < (i : Int) by omega)]; exact .inr rfl
  rcases hp with hp | hp <;> rw [hp] <;>
   cases (decide (1 ≤ l[i].Id) && decide (l[i].Id ≤ 99)) <;> cases (decide (1 ≤ l[i].Size) && decide (l[i].Size ≤ 50)) <;> cases (decide (0 ≤ l[i].Thing) && decide (l[i].Thing ≤ 999)) <;> cases q <;> first | exact .inl rfl | exact .inr ⟨rfl,rfl⟩
 unfold V7 at hv
 obtain ⟨o,ho,hv⟩:=Option.bind_eq_some_iff.1 hv
 have hb : run (QI l) 0 = some (.brk ()):=by
  cases o with
  | brk u=>exact ho
  | ret r =>
   exfalso
   have:=Qsh (step:=QI l) (fun s=>0 ≤ s ∧ s ≤ (l.length : Int)) (fun o=>∀ r,o = .ret r → r = false)
    (fun s s' hs e=>by
     obtain ⟨k,rfl⟩ : ∃ k : Nat,s = (k : Int):=⟨s.toNat,by omega⟩
     by_cases hk : k < l.length
     ·rcases cases3 k hk with h | ⟨h,_⟩
      ·rw [h] at e; cases e
      ·rw [h] at e; injection e with e; injection e with e; omega
     ·simp only [QI,QS (show l.length ≤ k by omega),cond_false] at e; cases e)
    (fun s o hs e=>by
     obtain ⟨k,rfl⟩ : ∃ k : Nat,s = (k : Int):=⟨s.toNat,by omega⟩
     by_cases hk : k < l.length
     ·rcases cases3 k hk with h | ⟨h,_⟩
      ·rw [h] at e; injection e with e; injection e with e; subst e; intro r hr; injection hr with hr; exact hr.symm
      ·rw [h] at e; cases e
     ·simp only [QI,QS (show l.length ≤ k by omega),cond_false] at e
      injection e with e; injection e with e; subst e; intro r hr; cases hr)
    (s:=0) ⟨by omega,by omega⟩ ho r rfl
   subst this
   cases hv
 have hall:=QoQ (n:=l.length) (fun i hi o ho=>by
   rcases cases3 i hi with h | ⟨h,_⟩
   ·rw [h] at ho; cases ho
   ·rw [h] at ho; injection ho with ho; injection ho with ho; exact ho.symm)
  (fun i hi ho=>by
   rcases cases3 i hi with h | ⟨h,_⟩
   ·rw [h] at ho; cases ho
   ·rw [h] at ho; cases ho) hb
 intro i hi hne j hj he
 rcases cases3 i hi with h | ⟨_,h⟩
 ·rw [hall i hi] at h; cases h
 ·rw [decide_eq_false hne] at h
  simp only [Bool.not_false,Bool.true_and,List.any_eq_false,decide_eq_true_eq] at h
  exact h (l[j]'(by omega)) (List.mem_iff_getElem.2 ⟨j,by rw [List.length_take]; omega,by rw [List.getElem_take]⟩) he
theorem Qv9 (l : List Slot) (t : Int) (hl : l.length ≤ 1048576) {r : List Slot × Bool} (hr : Z9 l t = some r) (hd : r.2 = true) : ∀ y ∈ r.1,y.Thing ≠ t:=by
 obtain ⟨q,q1,_,_,_,q5⟩:=Qrn l t hl
 rw [hr] at q1
 injection q1 with q1
 subst q1
 obtain ⟨h0,hv,k,hk,ht,hs⟩:=q5 hd
 have hu:=Qpx l hl hv
 rw [hs]
 intro y hy
 obtain ⟨i,hi,rfl⟩:=List.getElem_of_mem hy
 rw [List.length_set] at hi
 rw [List.getElem_set]
 split
 ·exact fun h=>h0 h.symm
 ·intro h
  by_cases hik : i < k
  ·exact hu k hk (by rw [ht]; exact h0) i hik (by rw [ht]; exact h)
  ·exact hu i hi (by rw [h]; exact h0) k (by omega) (by rw [ht]; exact h.symm)
theorem Qsx (l : List Hand) (x : Hand) {r : List Hand × Bool} (hr : Qaa l x = some r) (hd : r.2 = true) : ∃ s,r.1 = l ++ [⟨x.Thing,x.Holder,x.Who,x.At,s⟩]:=by
 unfold Qaa at hr
 have key : ∀ s,((nd (rm (0 + l.length) 40) <| nd (rm (l.length + 1) 40) <| (VU (l ++ [(⟨x.Thing,x.Holder,x.Who,x.At,s⟩ : Hand)])).bind fun r2=>(bif (!r2) then nd (rm (0 + l.length) 40) <| some (l,false) else some (l ++ [(⟨x.Thing,x.Holder,x.Who,x.At,s⟩ : Hand)],true))) : Option (List Hand × Bool)) = some r → ∃ s,r.1 = l ++ [⟨x.Thing,x.Holder,x.Who,x.At,s⟩]:=fun s h=>by
  obtain ⟨_,h⟩:=Jc h
  obtain ⟨_,h⟩:=Jc h
  obtain ⟨b,_,h⟩:=Option.bind_eq_some_iff.1 h
  cases b with
  | false=>obtain ⟨_,h⟩:=Jc (show (nd (rm (0 + l.length) 40) <| some (l,false)) = some r from h); injection h with h; subst h; cases hd
  | true=>exact ⟨s,by injection h with h; rw [← h]⟩
 cases h0 : decide (0 < ln l) with
 | true =>
  rw [h0] at hr
  obtain ⟨_,hr⟩:=Jc (show (nd (inb l (w64 ((ln l) - 1))) <| _) = some r from hr)
  obtain ⟨s,_,hr⟩:=Option.bind_eq_some_iff.1 hr
  exact key s hr
 | false =>
  rw [h0] at hr
  obtain ⟨s,_,hr⟩:=Option.bind_eq_some_iff.1 (show ((JA 0 x).bind fun _=>_) = some r from hr)
  exact key s hr
def Out (a : House) (t hd : Int) (o : House) : Prop:=(∀ y ∈ o.Slots,y.Thing ≠ t) ∧ ∃ w s,o.Chain = a.Chain ++ [⟨t,hd,w,a.Now,s⟩]
theorem QyV (a : House) (t hd w : Int) (hm : Qg a) {g : House × Bool} (hg : JH a t hd w = some g) : (g.2 = true → Out a t hd g.1) ∧ g.1.Book = a.Book ∧ g.1.Now = a.Now:=by
 unfold JH at hg
 rw [Jl a hm] at hg
 obtain ⟨r2,h2,hg⟩:=Option.bind_eq_some_iff.1 (show ((Z9 a.Slots t).bind fun _=>_) = some g from hg)
 obtain ⟨r3,h3,hg⟩:=Option.bind_eq_some_iff.1 hg
 cases hb : r2.2 with
 | true =>
  rw [hb] at hg
  simp only [cond_true] at hg
  injection hg with hg
  subst hg
  refine ⟨fun h=>⟨Qv9 a.Slots t hm.2.2.1 h2 hb,w,Qsx a.Chain _ h3 h⟩,rfl,rfl⟩
 | false =>
  rw [hb] at hg
  simp only [cond_false] at hg
  injection hg with hg
  subst hg
  exact ⟨fun h=>(by cases h),rfl,rfl⟩
theorem QFV (a : House) (f t c : Int) {r : House × Bool} (hr : JN a f t c = some r) : r.1.Slots = a.Slots ∧ r.1.Chain = a.Chain ∧ r.1.Finds = a.Finds ∧ r.1.Now = a.Now ∧ (r.2 = true → r.1.Book = a.Book ++ (if c = 0 then [] else [⟨f,t,c,a.Now⟩])):=by
 unfold JN at hr
 by_cases h0 : c = 0
 ·rw [decide_eq_true h0] at hr
  injection hr with hr
  subst hr
  exact ⟨rfl,rfl,rfl,rfl,fun _=>by rw [if_pos h0,List.append_nil]⟩
 ·rw [decide_eq_false h0] at hr
  obtain ⟨q,hq,hr⟩:=Option.bind_eq_some_iff.1 (show ((Zn a.Book (⟨f,t,c,a.Now⟩ : Entry)).bind fun _=>_) = some r from hr)
  injection hr with hr
  subst hr
  refine ⟨rfl,rfl,rfl,rfl,fun hd=>?_⟩
  rw [if_neg h0]
  unfold Zn at hq
  obtain ⟨_,hq⟩:=Jc hq
  obtain ⟨_,hq⟩:=Jc hq
  obtain ⟨b,_,hq⟩:=Option.bind_eq_some_iff.1 hq
  cases b with
  | false=>obtain ⟨_,h⟩:=Jc (show (nd (rm (0 + a.Book.length) 32) <| some (a.Book,false)) = some q from hq); injection h with h; subst h; cases hd
  | true=>injection hq with hq; rw [← hq]
theorem QPY (a : House) (f : Find) (m : List Mark) (s : Int) (hm : Qg a) : Dd (fun o=>f ∈ o.Finds ∧ 1 ≤ f.Thing.Id ∧ ∃ y ∈ o.Slots,y.Thing = f.Thing.Id) (Jy a f m s):=by
 unfold Jy
 refine Dd.bind fun r hr=>Dd.bind fun r2 h2=>Dd.bind fun r3 h3=>Dd.bind fun r4 h4=>Dd.bind fun r5 h5=>Dd.cond (fun b2=>Dd.cond (fun b3=>Dd.cond (fun b4=>Dd.done fun b5=>?_) fun _=>Dd.donF) fun _=>Dd.donF) fun _=>Dd.donF
 refine ⟨?_,?_⟩
 ·show f ∈ r2.1
  unfold Qbb at h2
  obtain ⟨k,_,h2⟩:=Option.bind_eq_some_iff.1 h2
  obtain ⟨_,h2⟩:=Jc h2
  obtain ⟨_,h2⟩:=Jc h2
  obtain ⟨_,h2⟩:=Jc h2
  obtain ⟨_,h2⟩:=Jc h2
  obtain ⟨_,h2⟩:=Jc h2
  obtain ⟨b,_,h2⟩:=Option.bind_eq_some_iff.1 h2
  cases b with
  | false=>obtain ⟨_,h⟩:=Jc (show (nd (rm (0 + a.Finds.length) 64) <| some (a.Finds,false)) = some r2 from h2); injection h with h; subst h; cases b2
  | true=>injection h2 with h2; rw [← h2]; simp
 ·obtain ⟨q,q1,_,_,q4⟩:=Qqz a.Slots f.Thing hm.2.2.1
  rw [h4] at q1
  injection q1 with q1
  subst q1
  exact q4 b4
theorem QIf (a : House) (x y z : Int) (hm : Qg a) : Dd (fun o=>o.Claims.length = a.Claims.length + 1) (Xh a x y z):=by
 unfold Xh
 refine Dd.bind fun r hr=>Dd.bind fun r2 h2=>Dd.bind fun b _=>Dd.nd fun _=>Dd.nd fun _=>Dd.nd fun _=>Dd.nd fun _=>Dd.nd fun _=>Dd.cond (fun b2=>Dd.bind fun r3 _=>Dd.done fun _=>?_) fun _=>Dd.donF
 show r2.1.length = _
 unfold Qar at h2
 obtain ⟨k,_,h2⟩:=Option.bind_eq_some_iff.1 h2
 obtain ⟨s1,h2⟩:=Jc h2
 obtain ⟨s2,h2⟩:=Jc h2
 obtain ⟨_,h2⟩:=Jc h2
 obtain ⟨_,h2⟩:=Jc h2
 obtain ⟨_,h2⟩:=Jc h2
 obtain ⟨b,_,h2⟩:=Option.bind_eq_some_iff.1 h2
 cases b with
 | true=>obtain ⟨_,h⟩:=Jc (show (nd (rm (0 + a.Claims.length) 40) <| some (a.Claims,false)) = some r2 from h2); injection h with h; subst h; cases b2
 | false =>
  injection h2 with h2
  rw [← h2]
  unfold slB at s1
  rw [Vw] at s1
  simp only [Bool.and_eq_true,decide_eq_true_eq] at s1
  simp only [cut,Vw,List.length_append,List.length_cons,List.length_nil,List.length_take,List.length_drop]
  omega
theorem QGe (a : House) (t : Int) (hm : Qg a) : Dd (Out a t 3) (XC a t):=by
 unfold XC
 refine Dd.bind fun r hr=>Dd.bind fun r2 h2=>Dd.bind fun b _=>Dd.cond (fun _=>Dd.bind fun _ _=>Dd.no) fun _=>Dd.bind fun r5 _=>Dd.nd fun _=>Dd.bind fun g hg=>Dd.bind fun r7 _=>Dd.nd fun _=>Dd.bind fun r8 _=>Dd.bind fun r9 h9=>Dd.cond (fun b6=>Dd.cond (fun _=>Dd.done fun _=>?_) fun _=>Dd.donF) fun _=>Dd.donF
 obtain ⟨p1,p2,_⟩:=QFV _ _ _ _ h9
 have:=(QyV a t 3 _ hm hg).1 b6
 unfold Out
 rw [p1,p2]
 exact this
theorem QHi (a : House) (t : Int) (hm : Qg a) : Dd (fun o=>Out a t 3 o ∨ Out a t 5 o) (QaF a t):=by
 unfold QaF
 refine Dd.bind fun r hr=>Dd.bind fun b _=>Dd.cond (fun _=>Dd.bind fun _ _=>Dd.no) fun _=>Dd.nd fun _=>Dd.bind fun r4 _=>Dd.cond (fun _=>Dd.bind fun g hg=>Dd.done fun b6=>.inl ((QyV a t 3 _ hm hg).1 b6)) fun _=>Dd.cond (fun _=>Dd.cond (fun _=>Dd.bind fun g hg=>Dd.done fun b6=>.inr ((QyV a t 5 _ hm hg).1 b6)) fun _=>Dd.bind fun _ _=>Dd.no) fun _=>Dd.cond (fun _=>Dd.bind fun g hg=>Dd.done fun b6=>.inr ((QyV a t 5 _ hm hg).1 b6)) fun _=>Dd.bind fun _ _=>Dd.no
theorem QK4 (a : House) (n : Int) (hm : Qg a) : Dd (fun o=>o.Now = w64 (a.Now + n)) (XX a n):=by
 unfold XX
 simp only [Jl a hm,Option.bind_some]
 exact Dd.bind fun b _=>Dd.cond (fun _=>Dd.no) fun _=>Dd.done fun _=>rfl
end Go.Proofs.YtncpklppoancgaaGreat
