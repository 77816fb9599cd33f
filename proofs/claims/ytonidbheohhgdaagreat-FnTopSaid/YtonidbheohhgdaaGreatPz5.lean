import Derived.Test.YtonidbheohhgdaaGreatPz4
import Derived.Test.YtonidbheohhgdaaGreatFn
import Derived.Test.YtonidbheohhgdaaGreatPl
import Derived.Test.YtonidbheohhgdaaGreatFam
import Derived.Test.YtonidbheohhgdaaGreatPz2
import Derived.Test.YtonidbheohhgdaaGreatPz1
import Derived.Test.YtonidbheohhgdaaGreatPz3
namespace Go.Proofs.YtonidbheohhgdaaGreat
open Go
set_option linter.unusedVariables false
set_option linter.unusedSimpArgs false
theorem Qd.pair {a : House} {o : Option (House × Bool)} (h : Qd a o) : Qd a (o.bind fun r=>some (r.1,r.2)):=fun r hr=>by
 obtain ⟨y,hy,e⟩:=Option.bind_eq_some_iff.1 hr
 injection e with e; subst e
 exact h y hy
theorem Qpu (a : House) (e : Event) (hm : Qf a) : Qd a (JT a e):=by
 unfold JT
 simp only [V5 a hm,Option.bind_some]
 exact Qd.cond (QuZ a _ _ _ hm).pair (Qd.cond (Qrd a _ _ _ hm).pair (Qd.cond (Qp0 a _ _ hm).pair (Qd.cond (Qr3 a _ hm).pair (Qd.cond (Qvi a _ _ hm).pair (Qd.cond (Qsn a _ hm).pair (Qd.cond (QuC a _ hm).pair Qd.self))))))
end Go.Proofs.YtonidbheohhgdaaGreat
namespace Go.Proofs.YtonidbheohhgdaaGreat
open Go
set_option linter.unusedVariables false
set_option linter.unusedSimpArgs false
theorem Qm9 (a : Int) (m : Nat) (hm : m < 9223372036854775808) : ∃ x,QeQ .and .i64 a (m : Int) = x ∧ 0 ≤ x ∧ x ≤ (m : Int):=by
 refine ⟨_,rfl,?_⟩
 have e : ((m : Int) % 2 ^ IntKind.i64.bits).toNat = m:=by
  rw [show ((2 : Int) ^ IntKind.i64.bits) = 18446744073709551616 from rfl]; omega
 have h:=@Nat.and_le_right (a % 2 ^ IntKind.i64.bits).toNat m
 unfold QeQ
 simp only [e,Qy7]
 rw [Vj (by omega) (by omega)]
 omega
def okC (c : l1Cur) : Prop:=c.b.length ≤ 1048576 ∧ 0 ≤ c.i ∧ c.i ≤ c.b.length
theorem Qwh (l : List Int) (hl : l.length ≤ 1048576) : ∃ c,Qec l = some c ∧ okC c:=by
 have key : ∀ (m k : Nat) (a : Int),k + m = l.length → ∃ r,run (J5 l) (a,(k : Int)) = some r:=by
  intro m
  induction m with
  | zero =>
   intro k a hk
   have : k = l.length:=by omega
   subst this
   exact ⟨a,by rw [Qh]; simp only [J5,Qx (Nat.le_refl _),Bool.false_and,cond_false,Option.bind_some]⟩
  | succ m ih =>
   intro k a hk
   have hlt : k < l.length:=by omega
   cases h4 : decide ((k : Int) < 4000) with
   | false=>exact ⟨a,by rw [Qh]; simp only [J5,h4,Bool.and_false,cond_false,Option.bind_some]⟩
   | true =>
    obtain ⟨r,hr⟩:=ih (k + 1) (QeQ .and .i64 (w64 (w64 (w64 (a * 137) + w64 (gt l (k : Int))) + 11)) 1073741823) (by omega)
    exact ⟨r,by rw [Qh]; simp only [J5,Qt hlt,h4,Bool.and_self,Qe hlt,cond_true,Qa,QD (show (k : Int) < 9223372036854775807 by omega),Option.bind_some]; exact hr⟩
 obtain ⟨r,hr⟩:=key l.length 0 (w64 (193017 + ln l)) (by omega)
 refine ⟨⟨l,0,r⟩,?_,hl,Int.le_refl _,by simp only; omega⟩
 unfold Qec
 rw [show run (J5 l) (w64 (193017 + ln l),0) = some r from hr]; rfl
theorem QoX (a : Int) : 0 ≤ QeQ .and .i64 a 255 ∧ QeQ .and .i64 a 255 ≤ 255:=by
 obtain ⟨x,e,h0,h1⟩:=Qm9 a 255 (by omega)
 rw [show ((255 : Nat) : Int) = 255 from rfl] at e h1
 rw [e]; exact ⟨h0,h1⟩
theorem Qg6 (c : l1Cur) (h : okC c) : ∃ c' x,Qaq c = some (c',x) ∧ okC c' ∧ 0 ≤ x ∧ x ≤ 255:=by
 obtain ⟨h1,h2,h3⟩:=h
 unfold Qaq
 by_cases hi : c.i < ln c.b
 ·have hb : inb c.b c.i = true:=by rw [QcV]; rw [VA] at hi; omega
  rw [VA] at hi
  rw [decide_eq_true (show c.i < ln c.b from hi),hb]
  have e : w64 (c.i + 1) = c.i + 1:=Vj (by omega) (by omega)
  refine ⟨_,_,rfl,⟨h1,?_,?_⟩,(QoX _).1,(QoX _).2⟩
  ·show 0 ≤ w64 (c.i + 1)
   omega
  ·show w64 (c.i + 1) ≤ (c.b.length : Int)
   omega
 ·rw [decide_eq_false hi]
  exact ⟨_,_,rfl,⟨h1,h2,h3⟩,(QoX _).1,(QoX _).2⟩
theorem QtL {x n : Int} (hx : 0 ≤ x) (hn : 0 < n) : 0 ≤ x.tmod n ∧ x.tmod n < n:=⟨Int.tmod_nonneg _ hx,Int.tmod_lt_of_pos x hn⟩
theorem Q8 (c : l1Cur) (n : Int) (h : okC c) : ∃ c' x,Qv c n = some (c',x) ∧ okC c' ∧ 0 ≤ x ∧ (0 < n → x < n):=by
 unfold Qv
 by_cases h0 : n ≤ 0
 ·rw [decide_eq_true h0]; exact ⟨c,0,rfl,h,Int.le_refl _,fun hn=>by omega⟩
 ·have hz : (!decide (n = 0)) = true:=by simp; omega
  rw [decide_eq_false h0,hz]
  by_cases h1 : n ≤ 256
  ·rw [decide_eq_true h1]
   obtain ⟨c1,x1,e1,k1,l1,u1⟩:=Qg6 c h
   have:=QtL l1 (show 0 < n by omega)
   exact ⟨c1,x1.tmod n,by simp only [e1,cond_false,cond_true,Option.bind_some,Qa],k1,this.1,fun _=>this.2⟩
  ·rw [decide_eq_false h1]
   obtain ⟨c1,x1,e1,k1,l1,u1⟩:=Qg6 c h
   obtain ⟨c2,x2,e2,k2,l2,u2⟩:=Qg6 c1 k1
   obtain ⟨c3,x3,e3,k3,l3,u3⟩:=Qg6 c2 k2
   have e4 : w64 (w64 (w64 (x1 * 65536) + w64 (x2 * 256)) + x3) = x1 * 65536 + x2 * 256 + x3:=by
    rw [Vj (n:=x1 * 65536) (by omega) (by omega),Vj (n:=x2 * 256) (by omega) (by omega),Vj (n:=x1 * 65536 + x2 * 256) (by omega) (by omega),Vj (by omega) (by omega)]
   have:=QtL (show 0 ≤ x1 * 65536 + x2 * 256 + x3 by omega) (show 0 < n by omega)
   exact ⟨c3,(x1 * 65536 + x2 * 256 + x3).tmod n,by simp only [e1,e2,e3,e4,cond_false,Option.bind_some,Qa],k3,this.1,fun _=>this.2⟩
theorem Qgl (c : l1Cur) (l : List Int) (h : okC c) (hl : 0 < l.length) : ∃ c' x,Js c l = some (c',x) ∧ okC c' ∧ x ∈ l:=by
 obtain ⟨c1,x1,e1,k1,l1,u1⟩:=Q8 c (ln l) h
 have hlt:=u1 (by rw [VA]; omega)
 rw [VA] at hlt
 obtain ⟨k,rfl⟩ : ∃ k : Nat,x1 = (k : Int):=⟨x1.toNat,by omega⟩
 have hi : k < l.length:=by omega
 refine ⟨c1,l[k],?_,k1,List.getElem_mem hi⟩
 unfold Js
 rw [e1]
 simp only [Option.bind_some,Qe hi,Qm hi,Qa]
end Go.Proofs.YtonidbheohhgdaaGreat
namespace Go.Proofs.YtonidbheohhgdaaGreat
open Go
set_option linter.unusedVariables false
set_option linter.unusedSimpArgs false
theorem Qu5 (c : l1Cur) (i : Int) (h : okC c) : ∃ c' x,QdA c i = some (c',x) ∧ okC c' ∧ x.Id = i:=by
 obtain ⟨c1,x1,e1,k1,_⟩:=Q8 c 8 h
 obtain ⟨c2,x2,e2,k2,_⟩:=Q8 c1 8 k1
 obtain ⟨c3,x3,e3,k3,_⟩:=Q8 c2 20 k2
 obtain ⟨c4,x4,e4,k4,_⟩:=Q8 c3 500 k3
 exact ⟨c4,_,by unfold QdA; simp only [e1,e2,e3,e4,Option.bind_some]; rfl,k4,rfl⟩
theorem Qvu (c : l1Cur) (i : Int) (h : okC c) : ∃ c' x,Qdq c i = some (c',x) ∧ okC c':=by
 obtain ⟨c1,x1,e1,k1,_⟩:=Qu5 c i h
 obtain ⟨c2,x2,e2,k2,_⟩:=Q8 c1 6 k1
 obtain ⟨c3,x3,e3,k3,_⟩:=Q8 c2 80 k2
 obtain ⟨c4,x4,e4,k4,_⟩:=Q8 c3 5 k3
 exact ⟨c4,_,by unfold Qdq; simp only [e1,e2,e3,e4,Option.bind_some]; rfl,k4⟩
theorem Ql2 {S R : Type} {step : S → Option (S ⊕ R)} (I : S → Prop) (J : R → Prop) (h1 : ∀ s s',I s → step s = some (.inl s') → I s') (h2 : ∀ s r,I s → step s = some (.inr r) → J r) {s : S} {r : R} (hs : I s) (h : run step s = some r) : J r:=by
 obtain ⟨n,hn⟩:=Qb2.1 h
 clear h
 induction n generalizing s with
 | zero=>simp [itr] at hn
 | succ n ih =>
  simp only [itr] at hn
  cases ho : step s with
  | none=>rw [ho] at hn; cases hn
  | some o =>
   rw [ho] at hn
   cases o with
   | inl s'=>exact ih (h1 _ _ hs ho) hn
   | inr q=>injection hn with hn; subst hn; exact h2 _ _ hs ho
theorem VK {B : Type} {b : Bool} {q : Option B} {r : B} (h : (nd b <| q) = some r) : b = true ∧ q = some r:=by
 cases b with
 | false=>cases h
 | true=>exact ⟨rfl,h⟩
end Go.Proofs.YtonidbheohhgdaaGreat
namespace Go.Proofs.YtonidbheohhgdaaGreat
open Go
set_option linter.unusedVariables false
set_option linter.unusedSimpArgs false
def Qrn (l : List Slot) : Prop:=l.length ≤ 8 ∧ ∀ i (h : i < l.length),l[i].Id = (i : Int) + 1 ∧ 1 ≤ l[i].Size ∧ l[i].Size ≤ 50 ∧ l[i].Thing = 0
theorem Qrs (c : l1Cur) (h : okC c) : ∃ c' l,Qb4 c = some (c',l) ∧ okC c' ∧ Qrn l:=by
 have key : ∀ (m : Nat) (c : l1Cur) (l : List Slot) (i : Int),okC c → i + (m : Int) = 8 → i = (l.length : Int) + 1 → Qrn l → ∃ c' l',run Zk (c,l,i) = some (c',l') ∧ okC c' ∧ Qrn l':=by
  intro m
  induction m with
  | zero =>
   intro c l i hc hi hl hg
   obtain ⟨c1,x1,e1,k1,l1,u1⟩:=Q8 c 5 hc
   have u1:=u1 (by omega)
   refine ⟨c1,l,?_,k1,hg⟩
   rw [Qh]
   simp only [Zk,e1,Option.bind_some,show w64 (3 + x1) = 3 + x1 from Vj (by omega) (by omega),decide_eq_false (show ¬ i ≤ 3 + x1 by omega),cond_false]
  | succ m ih =>
   intro c l i hc hi hl hg
   obtain ⟨c1,x1,e1,k1,l1,u1⟩:=Q8 c 5 hc
   have u1:=u1 (by omega)
   obtain ⟨c2,x2,e2,k2,l2,u2⟩:=Q8 c1 4 k1
   have u2:=u2 (by omega)
   rw [Qh]
   simp only [Zk,e1,e2,Option.bind_some,show w64 (3 + x1) = 3 + x1 from Vj (by omega) (by omega),Vz (show l.length + 1 ≤ 2000000 by omega) (show 24 ≤ 1024 by omega),Qa,show w64 (i + 1) = i + 1 from Vj (by omega) (by omega),show w64 (5 * x2) = 5 * x2 from Vj (by omega) (by omega),show w64 (10 + 5 * x2) = 10 + 5 * x2 from Vj (by omega) (by omega)]
   by_cases hd : i ≤ 3 + x1
   ·rw [decide_eq_true hd]
    refine ih c2 _ (i + 1) k2 (by omega) (by simp; omega) ⟨by simp; omega,fun j hj=>?_⟩
    by_cases hjl : j < l.length
    ·rw [List.getElem_append_left hjl]; exact hg.2 j hjl
    ·have : j = l.length:=by simp at hj; omega
     subst this
     simp only [List.getElem_append_right (Nat.le_refl _),Nat.sub_self,List.getElem_cons_zero]
     exact ⟨hl,by omega,by omega,trivial⟩
   ·rw [decide_eq_false hd]
    exact ⟨c1,l,rfl,k1,hg⟩
 obtain ⟨c',l',r1,r2,r3⟩:=key 7 c [] 1 h (by omega) (by simp) ⟨by simp,fun i h=>by simp at h⟩
 exact ⟨c',l',by unfold Qb4; rw [r1]; rfl,r2,r3⟩
theorem QrJ (l : List Slot) (hg : Qrn l) : V0 l = some true:=by
 obtain ⟨hl,hg⟩:=hg
 have inner : ∀ i (hi : i < l.length),run (VM l (i : Int)) 0 = some (.brk ()):=by
  intro i hi
  have key : ∀ (m j : Nat),j + m = i → run (VM l (i : Int)) (j : Int) = some (.brk ()):=by
   intro m
   induction m with
   | zero=>intro j hj; rw [Qh]; simp only [VM,decide_eq_false (show ¬ (j : Int) < (i : Int) by omega),cond_false,Option.bind_some]
   | succ m ih =>
    intro j hj
    rw [Qh]
    simp only [VM,decide_eq_true (show (j : Int) < (i : Int) by omega),Qe hi,Qm hi,(hg i hi).2.2.2,decide_true,Bool.not_true,cond_true,cond_false,Qa,Option.bind_some,QD (show (j : Int) < 9223372036854775807 by omega)]
    exact ih (j + 1) (by omega)
  exact key i 0 (by omega)
 have key : ∀ (m i : Nat),i + m = l.length → run (Qw l) (i : Int) = some (.brk ()):=by
  intro m
  induction m with
  | zero =>
   intro i hi
   have : i = l.length:=by omega
   subst this
   rw [Qh]; simp only [Qw,Qx (Nat.le_refl _),cond_false,Option.bind_some]
  | succ m ih =>
   intro i hi
   have hlt : i < l.length:=by omega
   obtain ⟨g1,g2,g3,g4⟩:=hg i hlt
   rw [Qh]
   simp only [Qw,Qt hlt,Qe hlt,Qm hlt,Qc,cond_true,Qa,Option.bind_some,g1,g4,decide_eq_true (show (1 : Int) ≤ (i : Int) + 1 by omega),decide_eq_true (show (i : Int) + 1 ≤ 99 by omega),decide_eq_true g2,decide_eq_true g3,show decide ((0 : Int) ≤ 0) = true from rfl,show decide ((0 : Int) ≤ 999) = true from rfl,Bool.and_self,Bool.not_true,cond_false,inner i hlt,evO,QD (show (i : Int) < 9223372036854775807 by omega)]
   by_cases h0 : 0 < i
   ·obtain ⟨p1,_⟩:=hg (i - 1) (by omega)
    simp only [decide_eq_true (show (0 : Int) < (i : Int) by omega),Zo h0 (by omega),Qe (show i - 1 < l.length by omega),Qm (show i - 1 < l.length by omega),p1,decide_eq_false (show ¬ (i : Int) + 1 ≤ ((i - 1 : Nat) : Int) + 1 by omega),cond_true,cond_false,Qa,Option.bind_some]
    exact ih (i + 1) (by omega)
   ·simp only [decide_eq_false (show ¬ (0 : Int) < (i : Int) by omega),cond_false,Option.bind_some]
    exact ih (i + 1) (by omega)
 unfold V0
 rw [show run (Qw l) 0 = some (.brk ()) from key l.length 0 (by omega)]
 simp only [Option.bind_some,evO]
 rw [decide_eq_true (show ln l ≤ 30 by rw [VA]; omega)]
theorem Quu (l : List Slot) (hg : Qrn l) : QbB l = some (l.length : Int):=by
 have key : ∀ (m i : Nat),i + m = l.length → run (X4 l) ((i : Int),(i : Int)) = some (l.length : Int):=by
  intro m
  induction m with
  | zero =>
   intro i hi
   have : i = l.length:=by omega
   subst this
   rw [Qh]; simp only [X4,Qx (Nat.le_refl _),cond_false,Option.bind_some]
  | succ m ih =>
   intro i hi
   have hlt : i < l.length:=by omega
   have:=hg.1
   rw [Qh]
   simp only [X4,Qt hlt,Qe hlt,Qm hlt,(hg.2 i hlt).2.2.2,decide_true,cond_true,Qa,Option.bind_some,QD (show (i : Int) < 9223372036854775807 by omega)]
   exact ih (i + 1) (by omega)
 unfold QbB
 rw [show run (X4 l) (0,0) = some (l.length : Int) from key l.length 0 (by omega)]; rfl
theorem Qki (no : Int) (l : List Slot) (h1 : 1 ≤ no) (h2 : no ≤ 9) (hg : Qrn l) : QV ⟨no,[],[],l,[],[],[],[],0⟩ = some true:=by
 have e1 : V1 [] = some true:=by unfold V1; rw [Qh]; rfl
 have e2 : Xs [] = some true:=by unfold Xs; rw [Qh]; rfl
 have e3 : QS [] = some true:=by unfold QS; rw [Qh]; rfl
 have e4 : Vx [] = some true:=by unfold Vx; rw [Qh]; rfl
 have e5 : Vr [] = some true:=by unfold Vr; rw [Qh]; rfl
 have e6 : ∀ n,Qaw [] n = some []:=fun n=>by unfold Qaw; rw [Qh]; rfl
 have e7 : JB ⟨no,[],[],l,[],[],[],[],0⟩ = some true:=by unfold JB; rw [Qh]; rfl
 have e8 : run (VC ⟨no,[],[],l,[],[],[],[],0⟩) 0 = some (.brk ()):=by
  have key : ∀ (m i : Nat),i + m = l.length → run (VC ⟨no,[],[],l,[],[],[],[],0⟩) (i : Int) = some (.brk ()):=by
   intro m
   induction m with
   | zero =>
    intro i hi
    have : i = l.length:=by omega
    subst this
    rw [Qh]; simp only [VC,Qx (Nat.le_refl _),cond_false,Option.bind_some]
   | succ m ih =>
    intro i hi
    have hlt : i < l.length:=by omega
    have:=hg.1
    rw [Qh]
    simp only [VC,Qt hlt,Qe hlt,Qm hlt,(hg.2 i hlt).2.2.2,decide_true,Bool.not_true,cond_true,cond_false,Qa,Option.bind_some,QD (show (i : Int) < 9223372036854775807 by omega)]
    exact ih (i + 1) (by omega)
  exact key l.length 0 (by omega)
 have e9 : Jx ⟨no,[],[],l,[],[],[],[],0⟩ = some true:=by
  unfold Jx
  simp only [decide_true,Bool.not_true,cond_false,e6,Option.bind_some]
  rw [Qh]
  simp only [XU,show decide ((0 : Int) < ln ([] : List Int)) = false from rfl,cond_false,Option.bind_some,evO]
  rw [Qh]
  simp only [XB,show decide ((0 : Int) < ln ([] : List Find)) = false from rfl,cond_false,Option.bind_some,evO]
  rw [e8]; rfl
 unfold QV
 simp only [Qc,decide_eq_true h1,decide_eq_true h2,Bool.and_self,Bool.not_true,cond_false,e1,e2,e3,e4,e5,e7,e9,QrJ l hg,Option.bind_some,show decide ((0 : Int) ≤ 0) = true from rfl,show decide ((0 : Int) ≤ 100000) = true from rfl,show decide ((0 : Int) < ln ([] : List Hand)) = false from rfl,show decide ((0 : Int) < ln ([] : List Entry)) = false from rfl,cond_true]
theorem Qvr (no : Int) (l : List Slot) (h1 : 1 ≤ no) (h2 : no ≤ 9) (hg : Qrn l) : Qcb no l = some (⟨no,[],[],l,[],[],[],[],0⟩,true):=by
 have hl:=hg.1
 have hm : Qf ⟨no,[],[],l,[],[],[],[],0⟩:=⟨by simp,⟨by simp,by simp⟩,by simp only; omega,by simp,by simp,by simp,by simp⟩
 have hv:=Qki no l h1 h2 hg
 unfold Qcb
 rw [V5 _ hm]
 simp only [Option.bind_some,hv,Quu l hg,VA,decide_true,Bool.not_true,cond_false]
end Go.Proofs.YtonidbheohhgdaaGreat
namespace Go.Proofs.YtonidbheohhgdaaGreat
open Go
set_option linter.unusedVariables false
set_option linter.unusedSimpArgs false
theorem QuT (c : l1Cur) (h : okC c) : ∃ c' l,Qdp c = some (c',l) ∧ okC c' ∧ l.length ≤ 100:=by
 have key : ∀ (m : Nat) (c : l1Cur) (l : List Bid) (i : Int),okC c → i + (m : Int) = 7 → 0 ≤ i → l.length + m ≤ 100 → ∃ c' l',run Z7 (c,l,i) = some (c',l') ∧ okC c' ∧ l'.length ≤ 100:=by
  intro m
  induction m with
  | zero =>
   intro c l i hc hi h0 hl
   obtain ⟨c1,x1,e1,k1,l1,u1⟩:=Q8 c 7 hc
   have u1:=u1 (by omega)
   refine ⟨c1,l,?_,k1,by omega⟩
   rw [Qh]
   simp only [Z7,e1,Option.bind_some,decide_eq_false (show ¬ i ≤ x1 by omega),cond_false]
  | succ m ih =>
   intro c l i hc hi h0 hl
   obtain ⟨c1,x1,e1,k1,l1,u1⟩:=Q8 c 7 hc
   obtain ⟨c2,x2,e2,k2,_⟩:=Q8 c1 12 k1
   obtain ⟨s,hs⟩:=QnM [7,i,w64 (1 + x2)] (by simp)
   have hsb : QcY 7 i (w64 (1 + x2)) = some s:=by unfold QcY; rw [hs]; rfl
   rw [Qh]
   simp only [Z7,e1,e2,hsb,Option.bind_some,Vz (show l.length + 1 ≤ 2000000 by omega) (show 24 ≤ 1024 by omega),Qa,show w64 (i + 1) = i + 1 from Vj (by omega) (by omega)]
   by_cases hd : i ≤ x1
   ·rw [decide_eq_true hd]
    exact ih c2 _ (i + 1) k2 (by omega) (by omega) (by simp; omega)
   ·rw [decide_eq_false hd]
    exact ⟨c1,l,rfl,k1,by omega⟩
 obtain ⟨c1,l,r1,k1,n1⟩:=key 6 c [] 1 h (by omega) (by omega) (by simp)
 unfold Qdp
 rw [r1]
 simp only [Option.bind_some]
 by_cases h0 : 0 < ln l
 ·rw [decide_eq_true h0]
  obtain ⟨c2,x2,e2,k2,l2,u2⟩:=Q8 c1 (ln l) k1
  have u2:=u2 h0
  rw [VA] at u2
  have hin : inb l x2 = true:=by rw [QcV]; omega
  obtain ⟨c3,x3,e3,k3,_⟩:=Q8 c2 10 k2
  obtain ⟨c4,x4,e4,k4,_⟩:=Qgl c3 [0,1,999,1000] k3 (by simp)
  obtain ⟨c5,x5,e5,k5,_⟩:=Qgl c3 [0,10000000,10000001] k3 (by simp)
  simp only [e2,e3,e4,e5,hin,Option.bind_some,cond_true,Qa]
  cases decide (x3 = 0) with
  | true=>exact ⟨_,_,rfl,k4,by rw [List.length_set]; exact n1⟩
  | false =>
  cases decide (x3 = 1) with
  | true=>exact ⟨_,_,rfl,k5,by rw [List.length_set]; exact n1⟩
  | false=>exact ⟨_,_,rfl,k3,n1⟩
 ·rw [decide_eq_false h0]
  exact ⟨c1,l,rfl,k1,n1⟩
end Go.Proofs.YtonidbheohhgdaaGreat
namespace Go.Proofs.YtonidbheohhgdaaGreat
open Go
set_option linter.unusedVariables false
set_option linter.unusedSimpArgs false
theorem QhC (c : l1Cur) (i : Int) (h : okC c) : ∃ c' x,QaD c i = some (c',x) ∧ okC c' ∧ Qaa x ∧ x.Kind = 1:=by
 obtain ⟨c1,x1,e1,k1⟩:=Qvu c i h
 obtain ⟨c2,x2,e2,k2,_⟩:=Q8 c1 12 k1
 obtain ⟨c3,x3,e3,k3,_⟩:=Qgl c2 [0,900,5000,5001,60000] k2 (by simp)
 obtain ⟨c4,x4,e4,k4,_⟩:=Q8 c3 3 k3
 obtain ⟨c5,x5,e5,k5,_⟩:=Q8 c4 3 k4
 exact ⟨c5,_,by unfold QaD; simp only [e1,e2,e3,e4,e5,Option.bind_some]; rfl,k5,by simp [Qaa],rfl⟩
theorem QvI (c : l1Cur) (h : okC c) : ∃ c' x,Qdr c = some (c',x) ∧ okC c' ∧ Qaa x:=by
 obtain ⟨c1,x1,e1,k1,_⟩:=Qgl c [1,2,2,3,3,3,3,4,4,5,6,7] h (by simp)
 obtain ⟨c2,x2,e2,k2,_⟩:=Q8 c1 4 k1
 obtain ⟨c3,x3,e3,k3,_⟩:=Q8 c2 5 k2
 obtain ⟨c4,x4,e4,k4,_⟩:=Q8 c3 3 k3
 obtain ⟨c5,x5,e5,k5,_⟩:=Q8 c4 6 k4
 obtain ⟨c6,x6,e6,k6,s6,_⟩:=QhC c5 (w64 (2 * (w64 (1 + x5)))) k5
 obtain ⟨c7,x7,e7,k7,_⟩:=Q8 c4 3 k4
 obtain ⟨c8,x8,e8,k8,n8⟩:=QuT c4 k4
 obtain ⟨c9,x9,e9,k9,_⟩:=Qgl c4 [1,24,2160,4320] k4 (by simp)
 unfold Qdr
 simp only [e1,e2,e3,e4,e5,e6,e7,e8,e9,Option.bind_some]
 cases decide (x1 = 1) with
 | true=>exact ⟨_,_,rfl,k6,s6⟩
 | false =>
 cases decide (x1 = 3) with
 | true=>exact ⟨_,_,rfl,k7,by simp [Qaa]⟩
 | false =>
 cases decide (x1 = 5) with
 | true=>exact ⟨_,_,rfl,k8,by simp [Qaa]; omega⟩
 | false =>
 cases decide (x1 = 7) with
 | true=>exact ⟨_,_,rfl,k9,by simp [Qaa]⟩
 | false=>exact ⟨_,_,rfl,k4,by simp [Qaa]⟩
theorem QrA (c : l1Cur) (n : Int) (h : okC c) (hn : n ≤ 1000) : ∃ c' l,Qcz c n = some (c',l) ∧ okC c' ∧ l.length ≤ 2000 ∧ (∀ x ∈ l,Qaa x) ∧ ∃ a b t,l = a :: b :: t ∧ a.Kind = 1 ∧ b.Kind = 1:=by
 have key : ∀ (m : Nat) (c : l1Cur) (l : List Event),okC c → l.length + m ≤ 2000 → (∀ x ∈ l,Qaa x) → ∃ c' l',run Zx (c,l,(m : Int)) = some (c',l') ∧ okC c' ∧ l'.length ≤ 2000 ∧ (∀ x ∈ l',Qaa x) ∧ ∃ t,l' = l ++ t:=by
  intro m
  induction m with
  | zero =>
   intro c l hc hl hx
   exact ⟨c,l,by rw [Qh]; simp only [Zx,show decide ((0 : Int) < ((0 : Nat) : Int)) = false from rfl,cond_false,Option.bind_some],hc,by omega,hx,[],by simp⟩
  | succ m ih =>
   intro c l hc hl hx
   obtain ⟨c1,x1,e1,k1,s1⟩:=QvI c hc
   obtain ⟨c',l',r1,r2,r3,r4,t,r5⟩:=ih c1 (l ++ [x1]) k1 (by simp; omega) (fun x hx'=>by
    rcases List.mem_append.1 hx' with hx' | hx'
    ·exact hx x hx'
    ·rw [List.mem_singleton.1 hx']; exact s1)
   refine ⟨c',l',?_,r2,r3,r4,x1 :: t,by rw [r5]; simp⟩
   rw [Qh]
   simp only [Zx,decide_eq_true (show (0 : Int) < ((m + 1 : Nat) : Int) by omega),e1,cond_true,Option.bind_some,Vz (show l.length + 1 ≤ 2000000 by omega) (show 144 ≤ 1024 by omega),Qa,show w64 (((m + 1 : Nat) : Int) - 1) = (m : Int) from by rw [Vj] <;> omega]
   exact r1
 obtain ⟨c1,x1,e1,k1,s1,q1⟩:=QhC c 2 h
 obtain ⟨c2,x2,e2,k2,s2,q2⟩:=QhC c1 4 k1
 obtain ⟨c3,x3,e3,k3,l3,u3⟩:=Q8 c2 n k2
 have hx3 : x3 < 1000:=by
  by_cases h0 : 0 < n
  ·have:=u3 h0; omega
  ·unfold Qv at e3
   rw [decide_eq_true (show n ≤ 0 by omega)] at e3
   injection e3 with e3; injection e3 with _ e3
   omega
 obtain ⟨k,rfl⟩ : ∃ k : Nat,x3 = (k : Int):=⟨x3.toNat,by omega⟩
 obtain ⟨c',l',r1,r2,r3,r4,t,r5⟩:=key k c3 [x1,x2,(⟨7,⟨⟨0,0,0,0,0⟩,0,0,0⟩,[],0,0,5,[]⟩ : Event)] k3 (by simp; omega) (by
  intro x hx
  simp only [List.mem_cons,List.not_mem_nil,or_false] at hx
  rcases hx with rfl | rfl | rfl
  ·exact s1
  ·exact s2
  ·simp [Qaa])
 exact ⟨c',l',by unfold Qcz; simp only [e1,e2,e3,Option.bind_some]; rw [r1]; rfl,r2,r3,r4,x1,x2,(⟨7,⟨⟨0,0,0,0,0⟩,0,0,0⟩,[],0,0,5,[]⟩ : Event) :: t,r5,q1,q2⟩
end Go.Proofs.YtonidbheohhgdaaGreat
namespace Go.Proofs.YtonidbheohhgdaaGreat
open Go
set_option linter.unusedVariables false
set_option linter.unusedSimpArgs false
theorem Qyl (x y : Int) : w64 (w64 x + y) = w64 (x + y):=by unfold w64; omega
theorem QEm (x y : Int) : w64 (w64 x - w64 y) = w64 (x - y):=by unfold w64; omega
def Jk (l : List Entry) (a : Int) : Int:=(l.map fun x=>if x.To = a then x.Cents else 0).sum
def Vo (l : List Entry) (a : Int) : Int:=(l.map fun x=>if x.From = a then x.Cents else 0).sum
theorem Qr9 (l : List Entry) (a : Int) (i : Nat) (h : i < l.length) : Jk (l.take (i + 1)) a = Jk (l.take i) a + (if l[i].To = a then l[i].Cents else 0):=by
 unfold Jk; rw [List.take_succ_eq_append_getElem h,List.map_append,List.sum_append]; rw [List.map_cons,List.map_nil,List.sum_cons,List.sum_nil,Int.add_zero]
theorem Qox (l : List Entry) (a : Int) (i : Nat) (h : i < l.length) : Vo (l.take (i + 1)) a = Vo (l.take i) a + (if l[i].From = a then l[i].Cents else 0):=by
 unfold Vo; rw [List.take_succ_eq_append_getElem h,List.map_append,List.sum_append]; rw [List.map_cons,List.map_nil,List.sum_cons,List.sum_nil,Int.add_zero]
theorem Qnw {β : Type} {step : Int → Option (Int ⊕ (Fl β Unit))} {n : Nat} (h1 : ∀ i : Nat,i < n → ∀ o,step (i : Int) = some (.inl o) → o = ((i + 1 : Nat) : Int)) (h2 : ∀ i : Nat,i < n → step (i : Int) ≠ some (.inr (.brk ()))) (h : run step 0 = some (.brk ())) : ∀ i : Nat,i < n → step (i : Int) = some (.inl ((i + 1 : Nat) : Int)):=by
 have key : ∀ (m i : Nat),i + m = n → run step (i : Int) = some (.brk ()) → ∀ j,i ≤ j → j < n → step (j : Int) = some (.inl ((j + 1 : Nat) : Int)):=by
  intro m
  induction m with
  | zero=>intro i hi _ j h3 h4; omega
  | succ m ih =>
   intro i hi hr j h3 h4
   rw [Qh] at hr
   obtain ⟨o,ho,hr⟩:=Option.bind_eq_some_iff.1 hr
   cases o with
   | inl s =>
    have:=h1 i (by omega) s ho
    subst this
    by_cases hij : j = i
    ·subst hij; exact ho
    ·exact ih (i + 1) (by omega) hr j (by omega) h4
   | inr r =>
    injection hr with hr
    subst hr
    exact absurd ho (h2 i (by omega))
 exact fun i hi=>key n 0 (by omega) h i (by omega) hi
theorem QBu {x : Option (Fl Bool Unit)} {q : Bool} (h : x.bind (evO (fun r=>some r) fun _=>some q) = some true) (hx : ∀ r,x = some (.ret r) → r = false) : x = some (.brk ()):=by
 obtain ⟨o,ho,h⟩:=Option.bind_eq_some_iff.1 h
 cases o with
 | ret r =>
  have:=hx r ho
  subst this
  cases h
 | brk u=>exact ho
theorem Qhu (l : List Entry) (hl : l.length ≤ 1048576) (h : Vr l = some true) : ∀ x ∈ l,1 ≤ x.Cents ∧ x.Cents ≤ 10000000:=by
 have cases3 : ∀ i : Nat,i < l.length → Q3 l (i : Int) = some (.inr (.ret false)) ∨ (Q3 l (i : Int) = some (.inl ((i + 1 : Nat) : Int)) ∧ ∀ hi : i < l.length,1 ≤ l[i].Cents ∧ l[i].Cents ≤ 10000000):=fun i hi=>by
  have hw:=QD (show (i : Int) < 9223372036854775807 by omega)
  simp only [Q3,Qc,Qt hi,Qe hi,Qm hi,cond_true,Qa,Option.bind_some,hw]
  by_cases hc : 1 ≤ l[i].Cents ∧ l[i].Cents ≤ 10000000
  ·have hp : (bif decide (0 < (i : Int)) then nd (inb l (w64 ((i : Int) - 1))) <| some (decide (l[i].At < (gt l (w64 ((i : Int) - 1))).At)) else some false) = some true ∨ (bif decide (0 < (i : Int)) then nd (inb l (w64 ((i : Int) - 1))) <| some (decide (l[i].At < (gt l (w64 ((i : Int) - 1))).At)) else some false) = some false:=by
    by_cases h0 : 0 < i
    ·rw [decide_eq_true (show (0 : Int) < (i : Int) by omega),Zo h0 (by omega),Qe (show i - 1 < l.length by omega)]
     cases decide (l[i].At < (gt l ((i - 1 : Nat) : Int)).At) <;> first | exact .inl rfl | exact .inr rfl
    ·rw [decide_eq_false (show ¬ (0 : Int) < (i : Int) by omega)]; exact .inr rfl
   rcases hp with hp | hp <;> rw [hp] <;>
    cases (decide (0 ≤ l[i].From) && decide (l[i].From ≤ 999)) <;> cases (decide (0 ≤ l[i].To) && decide (l[i].To ≤ 999)) <;> cases decide (l[i].From = l[i].To) <;> cases (decide (1 ≤ l[i].Cents) && decide (l[i].Cents ≤ 10000000)) <;> cases (decide (0 ≤ l[i].At) && decide (l[i].At ≤ 100000)) <;> first | exact .inl rfl | exact .inr ⟨rfl,fun _=>hc⟩
  ·rw [show (decide (1 ≤ l[i].Cents) && decide (l[i].Cents ≤ 10000000)) = false by rw [Bool.eq_false_iff]; simpa using fun h=>by omega]
   left
   cases (decide (0 ≤ l[i].From) && decide (l[i].From ≤ 999)) <;> cases (decide (0 ≤ l[i].To) && decide (l[i].To ≤ 999)) <;> cases decide (l[i].From = l[i].To) <;> rfl
 unfold Vr at h
 have hb:=QBu h fun r hr=>by
  obtain ⟨q,hq⟩ : ∃ q,r = q:=⟨r,rfl⟩
  exact Ql2 (step:=Q3 l) (fun s=>0 ≤ s ∧ s ≤ (l.length : Int)) (fun o=>∀ r,o = .ret r → r = false)
   (fun s s' hs e=>by
    obtain ⟨k,rfl⟩ : ∃ k : Nat,s = (k : Int):=⟨s.toNat,by omega⟩
    by_cases hk : k < l.length
    ·rcases cases3 k hk with h | ⟨h,_⟩
     ·rw [h] at e; cases e
     ·rw [h] at e; injection e with e; injection e with e; omega
    ·simp only [Q3,Qx (show l.length ≤ k by omega),cond_false] at e; cases e)
   (fun s o hs e=>by
    obtain ⟨k,rfl⟩ : ∃ k : Nat,s = (k : Int):=⟨s.toNat,by omega⟩
    by_cases hk : k < l.length
    ·rcases cases3 k hk with h | ⟨h,_⟩
     ·rw [h] at e; injection e with e; injection e with e; subst e; intro r hr; injection hr with hr; exact hr.symm
     ·rw [h] at e; cases e
    ·simp only [Q3,Qx (show l.length ≤ k by omega),cond_false] at e
     injection e with e; injection e with e; subst e; intro r hr; cases hr)
   (s:=0) ⟨by omega,by omega⟩ hr r rfl
 have hall:=Qnw (n:=l.length) (fun i hi o ho=>by
   rcases cases3 i hi with h | ⟨h,_⟩
   ·rw [h] at ho; cases ho
   ·rw [h] at ho; injection ho with ho; injection ho with ho; exact ho.symm)
  (fun i hi ho=>by
   rcases cases3 i hi with h | ⟨h,_⟩
   ·rw [h] at ho; cases ho
   ·rw [h] at ho; cases ho) hb
 intro x hx
 obtain ⟨k,hk,rfl⟩:=List.getElem_of_mem hx
 rcases cases3 k hk with h | ⟨_,h⟩
 ·rw [hall k hk] at h; cases h
 ·exact h hk
theorem Qtz (a : Int) : ∀ (l : List Entry),(∀ x ∈ l,1 ≤ x.Cents ∧ x.Cents ≤ 10000000) → (0 ≤ Jk l a ∧ Jk l a ≤ 10000000 * (l.length : Int)) ∧ 0 ≤ Vo l a ∧ Vo l a ≤ 10000000 * (l.length : Int)
 | [],_=>by simp [Jk,Vo]
 | x :: l,h=>by
  obtain ⟨⟨h1,h2⟩,h3,h4⟩:=Qtz a l fun y hy=>h y (by simp [hy])
  have hx:=h x (by simp)
  unfold Jk Vo at *
  simp only [List.map_cons,List.sum_cons,List.length_cons]
  refine ⟨⟨?_,?_⟩,?_,?_⟩ <;> split <;> omega
theorem QnU (l t : List Entry) (a : Int) : Jk (l ++ t) a = Jk l a + Jk t a:=by unfold Jk; rw [List.map_append,List.sum_append]
theorem Qkm (l t : List Entry) (a : Int) : Vo (l ++ t) a = Vo l a + Vo t a:=by unfold Vo; rw [List.map_append,List.sum_append]
theorem Qp5 (l : List Entry) (a : Int) (hl : l.length ≤ 1048576) (hv : Vr l = some true) : Qay l a = some (Jk l a - Vo l a):=by
 obtain ⟨b,e1,e2,e3⟩:=QhL l hl
 rw [hv] at e1
 injection e1 with e1
 subst e1
 have hn:=(e3 rfl).1
 obtain ⟨⟨b1,b2⟩,b3,b4⟩:=Qtz a l (Qhu l hl hv)
 have key : Qay l a = some (w64 (Jk l a - Vo l a)):=by
  unfold Qay QdP QcA
  have h1 : run (JQ a l (ln l)) (0,0) = some (w64 (Jk l a)):=by
   have:=XP (step:=JQ a l (ln l)) (fun i=>(w64 (Jk (l.take i) a),(i : Int))) (r:=w64 (Jk l a)) l.length (fun i hi=>by
     simp only [JQ,Qt hi,Qe hi,Qm hi,cond_true,Qa,QD (show (i : Int) < 9223372036854775807 by omega),Qr9 l a i hi]
     by_cases h1 : l[i].To = a
     ·rw [decide_eq_true h1,if_pos h1,cond_true,Qyl]
     ·rw [decide_eq_false h1,if_neg h1,cond_false,Int.add_zero])
    (by simp only [JQ,Qx (Nat.le_refl _),cond_false,List.take_length])
   simpa [Jk,w64] using this
  have h2 : run (XX a l (ln l)) (0,0) = some (w64 (Vo l a)):=by
   have:=XP (step:=XX a l (ln l)) (fun i=>(w64 (Vo (l.take i) a),(i : Int))) (r:=w64 (Vo l a)) l.length (fun i hi=>by
     simp only [XX,Qt hi,Qe hi,Qm hi,cond_true,Qa,QD (show (i : Int) < 9223372036854775807 by omega),Qox l a i hi]
     by_cases h1 : l[i].From = a
     ·rw [decide_eq_true h1,if_pos h1,cond_true,Qyl]
     ·rw [decide_eq_false h1,if_neg h1,cond_false,Int.add_zero])
    (by simp only [XX,Qx (Nat.le_refl _),cond_false,List.take_length])
   simpa [Vo,w64] using this
  simp only [e2,h1,h2,Option.bind_some,Bool.not_true,cond_false,QEm]
 rw [key,Vj (by omega) (by omega)]
end Go.Proofs.YtonidbheohhgdaaGreat
namespace Go.Proofs.YtonidbheohhgdaaGreat
open Go
set_option linter.unusedVariables false
set_option linter.unusedSimpArgs false
def Dd (p : House → Prop) (x : Option (House × Bool)) : Prop:=∀ r,x = some r → r.2 = true → p r.1
theorem Dd.bind {A : Type} {p : House → Prop} {o : Option A} {k : A → Option (House × Bool)} (h : ∀ y,o = some y → Dd p (k y)) : Dd p (o.bind k):=fun r hr hd=>by
 obtain ⟨y,hy,hk⟩:=Option.bind_eq_some_iff.1 hr
 exact h y hy r hk hd
theorem Dd.cond {p : House → Prop} {b : Bool} {x y : Option (House × Bool)} (hx : b = true → Dd p x) (hy : b = false → Dd p y) : Dd p (bif b then x else y):=by
 cases b with
 | true=>exact hx rfl
 | false=>exact hy rfl
theorem Dd.nd {p : House → Prop} {b : Bool} {x : Option (House × Bool)} (hx : b = true → Dd p x) : Dd p (nd b <| x):=by
 cases b with
 | true=>exact hx rfl
 | false=>intro r hr; cases hr
theorem Dd.none {p : House → Prop} : Dd p none:=fun r hr=>by cases hr
theorem Dd.no {p : House → Prop} {a : House} : Dd p (some (a,false)):=fun r hr hd=>by injection hr with hr; subst hr; cases hd
theorem Dd.done {p : House → Prop} {a o : House} {o2 : Bool} (h : o2 = true → p o) : Dd p ((Qp a o o2).bind fun r=>some (r.1,r.2)):=fun r hr hd=>by
 obtain ⟨y,hy,e⟩:=Option.bind_eq_some_iff.1 hr
 injection e with e; subst e
 unfold Qp at hy
 obtain ⟨b,hb,hy⟩:=Option.bind_eq_some_iff.1 hy
 cases b with
 | true =>
  simp only [cond_true] at hy
  obtain ⟨z,_,hy⟩:=Option.bind_eq_some_iff.1 hy
  injection hy with hy; subst hy; cases hd
 | false =>
  simp only [cond_false] at hy
  injection hy with hy; subst hy
  cases o2 with
  | true=>exact h rfl
  | false=>cases hb
theorem Dd.donF {p : House → Prop} {a o : House} : Dd p ((Qp a o false).bind fun r=>some (r.1,r.2)):=Dd.done fun h=>by cases h
theorem Qoo (l : List Slot) (hl : l.length ≤ 1048576) (hv : V0 l = some true) : ∀ i (hi : i < l.length),l[i].Thing ≠ 0 → ∀ j (hj : j < i),(l[j]'(by omega)).Thing ≠ l[i].Thing:=by
 have cases3 : ∀ (i : Nat) (hi : i < l.length),Qw l (i : Int) = some (.inr (.ret false)) ∨ (Qw l (i : Int) = some (.inl ((i + 1 : Nat) : Int)) ∧ (!decide (l[i].Thing = 0) && (l.take i).any (fun x=>decide (x.Thing = l[i].Thing))) = false):=fun i hi=>by
  have hw:=QD (show (i : Int) < 9223372036854775807 by omega)
  simp only [Qw,Qc,Qt hi,Qe hi,Qm hi,cond_true,Qa,Option.bind_some,hw,Qdg l i hi hl]
  generalize (!decide (l[i].Thing = 0) && (l.take i).any (fun x=>decide (x.Thing = l[i].Thing))) = q
  have hp : (bif decide (0 < (i : Int)) then nd (inb l (w64 ((i : Int) - 1))) <| some (decide (l[i].Id ≤ (gt l (w64 ((i : Int) - 1))).Id)) else some false) = some true ∨ (bif decide (0 < (i : Int)) then nd (inb l (w64 ((i : Int) - 1))) <| some (decide (l[i].Id ≤ (gt l (w64 ((i : Int) - 1))).Id)) else some false) = some false:=by
   by_cases h0 : 0 < i
   ·rw [decide_eq_true (show (0 : Int) < (i : Int) by omega),Zo h0 (by omega),Qe (show i - 1 < l.length by omega)]
    cases decide (l[i].Id ≤ (gt l ((i - 1 : Nat) : Int)).Id) <;> first | exact .inl rfl | exact .inr rfl
   ·rw [decide_eq_false (show ¬ (0 : Int) < (i : Int) by omega)]; exact .inr rfl
  rcases hp with hp | hp <;> rw [hp] <;>
   cases (decide (1 ≤ l[i].Id) && decide (l[i].Id ≤ 99)) <;> cases (decide (1 ≤ l[i].Size) && decide (l[i].Size ≤ 50)) <;> cases (decide (0 ≤ l[i].Thing) && decide (l[i].Thing ≤ 999)) <;> cases q <;> first | exact .inl rfl | exact .inr ⟨rfl,rfl⟩
 unfold V0 at hv
 obtain ⟨o,ho,hv⟩:=Option.bind_eq_some_iff.1 hv
 have hb : run (Qw l) 0 = some (.brk ()):=by
  cases o with
  | brk u=>exact ho
  | ret r =>
   exfalso
   have:=Ql2 (step:=Qw l) (fun s=>0 ≤ s ∧ s ≤ (l.length : Int)) (fun o=>∀ r,o = .ret r → r = false)
    (fun s s' hs e=>by
     obtain ⟨k,rfl⟩ : ∃ k : Nat,s = (k : Int):=⟨s.toNat,by omega⟩
     by_cases hk : k < l.length
     ·rcases cases3 k hk with h | ⟨h,_⟩
      ·rw [h] at e; cases e
      ·rw [h] at e; injection e with e; injection e with e; omega
     ·simp only [Qw,Qx (show l.length ≤ k by omega),cond_false] at e; cases e)
    (fun s o hs e=>by
     obtain ⟨k,rfl⟩ : ∃ k : Nat,s = (k : Int):=⟨s.toNat,by omega⟩
     by_cases hk : k < l.length
     ·rcases cases3 k hk with h | ⟨h,_⟩
      ·rw [h] at e; injection e with e; injection e with e; subst e; intro r hr; injection hr with hr; exact hr.symm
      ·rw [h] at e; cases e
     ·simp only [Qw,Qx (show l.length ≤ k by omega),cond_false] at e
      injection e with e; injection e with e; subst e; intro r hr; cases hr)
    (s:=0) ⟨by omega,by omega⟩ ho r rfl
   subst this
   cases hv
 have hall:=Qnw (n:=l.length) (fun i hi o ho=>by
   rcases cases3 i hi with h | ⟨h,_⟩
   ·rw [h] at ho; cases ho
   ·rw [h] at ho; injection ho with ho; injection ho with ho; exact ho.symm)
  (fun i hi ho=>by
   rcases cases3 i hi with h | ⟨h,_⟩
   ·rw [h] at ho; cases ho
   ·rw [h] at ho; cases ho) hb
 intro i hi hne j hj he
 rcases cases3 i hi with h | ⟨_,h⟩
 ·rw [hall i hi] at h; cases h
 ·rw [decide_eq_false hne] at h
  simp only [Bool.not_false,Bool.true_and,List.any_eq_false,decide_eq_true_eq] at h
  exact h (l[j]'(by omega)) (List.mem_iff_getElem.2 ⟨j,by rw [List.length_take]; omega,by rw [List.getElem_take]⟩) he
theorem Qvq (l : List Slot) (t : Int) (hl : l.length ≤ 1048576) {r : List Slot × Bool} (hr : QaF l t = some r) (hd : r.2 = true) : ∀ y ∈ r.1,y.Thing ≠ t:=by
 obtain ⟨q,q1,_,_,_,q5⟩:=Qqe l t hl
 rw [hr] at q1
 injection q1 with q1
 subst q1
 obtain ⟨h0,hv,k,hk,ht,hs⟩:=q5 hd
 have hu:=Qoo l hl hv
 rw [hs]
 intro y hy
 obtain ⟨i,hi,rfl⟩:=List.getElem_of_mem hy
 rw [List.length_set] at hi
 rw [List.getElem_set]
 split
 ·exact fun h=>h0 h.symm
 ·intro h
  by_cases hik : i < k
  ·exact hu k hk (by rw [ht]; exact h0) i hik (by rw [ht]; exact h)
  ·exact hu i hi (by rw [h]; exact h0) k (by omega) (by rw [ht]; exact h.symm)
theorem QhE (l : List Hand) (x : Hand) {r : List Hand × Bool} (hr : QbI l x = some r) (hd : r.2 = true) : ∃ s,r.1 = l ++ [⟨x.Thing,x.Holder,x.Who,x.At,s⟩]:=by
 unfold QbI at hr
 have key : ∀ s,((nd (rm (0 + l.length) 40) <| nd (rm (l.length + 1) 40) <| (Vx (l ++ [(⟨x.Thing,x.Holder,x.Who,x.At,s⟩ : Hand)])).bind fun r2=>(bif (!r2) then nd (rm (0 + l.length) 40) <| some (l,false) else some (l ++ [(⟨x.Thing,x.Holder,x.Who,x.At,s⟩ : Hand)],true))) : Option (List Hand × Bool)) = some r → ∃ s,r.1 = l ++ [⟨x.Thing,x.Holder,x.Who,x.At,s⟩]:=fun s h=>by
  obtain ⟨_,h⟩:=VK h
  obtain ⟨_,h⟩:=VK h
  obtain ⟨b,_,h⟩:=Option.bind_eq_some_iff.1 h
  cases b with
  | false=>obtain ⟨_,h⟩:=VK (show (nd (rm (0 + l.length) 40) <| some (l,false)) = some r from h); injection h with h; subst h; cases hd
  | true=>exact ⟨s,by injection h with h; rw [← h]⟩
 cases h0 : decide (0 < ln l) with
 | true =>
  rw [h0] at hr
  obtain ⟨_,hr⟩:=VK (show (nd (inb l (w64 ((ln l) - 1))) <| _) = some r from hr)
  obtain ⟨s,_,hr⟩:=Option.bind_eq_some_iff.1 hr
  exact key s hr
 | false =>
  rw [h0] at hr
  obtain ⟨s,_,hr⟩:=Option.bind_eq_some_iff.1 (show ((Jm 0 x).bind fun _=>_) = some r from hr)
  exact key s hr
def Out (a : House) (t hd : Int) (o : House) : Prop:=(∀ y ∈ o.Slots,y.Thing ≠ t) ∧ ∃ w s,o.Chain = a.Chain ++ [⟨t,hd,w,a.Now,s⟩]
theorem QPg (a : House) (t hd w : Int) (hm : Qf a) {g : House × Bool} (hg : Jd a t hd w = some g) : (g.2 = true → Out a t hd g.1) ∧ g.1.Book = a.Book ∧ g.1.Now = a.Now:=by
 unfold Jd at hg
 rw [V5 a hm] at hg
 obtain ⟨r2,h2,hg⟩:=Option.bind_eq_some_iff.1 (show ((QaF a.Slots t).bind fun _=>_) = some g from hg)
 obtain ⟨r3,h3,hg⟩:=Option.bind_eq_some_iff.1 hg
 cases hb : r2.2 with
 | true =>
  rw [hb] at hg
  simp only [cond_true] at hg
  injection hg with hg
  subst hg
  refine ⟨fun h=>⟨Qvq a.Slots t hm.2.2.1 h2 hb,w,QhE a.Chain _ h3 h⟩,rfl,rfl⟩
 | false =>
  rw [hb] at hg
  simp only [cond_false] at hg
  injection hg with hg
  subst hg
  exact ⟨fun h=>(by cases h),rfl,rfl⟩
theorem Qw7 (a : House) (f t c : Int) {r : House × Bool} (hr : JA a f t c = some r) : r.1.Slots = a.Slots ∧ r.1.Chain = a.Chain ∧ r.1.Finds = a.Finds ∧ r.1.Now = a.Now ∧ (r.2 = true → r.1.Book = a.Book ++ (if c = 0 then [] else [⟨f,t,c,a.Now⟩])):=by
 unfold JA at hr
 by_cases h0 : c = 0
 ·rw [decide_eq_true h0] at hr
  injection hr with hr
  subst hr
  exact ⟨rfl,rfl,rfl,rfl,fun _=>by rw [if_pos h0,List.append_nil]⟩
 ·rw [decide_eq_false h0] at hr
  obtain ⟨q,hq,hr⟩:=Option.bind_eq_some_iff.1 (show ((J7 a.Book (⟨f,t,c,a.Now⟩ : Entry)).bind fun _=>_) = some r from hr)
  injection hr with hr
  subst hr
  refine ⟨rfl,rfl,rfl,rfl,fun hd=>?_⟩
  rw [if_neg h0]
  unfold J7 at hq
  obtain ⟨_,hq⟩:=VK hq
  obtain ⟨_,hq⟩:=VK hq
  obtain ⟨b,_,hq⟩:=Option.bind_eq_some_iff.1 hq
  cases b with
  | false=>obtain ⟨_,h⟩:=VK (show (nd (rm (0 + a.Book.length) 32) <| some (a.Book,false)) = some q from hq); injection h with h; subst h; cases hd
  | true=>injection hq with hq; rw [← hq]
end Go.Proofs.YtonidbheohhgdaaGreat
