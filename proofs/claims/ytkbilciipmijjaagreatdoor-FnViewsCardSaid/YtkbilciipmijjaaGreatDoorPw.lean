/- Words for the typed functions: bounds, loops, outcomes. No condition. -/
import GoSem.Core.View
import Derived.Lib.SlicesCompact
namespace Go.Proofs.YtkbilciipmijjaaGreatDoor
open Go
set_option linter.unusedVariables false

/-- A dummy by which an argument counts as fixed for simp: it is not looked into. -/
abbrev Hk {α : Sort _} (_ : α) : Type := Unit
section
variable {α β γ σ ρ : Type}
def need (b : Bool) (q : Option β) (_ : Hk q) : Option β := cond b q none
/-- What is looked at before going on: a bound, a room. -/
abbrev nd (b : Bool) (q : Option β) : Option β := need b q ()
/-- An index within a list's bounds. -/
def inb (l : List α) (i : Int) : Bool := decide (0 ≤ i) && decide (i < l.length)
/-- The element at a place (read behind a look at the bounds). -/
def gt [Inhabited α] (l : List α) (i : Int) : α := l.getD i.toNat default
def ln (r : List α) : Int := r.length
def w64 (n : Int) : Int := (n + 9223372036854775808) % 18446744073709551616 - 9223372036854775808
/-- An index within an array of n. -/
def inbK (n : Nat) (i : Int) : Bool := decide (0 ≤ i) && decide (i < n)
/-- Bounds of a part of n elements, and the part. -/
def slB (l h n : Int) : Bool := decide (0 ≤ l) && (decide (l ≤ h) && decide (h ≤ n))
def cut (xs : List α) (l h : Int) : List α := (xs.take h.toNat).drop l.toNat
/-- Two strings, one behind the other. -/
def scat (x y : List UInt8) : List UInt8 := x ++ y
def sfit (x y : List UInt8) : Bool := decide (x.length + y.length ≤ 9223372036854775807)
/-- In order. -/
def sortI (l : List Int) : List Int := l.mergeSort fun x y => decide (x ≤ y)
/-- Runs of equal numbers, each once. -/
def compI (l : List Int) : List Int := Go.Lib.compact l
/-- A slice of l elements of b bytes may be made. -/
def mkB (l : Int) (b : Nat) : Bool := decide (0 ≤ l) && decide (l * b ≤ 140737488355328)
/-- Some put in at a place. -/
def insL (l : List α) (i : Int) (v : List α) : List α := l.take i.toNat ++ (v ++ l.drop i.toNat)
def insB (l : List α) (i : Int) (v : List α) (b : Nat) : Bool := decide (0 ≤ i) && (decide (i ≤ l.length) && (decide (0 < v.length) && decide ((l.length + v.length) * b ≤ 140737488355328)))
/-- What is known of values that come in. -/
def i64 (n : Int) : Prop := -9223372036854775808 ≤ n ∧ n ≤ 9223372036854775807
def inKd (k : IntKind) (n : Int) : Prop := k.min ≤ n ∧ n ≤ k.max
def okStr (x : List UInt8) : Prop := x.length ≤ 9223372036854775807
def okL (ok : α → Prop) (xs : List α) : Prop := xs.length ≤ 9223372036854775807 ∧ ∀ x ∈ xs, ok x
/-- Room for n elements of b bytes. -/
def rm (n b : Nat) : Bool := decide (n * b ≤ 140737488355328)
@[congr] theorem need_congr {b b' : Bool} {q q' : Option β} {l : Hk q} (hb : b = b') (hq : b' = true → q = q') : need b q l = need b' q' () := by
  subst hb; cases b with
  | false => rfl
  | true => exact hq rfl
theorem need_true (q : Option β) (l) : need true q l = q := _root_.id rfl
theorem need_false (q : Option β) (l) : need false q l = none := _root_.id rfl
theorem inb_iff {xs : List α} {i : Int} : inb xs i = true ↔ 0 ≤ i ∧ i < xs.length := by simp [inb]
theorem w64_in {n : Int} (h0 : -9223372036854775808 ≤ n) (h1 : n ≤ 9223372036854775807) : w64 n = n := by unfold w64; omega
theorem w64_eq (n : Int) : IntKind.i64.wrap n = w64 n := by
  unfold IntKind.wrap w64
  simp only [show IntKind.i64.bits = 64 from rfl, show IntKind.i64.signed = true from rfl]
  simp
  split <;> omega
/-- A loop's outcome: it returns, or is left. -/
inductive Fl (ρ β : Type) where
  | ret (r : ρ)
  | brk (b : β)
def evO (p : ρ → γ) (q : β → γ) : Fl ρ β → γ
  | .ret r => p r
  | .brk b => q b
theorem evO_r (p : ρ → γ) (q : β → γ) (r) : evO p q (.ret r) = p r := _root_.id rfl
theorem evO_b (p : ρ → γ) (q : β → γ) (r) : evO p q (.brk r) = q r := _root_.id rfl
end
/-! ### loops -/
section
variable {σ ρ : Type}
def itr (step : σ → Option (σ ⊕ ρ)) : Nat → σ → Option ρ
  | 0, _ => none
  | n + 1, s => (step s).bind fun o => match o with | .inl s => itr step n s | .inr r => some r
open Classical in
/-- The loop's outcome, if it comes to an end. -/
noncomputable def run (step : σ → Option (σ ⊕ ρ)) (s : σ) : Option ρ :=
  if h : ∃ r, ∃ n, itr step n s = some r then some h.choose else none
theorem itr_mono (step : σ → Option (σ ⊕ ρ)) : ∀ {n m : Nat} {s : σ} {r : ρ}, itr step n s = some r → n ≤ m → itr step m s = some r
  | 0, _, _, _, h, _ => by cases h
  | n + 1, 0, _, _, _, h => by omega
  | n + 1, m + 1, s, r, h, hm => by
    simp only [itr] at h ⊢
    obtain ⟨o, h1, h2⟩ := Option.bind_eq_some_iff.1 h
    rw [h1]; simp only [Option.bind_some]
    cases o with
    | inl s' => exact itr_mono step h2 (by omega)
    | inr r' => exact h2
theorem run_some {step : σ → Option (σ ⊕ ρ)} {s : σ} {r : ρ} : run step s = some r ↔ ∃ n, itr step n s = some r := by
  unfold run
  constructor
  · intro h
    split at h
    · rename_i hx
      injection h with h
      subst h
      exact hx.choose_spec
    · cases h
  · rintro ⟨n, hn⟩
    have hx : ∃ r, ∃ n, itr step n s = some r := ⟨r, n, hn⟩
    rw [dif_pos hx]
    obtain ⟨m, hm⟩ := hx.choose_spec
    have h1 := itr_mono step hm (Nat.le_max_left m n)
    have h2 := itr_mono step hn (Nat.le_max_right m n)
    rw [h1] at h2; injection h2 with h2; rw [h2]
theorem run_eq (step : σ → Option (σ ⊕ ρ)) (s : σ) : run step s = (step s).bind fun o => match o with | .inl s => run step s | .inr r => some r := by
  apply Option.ext
  intro r
  rw [run_some]
  constructor
  · rintro ⟨n, hn⟩
    cases n with
    | zero => cases hn
    | succ n =>
      simp only [itr] at hn
      obtain ⟨o, h1, h2⟩ := Option.bind_eq_some_iff.1 hn
      refine Option.bind_eq_some_iff.2 ⟨o, h1, ?_⟩
      cases o with
      | inl s' => exact run_some.2 ⟨n, h2⟩
      | inr r' => exact h2
  · intro h
    obtain ⟨o, h1, h2⟩ := Option.bind_eq_some_iff.1 h
    cases o with
    | inl s' =>
      obtain ⟨n, hn⟩ := run_some.1 h2
      exact ⟨n + 1, by simp only [itr, h1, Option.bind_some]; exact hn⟩
    | inr r' => exact ⟨1, by simp only [itr, h1, Option.bind_some]; exact h2⟩
theorem itr_map {σ' ρ' : Type} {step : σ → Option (σ ⊕ ρ)} {step' : σ' → Option (σ' ⊕ ρ')} {E : σ' → σ} {O : ρ' → ρ} (h : ∀ s, step (E s) = (step' s).map (Sum.map E O)) : ∀ (n : Nat) (s : σ'), itr step n (E s) = (itr step' n s).map O
  | 0, _ => rfl
  | n + 1, s => by
    simp only [itr, h]
    cases h1 : step' s with
    | none => rfl
    | some o =>
      cases o with
      | inl s' => simp only [Option.map_some, Option.bind_some, Sum.map_inl]; exact itr_map h n s'
      | inr r => rfl
/-- A loop of the machine is the loop that is typed. -/
theorem run_map {σ' ρ' : Type} {step : σ → Option (σ ⊕ ρ)} {step' : σ' → Option (σ' ⊕ ρ')} (E : σ' → σ) (O : ρ' → ρ) (h : ∀ s, step (E s) = (step' s).map (Sum.map E O)) (s : σ') : run step (E s) = (run step' s).map O := by
  apply Option.ext
  intro r
  rw [run_some]
  constructor
  · rintro ⟨n, hn⟩
    rw [itr_map h] at hn
    obtain ⟨r', h1, h2⟩ := Option.map_eq_some_iff.1 hn
    exact Option.map_eq_some_iff.2 ⟨r', run_some.2 ⟨n, h1⟩, h2⟩
  · intro hr
    obtain ⟨r', h1, h2⟩ := Option.map_eq_some_iff.1 hr
    obtain ⟨n, hn⟩ := run_some.1 h1
    exact ⟨n, by rw [itr_map h, hn]; exact congrArg some h2⟩
theorem aI {a b : Prop} (x : a) (y : b) : a ∧ b := ⟨x, y⟩
theorem run_map0 {σ ρ ρ' : Type} {step : σ → Option (σ ⊕ ρ)} {step' : Unit → Option (Unit ⊕ ρ')} {U : σ} {O : ρ' → ρ} (h : step U = (step' ()).map (Sum.map (fun _ => U) O)) : run step U = (run step' ()).map O := run_map (fun _ => U) O (fun _ => h) ()
theorem run_map1 {A σ ρ ρ' : Type} {step : σ → Option (σ ⊕ ρ)} {step' : A → Option ((A) ⊕ ρ')} {U : A → σ} {O : ρ' → ρ} (a : A) (hh : ∀ a, step (U a) = (step' a).map (Sum.map (fun z => U z) O)) : run step (U a) = (run step' a).map O := run_map (fun z => U z) O (fun a => hh a) a
theorem run_map2 {A B σ ρ ρ' : Type} {step : σ → Option (σ ⊕ ρ)} {step' : A × B → Option ((A × B) ⊕ ρ')} {U : A → B → σ} {O : ρ' → ρ} (a : A) (b : B) (hh : ∀ a b, step (U a b) = (step' (a, b)).map (Sum.map (fun z => U z.1 z.2) O)) : run step (U a b) = (run step' (a, b)).map O := run_map (fun z => U z.1 z.2) O (fun ⟨a, b⟩ => hh a b) (a, b)
theorem run_map3 {A B C σ ρ ρ' : Type} {step : σ → Option (σ ⊕ ρ)} {step' : A × B × C → Option ((A × B × C) ⊕ ρ')} {U : A → B → C → σ} {O : ρ' → ρ} (a : A) (b : B) (c : C) (hh : ∀ a b c, step (U a b c) = (step' (a, b, c)).map (Sum.map (fun z => U z.1 z.2.1 z.2.2) O)) : run step (U a b c) = (run step' (a, b, c)).map O := run_map (fun z => U z.1 z.2.1 z.2.2) O (fun ⟨a, b, c⟩ => hh a b c) (a, b, c)
theorem run_map4 {A B C D σ ρ ρ' : Type} {step : σ → Option (σ ⊕ ρ)} {step' : A × B × C × D → Option ((A × B × C × D) ⊕ ρ')} {U : A → B → C → D → σ} {O : ρ' → ρ} (a : A) (b : B) (c : C) (d : D) (hh : ∀ a b c d, step (U a b c d) = (step' (a, b, c, d)).map (Sum.map (fun z => U z.1 z.2.1 z.2.2.1 z.2.2.2) O)) : run step (U a b c d) = (run step' (a, b, c, d)).map O := run_map (fun z => U z.1 z.2.1 z.2.2.1 z.2.2.2) O (fun ⟨a, b, c, d⟩ => hh a b c d) (a, b, c, d)
theorem run_map5 {A B C D E σ ρ ρ' : Type} {step : σ → Option (σ ⊕ ρ)} {step' : A × B × C × D × E → Option ((A × B × C × D × E) ⊕ ρ')} {U : A → B → C → D → E → σ} {O : ρ' → ρ} (a : A) (b : B) (c : C) (d : D) (e : E) (hh : ∀ a b c d e, step (U a b c d e) = (step' (a, b, c, d, e)).map (Sum.map (fun z => U z.1 z.2.1 z.2.2.1 z.2.2.2.1 z.2.2.2.2) O)) : run step (U a b c d e) = (run step' (a, b, c, d, e)).map O := run_map (fun z => U z.1 z.2.1 z.2.2.1 z.2.2.2.1 z.2.2.2.2) O (fun ⟨a, b, c, d, e⟩ => hh a b c d e) (a, b, c, d, e)
theorem run_map6 {A B C D E F σ ρ ρ' : Type} {step : σ → Option (σ ⊕ ρ)} {step' : A × B × C × D × E × F → Option ((A × B × C × D × E × F) ⊕ ρ')} {U : A → B → C → D → E → F → σ} {O : ρ' → ρ} (a : A) (b : B) (c : C) (d : D) (e : E) (f : F) (hh : ∀ a b c d e f, step (U a b c d e f) = (step' (a, b, c, d, e, f)).map (Sum.map (fun z => U z.1 z.2.1 z.2.2.1 z.2.2.2.1 z.2.2.2.2.1 z.2.2.2.2.2) O)) : run step (U a b c d e f) = (run step' (a, b, c, d, e, f)).map O := run_map (fun z => U z.1 z.2.1 z.2.2.1 z.2.2.2.1 z.2.2.2.2.1 z.2.2.2.2.2) O (fun ⟨a, b, c, d, e, f⟩ => hh a b c d e f) (a, b, c, d, e, f)
theorem run_map7 {A B C D E F G σ ρ ρ' : Type} {step : σ → Option (σ ⊕ ρ)} {step' : A × B × C × D × E × F × G → Option ((A × B × C × D × E × F × G) ⊕ ρ')} {U : A → B → C → D → E → F → G → σ} {O : ρ' → ρ} (a : A) (b : B) (c : C) (d : D) (e : E) (f : F) (g : G) (hh : ∀ a b c d e f g, step (U a b c d e f g) = (step' (a, b, c, d, e, f, g)).map (Sum.map (fun z => U z.1 z.2.1 z.2.2.1 z.2.2.2.1 z.2.2.2.2.1 z.2.2.2.2.2.1 z.2.2.2.2.2.2) O)) : run step (U a b c d e f g) = (run step' (a, b, c, d, e, f, g)).map O := run_map (fun z => U z.1 z.2.1 z.2.2.1 z.2.2.2.1 z.2.2.2.2.1 z.2.2.2.2.2.1 z.2.2.2.2.2.2) O (fun ⟨a, b, c, d, e, f, g⟩ => hh a b c d e f g) (a, b, c, d, e, f, g)
theorem run_map8 {A B C D E F G H σ ρ ρ' : Type} {step : σ → Option (σ ⊕ ρ)} {step' : A × B × C × D × E × F × G × H → Option ((A × B × C × D × E × F × G × H) ⊕ ρ')} {U : A → B → C → D → E → F → G → H → σ} {O : ρ' → ρ} (a : A) (b : B) (c : C) (d : D) (e : E) (f : F) (g : G) (h : H) (hh : ∀ a b c d e f g h, step (U a b c d e f g h) = (step' (a, b, c, d, e, f, g, h)).map (Sum.map (fun z => U z.1 z.2.1 z.2.2.1 z.2.2.2.1 z.2.2.2.2.1 z.2.2.2.2.2.1 z.2.2.2.2.2.2.1 z.2.2.2.2.2.2.2) O)) : run step (U a b c d e f g h) = (run step' (a, b, c, d, e, f, g, h)).map O := run_map (fun z => U z.1 z.2.1 z.2.2.1 z.2.2.2.1 z.2.2.2.2.1 z.2.2.2.2.2.1 z.2.2.2.2.2.2.1 z.2.2.2.2.2.2.2) O (fun ⟨a, b, c, d, e, f, g, h⟩ => hh a b c d e f g h) (a, b, c, d, e, f, g, h)
theorem run_map9 {A B C D E F G H I σ ρ ρ' : Type} {step : σ → Option (σ ⊕ ρ)} {step' : A × B × C × D × E × F × G × H × I → Option ((A × B × C × D × E × F × G × H × I) ⊕ ρ')} {U : A → B → C → D → E → F → G → H → I → σ} {O : ρ' → ρ} (a : A) (b : B) (c : C) (d : D) (e : E) (f : F) (g : G) (h : H) (i : I) (hh : ∀ a b c d e f g h i, step (U a b c d e f g h i) = (step' (a, b, c, d, e, f, g, h, i)).map (Sum.map (fun z => U z.1 z.2.1 z.2.2.1 z.2.2.2.1 z.2.2.2.2.1 z.2.2.2.2.2.1 z.2.2.2.2.2.2.1 z.2.2.2.2.2.2.2.1 z.2.2.2.2.2.2.2.2) O)) : run step (U a b c d e f g h i) = (run step' (a, b, c, d, e, f, g, h, i)).map O := run_map (fun z => U z.1 z.2.1 z.2.2.1 z.2.2.2.1 z.2.2.2.2.1 z.2.2.2.2.2.1 z.2.2.2.2.2.2.1 z.2.2.2.2.2.2.2.1 z.2.2.2.2.2.2.2.2) O (fun ⟨a, b, c, d, e, f, g, h, i⟩ => hh a b c d e f g h i) (a, b, c, d, e, f, g, h, i)
end

def shI (op : BinOp) (c : IntKind) (a b : Int) : Int := match op with
  | .shl => c.wrap (a * 2 ^ (min b.toNat c.bits))
  | _ => a.fdiv (2 ^ (min b.toNat c.bits))
/-- Numbers' bits. -/
def bitI (op : BinOp) (c : IntKind) (a b : Int) : Int := match op with
  | .and => c.wrap (((a % 2 ^ c.bits).toNat &&& (b % 2 ^ c.bits).toNat : Nat) : Int)
  | .or => c.wrap (((a % 2 ^ c.bits).toNat ||| (b % 2 ^ c.bits).toNat : Nat) : Int)
  | _ => c.wrap (((a % 2 ^ c.bits).toNat ^^^ (b % 2 ^ c.bits).toNat : Nat) : Int)
end Go.Proofs.YtkbilciipmijjaaGreatDoor
