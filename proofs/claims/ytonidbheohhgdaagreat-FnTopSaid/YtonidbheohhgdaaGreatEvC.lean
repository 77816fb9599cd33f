import Derived.Test.YtonidbheohhgdaaGreatEvA
namespace Go.Proofs.YtonidbheohhgdaaGreat.Am
open Go
set_option linter.unusedVariables false
set_option linter.unusedSimpArgs false
section
variable {β : Type} {r : β}
theorem Vm {b : Bool} {q : Option β} {l} (h : Vg b q l = some r) : b = true ∧ q = some r:=by
 cases b with
 | false=>cases h
 | true=>exact ⟨rfl,h⟩
theorem QuX {b : Bool} {p q : Option β} (h : cond b p q = some r) : (b = true → p = some r) ∧ (b = false → q = some r):=by
 cases b with
 | false=>exact ⟨fun h'=>by (cases h'),fun _=>h⟩
 | true=>exact ⟨fun _=>h,fun h'=>by cases h'⟩
theorem XK {p : Prop} [Decidable p] {q : Option β} (h : (if p then q else none) = some r) : p ∧ q = some r:=by
 by_cases hp : p
 ·rw [if_pos hp] at h; exact ⟨hp,h⟩
 ·rw [if_neg hp] at h; cases h
theorem Z0 {p : Prop} [Decidable p] {q : Prop} (hp : p) (hq : q) : (if p then q else False):=by rw [if_pos hp]; exact hq
theorem QCk (a b : Int) : (a == b) = decide (a = b):=by by_cases h : a = b <;> simp [h]
theorem Qzk (a b : Int) : (a != b) = !decide (a = b):=by by_cases h : a = b <;> simp [h]
theorem QA3 (a b : List UInt8) : (a == b) = decide (a = b):=by by_cases h : a = b <;> simp [h]
theorem QBN (a b : List UInt8) : (a != b) = !decide (a = b):=by by_cases h : a = b <;> simp [h]
theorem Qs5 {te : Option (List CK)} {xs ys : List AV} {k : Bool → Option β} {l} (h : QzF te xs ys k l = some r) : Qow te xs ys (fun v=>k v = some r) ():=by
 unfold QzF at h
 unfold Qow
 split at h
 ·split at h
  ·rename_i hb; simp only [hb]; exact h
  ·cases h
 ·cases h
theorem QAD {t : TI} {x : AV} {lo hi : Option AV} {k : AV → Option β} {l} (h : Qhm t x lo hi k l = some r) : Qql t x lo hi (fun v=>k v = some r) ():=by
 unfold Qhm at h
 unfold Qql
 split at h
 ·obtain ⟨hm,h⟩:=XK h
  simp only
  rw [if_pos hm]
  split at h
  ·rename_i h1 h2
   simp only [h1,h2]
   obtain ⟨h3,h4⟩:=Vm h
   exact ⟨by simpa [slB] using h3,h4⟩
  ·cases h
 ·simp only
  split at h
  ·rename_i h1 h2
   simp only [h1,h2]
   obtain ⟨h3,h4⟩:=Vm h
   exact ⟨by simpa [slB] using h3,h4⟩
  ·cases h
 ·cases h
theorem QB1 {t : TI} {x i : AV} {k : AV → Option β} {l} (h : Qxl t x i k l = some r) : QpE t x i (fun v=>k v = some r) ():=by
 unfold Qxl at h
 unfold QpE
 split at h
 ·obtain ⟨h3,h4⟩:=Vm h
  exact ⟨QcV.1 h3,h4⟩
 ·cases h
theorem QAv {te : Option (List CK)} {op : BinOp} {x y : AV} {k : AV → Option β} {l} (h : JZ te op x y k l = some r) : Qpt te op x y (fun v=>k v = some r) ():=by
 unfold JZ at h
 unfold Qpt
 split at h
 ·simp only
  split at h
  ·exact Qs5 h
  ·exact Qs5 h
  ·cases h
 ·simp only
  split at h
  ·exact h
  ·exact h
  ·cases h
 ·simp only
  split at h
  ·rename_i hs
   rw [if_pos hs]
   obtain ⟨h1,h2⟩:=Vm h
   exact ⟨by simpa using h1,h2⟩
  rename_i hs
  rw [if_neg hs]
  obtain ⟨hc,h⟩:=XK h
  rw [if_pos hc]
  split at h <;> simp only <;> first
   | exact h
   | (rw [QCk]; exact h)
   | (rw [Qzk]; exact h)
   | (obtain ⟨h1,h2⟩:=Vm h; exact ⟨by simpa using h1,h2⟩)
   | cases h
 ·simp only
  split at h <;> simp only <;> first
   | (rw [QA3]; exact h)
   | (rw [QBN]; exact h)
   | (obtain ⟨h1,h2⟩:=Vm h; exact ⟨by simpa using h1,h2⟩)
   | cases h
 ·cases h
theorem QGc {op : UnOp} {x : AV} {k : AV → Option β} {l} (h : oun op x k l = some r) : xun op x (fun v=>k v = some r) ():=by
 unfold oun at h
 unfold xun
 split at h
 ·exact h
 ·exact h
 ·cases h
theorem Qxk {c x y : AV} {k : AV → Option β} {l} (h : QmE c x y k l = some r) : Qkx c x y (fun v=>k v = some r) ():=by
 unfold QmE at h
 unfold Qkx
 split at h
 ·rename_i b
  cases b with
  | true=>exact h
  | false=>exact h
 ·cases h
variable {K : KS}
theorem QBc {t : TI} {x : AV} {k : AV → Option β} {l} (h : QpB K t x k l = some r) : QqT K t x (fun v=>k v = some r) ():=by
 unfold QpB at h
 unfold QqT
 split at h
 ·exact h
 ·exact h
 ·split at h
  ·rename_i e he; simp only [he]; exact h
  ·cases h
 ·exact h
 ·exact h
 ·cases h
theorem Qzm {x : AV} {o : Option (Nat × TK)} {k : AV → Option β} {l} (h : QvE K x o k l = some r) : Qqo K x o (fun v=>k v = some r) ():=by
 unfold QvE at h
 unfold Qqo
 split at h
 ·split at h
  ·rename_i e he; simp only [he]; exact h
  ·cases h
 ·exact h
 ·cases h
theorem QzB {t : TI} {x i : AV} {k : AV → Option β} {l} (h : Qpf K t x i k l = some r) : QpA K t x i (fun v=>k v = some r) ():=by
 unfold Qpf at h
 unfold QpA
 split at h
 ·obtain ⟨hm,h⟩:=XK h
  obtain ⟨h1,h2⟩:=Vm h
  exact Z0 hm ⟨QcV.1 h1,h2⟩
 ·split at h
  ·rename_i e he
   obtain ⟨hm,h⟩:=XK h
   simp only [he]
   obtain ⟨h1,h2⟩:=Vm h
   exact Z0 hm ⟨QcV.1 h1,h2⟩
  ·cases h
 ·split at h
  ·rename_i e he
   simp only [he]
   obtain ⟨h1,h2⟩:=Vm h
   exact ⟨by simpa [QuL] using h1,h2⟩
  ·cases h
 ·cases h
theorem Qmf {t : TK} {cs : List AV} {k : AV → Option β} {l} (h : QfK t cs k l = some r) : Qfe t cs (fun v=>k v = some r) ():=by
 unfold QfK at h
 unfold Qfe
 split at h
 ·split at h
  ·exact h
  ·cases h
 ·obtain ⟨hm,h⟩:=XK h
  exact Z0 hm (h)
 ·cases h
theorem Qt9 {cs : List AV} {o : Nat} {t : TK} {v : AV} {ok : AV → Bool} {k : List AV → Option β} {l} (h : Qho cs o t v ok k l = some r) : Qoy cs o t v ok (fun v=>k v = some r) ():=by
 unfold Qho at h
 unfold Qoy
 split at h
 ·obtain ⟨hm,h⟩:=XK h
  exact Z0 hm (h)
 ·obtain ⟨hm,h⟩:=XK h
  exact Z0 hm (h)
 ·cases h
theorem Qkc {t : TK} {p v : AV} {k : KS → Option β} {l} (h : QjR K t p v k l = some r) : Qfs K t p v (fun K=>k K = some r) ():=by
 unfold QjR at h
 unfold Qfs
 split at h
 ·split at h
  ·rename_i cs hj
   simp only [hj]
   obtain ⟨hm,h⟩:=XK h
   exact Z0 hm (Qt9 h)
  ·rename_i n rows hj
   simp only [hj]
   obtain ⟨hm,h⟩:=XK h
   exact Z0 hm (Qt9 h)
  ·cases h
 ·cases h
theorem Qr1 {t : TK} {j i o n : Nat} {rows : List (List AV)} {v : AV} {k : KS → Option β} {l} {ns : List Nat} (h : Qic ns K t j i o n rows v k l = some r) : Qew ns K t j i o n rows v (fun K=>k K = some r) ():=by
 unfold Qic at h
 unfold Qew
 obtain ⟨hm,h⟩:=XK h
 rw [if_pos hm]
 split at h
 ·rename_i K1 ds hab
  obtain ⟨hc,h⟩:=XK h
  simp only [hab]
  exact Z0 hc h
 ·cases h
theorem QrP {fl : Bool} {t : TK} {p v : AV} {k : KS → Option β} {l} {ns : List Nat} (h : Qij fl ns K t p v k l = some r) : ZY fl ns K t p v (fun K=>k K = some r) ():=by
 unfold Qij at h
 unfold ZY
 split at h
 ·split at h
  ·rename_i n rows hj
   simp only [hj]
   split at h
   ·rename_i hc; rw [if_pos hc]; exact Qkc h
   ·rename_i hc
    rw [if_neg hc]
    obtain ⟨hf,h⟩:=XK h
    exact Z0 hf (Qr1 h)
  ·rename_i hj
   cases hk : kg K _ with
   | none=>simp only [hk]; exact Qkc h
   | some e =>
    cases e with
    | box cs=>simp only [hk]; exact Qkc h
    | lst n rows=>exact absurd hk (hj n rows)
 ·cases h
theorem QAC {v : AV} {k : AV → KS → Option β} {l} (h : Qrr K v k l = some r) : QuO K v (fun v K=>k v K = some r) ():=by
 unfold Qrr at h
 unfold QuO
 split at h
 ·obtain ⟨hm,h⟩:=XK h
  exact Z0 hm h
 ·rename_i hn
  obtain ⟨hm,h⟩:=XK h
  cases v with
  | agg cs=>exact absurd rfl (hn cs)
  | _=>exact Z0 hm h
theorem Qu7 {z : Option (List AV)} {k : AV → KS → Option β} {l} (h : QlL K z k l = some r) : QjD K z (fun v K=>k v K = some r) ():=by
 unfold QlL at h
 unfold QjD
 split at h
 ·exact h
 ·cases h
theorem QuQ {t : TB} {parts : List (Nat × AV)} {k : AV → Option β} {l} (h : QjU K t parts k l = some r) : Qga K t parts (fun v=>k v = some r) ():=by
 unfold QjU at h
 unfold Qga
 split at h
 ·split at h
  ·rename_i cs hc; simp only [hc]; exact h
  ·cases h
 ·split at h
  ·rename_i cs hc; simp only [hc]; exact h
  ·cases h
 ·cases h
theorem Qsa {t : Option (TypeId × Nat × List AV)} {len : Nat} {parts : List (Nat × AV)} {k : AV → KS → Option β} {l} {fl : Bool} {ns : List Nat} (h : QgX fl ns K t len parts k l = some r) : (fl = true → Qq2 K t len parts = true) ∧ Qcj ns K t len parts (fun v K=>k v K = some r) ():=by
 unfold QgX at h
 unfold Qcj Qq2
 cases t with
 | none=>cases h
 | some q =>
  obtain ⟨e,m,z⟩:=q
  simp only at h ⊢
  by_cases h0 : len = 0
  ·rw [if_pos h0] at h ⊢
   subst h0
   cases parts with
   | nil=>exact ⟨fun _=>by simp [QaO,Qdw,noS],h⟩
   | cons _ _=>cases h
  ·rw [if_neg h0] at h ⊢
   obtain ⟨hm,h⟩:=XK h
   rw [if_pos hm]
   cases hx : QaO K (fun i=>some (i * m,m)) (Qdw len z) parts with
   | none=>rw [hx] at h; cases h
   | some cs =>
    rw [hx] at h
    simp only at h ⊢
    cases hf : yB fl cs with
    | false=>rw [hf] at h; cases h
    | true =>
     rw [hf] at h
     simp only [cond_true] at h
     refine ⟨fun hfl=>?_,?_⟩
     ·rw [hfl] at hf; exact hf
     ·cases ha : VF K cs with
      | none=>rw [ha] at h; cases h
      | some q =>
       obtain ⟨K1,ds⟩:=q
       rw [ha] at h
       exact h
theorem QAx {v : AV} {i : Nat} {k : AV → Option β} {l} (h : Qxq v i k l = some r) : Qo7 v i (fun v=>k v = some r) ():=by
 unfold Qxq at h
 unfold Qo7
 split at h
 ·split at h
  ·rename_i c hc; simp only [hc]; exact h
  ·cases h
 ·cases h
theorem QBV {o : Option (Nat × TK)} {x : AV} {k : AV → Option β} {l} (h : Qxd o x k l = some r) : QpP o x (fun v=>k v = some r) ():=by
 unfold Qxd at h
 unfold QpP QqG
 split at h
 ·exact Qmf h
 ·cases h
theorem Qr8 {t : Option (TypeId × Nat × List AV)} {b : Option Nat} {s x : AV} {k : AV → KS → Option β} {l} (h : Qk9 K t b s x k l = some r) : QdT K t b s x (fun v K=>k v K = some r) ():=by
 unfold Qk9 at h
 unfold QdT
 split at h
 ·simp only
  split at h
  ·rename_i rows K1 hs
   simp only [hs]
   split at h
   ·split at h
    ·rename_i n rows hj
     simp only [hj]
     obtain ⟨hm,h⟩:=XK h
     obtain ⟨h1,h2⟩:=Vm h
     exact Z0 hm ⟨by simpa using h1,h2⟩
    ·cases h
   ·obtain ⟨h1,h2⟩:=Vm h
    exact ⟨by simpa using h1,h2⟩
   ·cases h
  ·cases h
 ·cases h
theorem QAh {x y : AV} {k : AV → Option β} {l} (h : QvZ x y k l = some r) : Qqx x y (fun v=>k v = some r) ():=by
 unfold QvZ at h
 unfold Qqx
 split at h
 ·exact h
 ·cases h
theorem QBK {x y : AV} {k : AV → Option β} {l} (h : Qyu x y k l = some r) : Qqu x y (fun v=>k v = some r) ():=by
 unfold Qyu at h
 unfold Qqu
 split at h
 ·exact h
 ·cases h
theorem QwT {t : TI} {x : AV} {k : AV → Option β} {l} (h : QqS t x k l = some r) : Qkv t x (fun v=>k v = some r) ():=by
 unfold QqS at h
 unfold Qkv
 split at h
 ·exact h
 ·cases h
theorem QwM {K : KS} {t : TI} {x : AV} {k : AV → Option β} {l} (h : QqU K t x k l = some r) : Qi7 K t x (fun v=>k v = some r) ():=by
 unfold QqU at h
 unfold Qi7
 split at h
 ·split at h
  ·rename_i h1
   split at h
   ·rename_i h2; simp only [h1,h2]; exact h
   ·cases h
  ·cases h
 ·cases h
theorem Qvv {op : BinOp} {x : AV} {k : AV → Option β} {l} (h : Qkb op x k l = some r) : Qgf op x (fun v=>k v = some r) ():=by
 have key : ∀ {b : Bool} {x y : Option β},QkN b x y = some r → (b = true → x = some r) ∧ y = some r:=by
  intro b x y h
  unfold QkN at h
  cases b with
  | false=>exact ⟨fun h=>(by cases h),h⟩
  | true =>
   simp only [cond_true,oeq] at h
   split at h
   ·rename_i he; exact ⟨fun _=>h,by rw [← he]; exact h⟩
   ·cases h
 unfold Qkb at h
 unfold Qgf
 split at h
 ·exact key h
 ·exact key h
 ·cases h
theorem QyO {t : Option (TypeId × Nat × List AV)} {b : Option Nat} {x c : AV} {k : AV → KS → Option β} {l} {ns : List Nat} (h : Qs6 ns K t b x c k l = some r) : Qnn ns K t b x c (fun v K=>k v K = some r) ():=by
 unfold Qs6 at h
 unfold Qnn
 split at h
 ·simp only
  obtain ⟨h1,h2⟩:=Vm h
  obtain ⟨h3,h4⟩:=Vm h2
  rw [if_pos (by simpa using h1)]
  exact ⟨by simpa [mkB] using h3,h4⟩
 ·cases h
def SortP [Wd] (P : Program) (g : FuncId) : Prop:=∀ (K : KS) (j : Nat) (rows : List (List AV)) (xs : List Int),kg K j = some (.lst 1 rows) → QcS rows = some xs → xs.length < 4611686018427387904 →
 AC P g K [.sl j] (fun x K'=>x = .tup [] ∧ K' = K.set j (some (.lst 1 ((Xi xs).map cI))))
def CompP [Wd] (P : Program) (g : FuncId) : Prop:=∀ (K : KS) (j : Nat) (rows : List (List AV)) (xs : List Int),kg K j = some (.lst 1 rows) → QcS rows = some xs → xs.length < 4611686018427387904 →
 AC P g K [.sl j] (fun x K'=>x = .sl K.length ∧ K' = K.set j none ++ [some (.lst 1 ((Xv xs).map cI))])
theorem Qe0 : ∀ {l : List Nat},ndB l = true → l.Nodup
 | [],_=>by simp
 | x :: l,h=>by
  simp only [ndB,Bool.and_eq_true,Bool.not_eq_true'] at h
  rw [List.nodup_cons]
  exact ⟨by simpa using h.1,Qe0 h.2⟩
def ArP [Wd] (P : Program) (D : Orc) : Prop:=∀ g K args x,D.a g K args = some x → AC P g K args (fun v K'=>(v = x.1 ∧ K'.take x.2.length = x.2) ∧ rok x.2.length x.1 = true ∧ (∀ e ∈ x.2,clE e = true) ∧ K.length ≤ x.2.length)
def MrP [Wd] (P : Program) (D : Orc) : Prop:=∀ g K args x,D.m g K args = some x → MC P g K args (· = x)
def Qgy [Wd] (P : Program) (D : Orc) : Prop:=(∀ g args x,D.p g args = some x → PC P g args (· = x)) ∧ (∀ g,D.s g = true → SortP P g) ∧ (∀ g,D.q g = true → CompP P g) ∧ ArP P D ∧ MrP P D
theorem Qsu : ∀ {K : KS},QrG K = true → ∀ e ∈ K,Qhz e = true
 | [],_,e,he=>by cases he
 | some (.lst n rows) :: K,h,e,he=>by
  rcases List.mem_cons.1 he with rfl | he
  ·rfl
  ·exact Qsu (K:=K) h e he
 | none :: K,h,e,he=>by cases h
 | some (.box cs) :: K,h,e,he=>by cases h
theorem Qi6 : ∀ {K : KS},Qh2 K = true → ∀ e ∈ K,clE e = true
 | [],_,e,he=>by cases he
 | some (.lst n rows) :: K,h,e,he=>by
  rcases List.mem_cons.1 he with rfl | he
  ·rfl
  ·exact Qi6 (K:=K) h e he
 | none :: K,h,e,he=>by cases h
 | some (.box cs) :: K,h,e,he=>by
  simp only [Qh2,Bool.and_eq_true] at h
  rcases List.mem_cons.1 he with rfl | he
  ·exact h.1
  ·exact Qi6 (K:=K) h.2 e he
theorem QA0 {s : Operand} (hs : QbZ s = true) (f : Fr) : Qfb (ev f s) = false:=by
 cases s with
 | const v =>
  cases v <;> first | (cases hs; done) | skip
  rename_i a l c
  cases a <;> cases l <;> cases c <;> first | rfl | cases hs
 | _=>cases hs
theorem Qmx [Wd] {P : Program} {D : Orc} (hD : Qgy P D) {o : Op} {f : Fr} {k : AV → KS → Option β} {l} (h : oop P D o f K k l = some r) : Qct P o f K (fun v K=>k v K = some r) ():=by
 unfold oop at h
 unfold Qct
 split at h
 case h_21 x args _ =>
  simp only
  unfold Qrj at h
  unfold QoQ
  split at h
  ·rename_i g caps hg
   unfold QfO Jz at h
   obtain ⟨x,hx,h⟩:=Option.bind_eq_some_iff.1 h
   simp only [hg]
   exact ⟨_,(hD.1 _ _ _ hx).fix,fun y hy=>by rw [hy]; exact h⟩
  ·cases h
 all_goals (simp only; unfold xop; simp only)
 case h_1=>exact h
 case h_2=>exact h
 case h_3=>exact Qxk h
 case h_4=>exact Qu7 h
 case h_5=>exact QAC h
 case h_6=>exact QuQ h
 case h_7=>exact Qsa h
 case h_8=>exact Qmf h
 case h_9=>exact QrP h
 case h_10 =>
  split at h
  ·rename_i hn
   obtain ⟨hm,h⟩:=XK h
   rw [if_pos hn]
   exact Z0 hm (Qvv h)
  ·rename_i hn
   rw [if_neg hn]
   exact QAv h
 case h_11=>exact QGc h
 case h_12 =>
  split at h
  ·rename_i hb; rw [if_pos hb]; exact QwM h
  ·rename_i hb
   obtain ⟨hm,h⟩:=XK h
   rw [if_neg hb]
   exact Z0 hm (QwT h)
 case h_13 =>
  obtain ⟨hm,h⟩:=XK h
  exact Z0 hm (h)
 case h_14=>exact Qzm h
 case h_15=>exact QzB h
 case h_16=>exact QAx h
 case h_17 =>
  split at h
  ·rename_i h1 h2; simp only [h1,h2]; exact QBc h
  ·cases h
 case h_18 =>
  split at h
  ·rename_i h1 h2
   obtain ⟨⟨hm,hn⟩,h⟩:=XK h
   simp only [h1,h2]
   refine ⟨fun hc=>?_,Z0 hm (Qr8 h)⟩
   rename_i s x _ _ _ _
   have hs : QbZ s = true:=hc
   rw [hs] at hn
   have hs2 : Qfb (ev f s) = false:=QA0 hs f
   have hx2 : Qfb (ev f x) = false:=hn
   simp [hs2,hx2]
  ·cases h
 case h_19 =>
  split at h
  ·rename_i h1; simp only [h1]; exact QAh h
  ·cases h
 case h_20 =>
  split at h
  ·rename_i h1; simp only [h1]; exact QBK h
  ·cases h
 case h_22=>exact QyO h
 case h_23=>exact QAD h
 case h_24=>exact QB1 h
 case h_25 =>
  unfold Qxx at h
  unfold QBg
  split at h
  ·rename_i hv
   simp only [hv]
   unfold QsZ at h
   split at h
   ·rename_i hj; simp only [hj]; exact h
   ·cases h
  ·rename_i hv
   simp only [hv]; exact h
  ·cases h
 case h_26=>exact QBV h
 case h_27=>cases h
theorem QtD [Wd] {P : Program} {D : Orc} (hD : Qgy P D) {o : Op} {f : Fr} {K : KS} {k : AV → KS → Option β} {k' : AV → KS → Prop} {l} (h : QcF P D o f K k l = some r) (hk : ∀ v K,k v K = some r → k' v K) : xop P o f K k' ():=by
 unfold QcF at h
 split at h
 ·rename_i x args ts _
  show QoQ (ev f x) (fun g caps=>Qkq P g K (args.toList.map (ev f) ++ caps) k' ()) ()
  unfold Qrj at h
  unfold QoQ
  split at h
  ·rename_i g caps hg
   simp only [hg]
   simp only at h
   cases hs : D.s g with
   | false =>
    rw [hs] at h
    have h : cond (D.q g) (QmT K (args.toList.map (ev f) ++ caps) k ()) (cond (D.w g) (Qke D g K (args.toList.map (ev f) ++ caps) k ()) (cond (D.v g) (Qh1 D g K (args.toList.map (ev f) ++ caps) k ()) (QfO D g K (args.toList.map (ev f) ++ caps) k ()))) = some r:=h
    cases hq : D.q g with
    | false =>
     rw [hq] at h
     have h : cond (D.w g) (Qke D g K (args.toList.map (ev f) ++ caps) k ()) (cond (D.v g) (Qh1 D g K (args.toList.map (ev f) ++ caps) k ()) (QfO D g K (args.toList.map (ev f) ++ caps) k ())) = some r:=h
     cases hw : D.w g with
     | false =>
      rw [hw] at h
      have h : cond (D.v g) (Qh1 D g K (args.toList.map (ev f) ++ caps) k ()) (QfO D g K (args.toList.map (ev f) ++ caps) k ()) = some r:=h
      cases hv : D.v g with
      | false =>
       rw [hv] at h
       have h' : QfO D g K (args.toList.map (ev f) ++ caps) k () = some r:=h
       unfold QfO Jz at h'
       obtain ⟨x,hx,h'⟩:=Option.bind_eq_some_iff.1 h'
       exact .inl ⟨_,(hD.1 _ _ _ hx).fix,fun y hy=>by rw [hy]; exact hk _ _ h'⟩
      | true =>
       rw [hv] at h
       have h' : Qh1 D g K (args.toList.map (ev f) ++ caps) k () = some r:=h
       unfold Qh1 Qk3 at h'
       obtain ⟨h1,h2⟩:=Vm h'
       unfold Qk7 at h2
       split at h2
       ·rename_i cs hcs
        obtain ⟨h3,h4⟩:=Vm h2
        unfold Jz at h4
        obtain ⟨x,hx,h5⟩:=Option.bind_eq_some_iff.1 h4
        have hls : ∀ j ∈ QeE (args.toList.map (ev f) ++ caps),Qhz (kg K j) = true:=fun j hj=>Qsu h3 _ (by unfold Jr; exact List.mem_map_of_mem hj)
        exact .inr ⟨_,MC.sub (Qe0 h1) hls (hD.2.2.2.2 _ _ _ _ hx) hcs,fun v K' ⟨hv,hK⟩=>by rw [hv,hK]; exact hk _ _ h5⟩
       ·cases h2
     | true =>
      rw [hw] at h
      have h' : Qke D g K (args.toList.map (ev f) ++ caps) k () = some r:=h
      unfold Qke Qlf at h'
      obtain ⟨h1,h2⟩:=Vm h'
      unfold Qlh at h2
      split at h2
      ·rename_i cs hcs
       obtain ⟨h3,h4⟩:=Vm h2
       unfold Jz at h4
       obtain ⟨x,hx,h5⟩:=Option.bind_eq_some_iff.1 h4
       have x4:=hD.2.2.2.1 _ _ _ _ hx
       have hlen : (Jr K (QeE (args.toList.map (ev f) ++ caps))).length = (QeE (args.toList.map (ev f) ++ caps)).length:=by simp [Jr]
       rw [hlen] at x4
       have hls : ∀ j ∈ QeE (args.toList.map (ev f) ++ caps),clE (kg K j) = true:=fun j hj=>Qi6 h3 _ (by unfold Jr; exact List.mem_map_of_mem hj)
       exact .inr ⟨_,AC.subB (Qe0 h1) hls x4 hcs,fun v K' ⟨hv,hK⟩=>by rw [hv,hK]; exact hk _ _ h5⟩
      ·cases h2
    | true =>
     rw [hq] at h
     have h' : QmT K (args.toList.map (ev f) ++ caps) k () = some r:=h
     unfold QmT at h'
     split at h'
     ·rename_i j hv
      rw [hv]
      split at h'
      ·rename_i rows hj
       split at h'
       ·rename_i xs hxs
        obtain ⟨h1,h2⟩:=Vm h'
        exact .inr ⟨_,hD.2.2.1 g hq K j rows xs hj hxs (by simpa using h1),fun x K' ⟨hx,hK⟩=>by rw [hx,hK]; exact hk _ _ h2⟩
       ·cases h'
      ·cases h'
     ·cases h'
   | true =>
    rw [hs] at h
    have h' : Qnx K (args.toList.map (ev f) ++ caps) k () = some r:=h
    unfold Qnx at h'
    split at h'
    ·rename_i j hv
     rw [hv]
     split at h'
     ·rename_i rows hj
      split at h'
      ·rename_i xs hxs
       obtain ⟨h1,h2⟩:=Vm h'
       exact .inr ⟨_,hD.2.1 g hs K j rows xs hj hxs (by simpa using h1),fun x K' ⟨hx,hK⟩=>by rw [hx,hK]; exact hk _ _ h2⟩
      ·cases h'
     ·cases h'
    ·cases h'
  ·cases h
 ·exact Qfd (Z1 (Qmx hD h) hk)
theorem Qgx [Wd] {P : Program} {D : Orc} (hD : Qgy P D) {ops : Array Oper} : ∀ (l : List Oper) {f : Fr} {K : KS} {k : Fr → KS → Option β},QfP P D ops l f K k () = some r → Qhi P ops l f K (fun f K=>k f K = some r) ()
 | [],f,K,k,h=>h
 | o :: l,f,K,k,h=>by
  unfold QfP at h
  unfold Qhi
  split at h
  ·rename_i hg
   simp only [hg]
   refine QtD hD h fun v K' h=>?_
   unfold Qe6 at h
   unfold Qcs
   split at h
   ·rename_i d hd; simp only [hd]; exact Qgx hD l h
   ·rename_i hd; simp only [hd]; exact Qgx hD l h
  ·cases h
theorem Qs4 {α : Type} : ∀ {l : List α} {o : Nat} {c : α} {cs : List α},l.drop o = c :: cs → l[o]? = some c
 | [],o,c,cs,h=>by simp at h
 | x :: l,0,c,cs,h=>by simp at h; simp [h.1]
 | x :: l,o + 1,c,cs,h=>by simp at h; simpa using Qs4 h
theorem QDF [Wd] {P : Program} {D : Orc} (hD : Qgy P D) {f : Fr} {K : KS} {p x : AV} {g : FuncId} {k : AV → KS → Option β} {l} (h : onp D f K p x g k l = some r) :
  ∃ j i o q m m' rows rs rs' rv,p = .ptr j i o ∧ kg K j = some (.lst q rows) ∧ (QK rows i)[o]? = some (.own m rs) ∧ x.scal = true ∧
   AC P g [some (.lst m rs)] [.sl 0,x] (fun v K'=>(v = rv ∧ K'.take 1 = [some (.lst m' rs')]) ∧ rv.flat = true) ∧ k rv (Qni K j i o q m' rows rs') = some r:=by
 unfold onp at h
 split at h
 ·rename_i j i o
  unfold onj at h
  split at h
  ·rename_i q rows hj
   unfold onx at h
   split at h
   ·rename_i m rs cs hcs
    obtain ⟨h1,h2⟩:=Vm h
    unfold Jz at h2
    obtain ⟨y,hy,h3⟩:=Option.bind_eq_some_iff.1 h2
    unfold onr at h3
    split at h3
    ·rename_i m' rs' hy2
     obtain ⟨h4,h5⟩:=Vm h3
     have y4:=hD.2.2.2.1 _ _ _ _ hy
     rw [hy2] at y4
     simp only [Bool.and_eq_true] at h4
     exact ⟨j,i,o,q,m,m',rows,rs,rs',y.1,rfl,hj,Qs4 hcs,h1,y4.mono fun v K' ⟨z1,z2,_⟩=>⟨z1,h4.1⟩,h5⟩
    ·cases h3
   ·cases h
  ·cases h
 ·cases h
theorem Qlw [Wd] {P : Program} {D : Orc} (hD : Qgy P D) {ops : Array Oper} : ∀ (us : List Nat) (l : List Oper) {f : Fr} {K : KS} {k : Fr → KS → Option β},Qhy P D ops us l f K k () = some r → Qhv P ops us l f K (fun f K=>k f K = some r)
 | _ :: us,o :: l,f,K,k,h=>by
  unfold Qhy at h
  unfold Qhv
  split at h
  ·rename_i hg
   refine ⟨hg,Qfd (Z1 (Qmx hD h) fun v K' h=>?_)⟩
   unfold Qe6 at h
   unfold Qcs
   split at h
   ·rename_i d hd; simp only [hd]; exact Qlw hD us l h
   ·rename_i hd; simp only [hd]; exact Qlw hD us l h
  ·cases h
 | _ :: _,[],f,K,k,h=>by unfold Qhy at h; cases h
 | [],l,f,K,k,h=>by
  unfold Qhy at h
  split at h
  ·rename_i he; cases he
  ·rename_i _ _ d t p _ _ _ e x _ _ _ dst g args ts _ _ _ l' _
   split at h
   ·rename_i d' e' hargs
    obtain ⟨h1,h2⟩:=Vm h
    simp only [Bool.and_eq_true,Bool.not_eq_true'] at h1
    obtain ⟨ht,hd',he',hde⟩:=h1
    obtain ⟨j,i,o,q,m,m',rows,rs,rs',rv,q1,q2,q3,q4,q6,q7⟩:=QDF hD h2
    have e1 : d = d':=Nat.eq_of_beq_eq_true hd'
    have e2 : e = e':=Nat.eq_of_beq_eq_true he'
    subst e1 e2
    have ea : args = #[.tmp d,.tmp e]:=Array.toList_inj.1 hargs
    subst ea
    unfold Qhv
    refine ⟨d,e,t,p,x,g,ts,j,i,o,q,m,m',rows,rs,rs',rv,⟨rfl,rfl,rfl⟩,⟨rfl,rfl,rfl⟩,⟨rfl,rfl⟩,(fun hh=>by subst hh; rw [Nat.beq_refl] at hde; cases hde),?_,q1,q2,q3,q4,q6,?_⟩
    ·revert ht
     cases tk P t <;> intro ht <;> first | rfl | cases ht
    ·unfold Qe6 at q7
     unfold Qcs
     split at q7
     ·exact Qgx hD _ q7
     ·exact Qgx hD _ q7
   ·cases h
  ·cases h
theorem Qjr [Wd] {P : Program} {D : Orc} (hD : Qgy P D) {ops : Array Oper} : ∀ (l : List Oper) {f : Fr} {K : KS} {k : Fr → KS → Option β},Qde P D ops l f K k () = some r → QfB P ops l f K (fun f K=>k f K = some r)
 | [],f,K,k,h=>h
 | o :: l,f,K,k,h=>by
  unfold Qde at h
  unfold QfB
  refine QaC.2 ?_
  have yes : ∀ {f},oop P D o.op f K (fun v K'=>Qe6 o.dst v f (fun f=>Qde P D ops l f K' k ()) ()) () = some r → Qct P o.op f K (fun v K'=>QfB P ops l (J2 f o.dst v) K' (fun f K=>k f K = some r)) ():=fun {f} h =>
   Z1 (Qmx hD h) fun v K' h=>Qjr hD l (by
    unfold Qe6 at h
    unfold J2
    cases hd : o.dst with
    | none=>simp only [hd] at h; exact h
    | some d=>simp only [hd] at h; exact h)
  have no : ∀ {f},Qe6 o.dst (.tup []) f (fun f=>Qde P D ops l f K k ()) () = some r → QfB P ops l (J2 f o.dst (.tup [])) K (fun f K=>k f K = some r):=fun {f} h=>Qjr hD l (by
    unfold Qe6 at h
    unfold J2
    cases hd : o.dst with
    | none=>simp only [hd] at h; exact h
    | some d=>simp only [hd] at h; exact h)
  unfold gd
  split at h
  ·rename_i hg; simp only [hg]; exact yes h
  ·rename_i j want hg
   simp only [hg]
   unfold ogd at h
   split at h
   ·rename_i d hj
    simp only [hj]
    split at h
    ·rename_i b hb
     simp only [hb]
     have e1 : up f d (.b b) = f:=Qot f d _ hb
     cases b <;> cases want <;> simp at h ⊢ <;> rw [e1] at h
     ·exact yes h
     ·exact no h
     ·exact no h
     ·exact yes h
    ·rename_i hb
     simp only [hb]
     exact no h
    ·cases h
   ·cases h
theorem QAt [Wd] {vs : List Nat} {P : Program} {D : Orc} (hD : Qgy P D) {o : Op} {f : Fr} {K : KS} {k : AV → KS → Option β} {k' : AV → KS → Prop} {l} (h : QkA vs P D o f K k l = some r) (hk : ∀ v K,k v K = some r → k' v K) : Qi3 vs P o f K k':=by
 have key : (∃ g args ts,o = .call ⟨.value (.func g),args,ts⟩) ∨ (vOp vs o = false ∧ QkA vs P D o f K k l = oop P D o f K k ()):=by
  cases o with
  | call c =>
   obtain ⟨cal,args,ts⟩:=c
   cases cal with
   | value x =>
    cases x with
    | func g=>exact .inl ⟨g,args,ts,rfl⟩
    | _=>exact .inr ⟨rfl,rfl⟩
   | _=>exact .inr ⟨rfl,rfl⟩
  | _=>exact .inr ⟨rfl,rfl⟩
 unfold Qi3
 rcases key with ⟨g,args,ts,rfl⟩ | ⟨hv,he⟩
 ·have h : cond (vs.contains g) (QcF P D (.call ⟨.value (.func g),args,ts⟩) f K k ()) (oop P D (.call ⟨.value (.func g),args,ts⟩) f K k ()) = some r:=h
  have hv : vOp vs (.call ⟨.value (.func g),args,ts⟩) = vs.contains g:=rfl
  rw [hv]
  cases hc : vs.contains g with
  | true =>
   rw [hc] at h
   rw [if_pos rfl]
   exact QtD (l:=()) hD h hk
  | false =>
   rw [hc] at h
   rw [if_neg (by simp)]
   exact Z1 (Qmx (l:=()) hD h) hk
 ·rw [he] at h
  rw [hv,if_neg (by simp)]
  exact Z1 (Qmx (l:=()) hD h) hk
theorem Qgu [Wd] {vs : List Nat} {P : Program} {D : Orc} (hD : Qgy P D) {ops : Array Oper} : ∀ (l : List Oper) {f : Fr} {K : KS} {k : Fr → KS → Option β},ZS vs P D ops l f K k () = some r → Qjp vs P ops l f K (fun f K=>k f K = some r)
 | [],f,K,k,h=>h
 | o :: l,f,K,k,h=>by
  unfold ZS at h
  unfold Qjp Qc5
  have yes : ∀ {f},QkA vs P D o.op f K (fun v K'=>Qe6 o.dst v f (fun f=>ZS vs P D ops l f K' k ()) ()) () = some r → Qi3 vs P o.op f K (fun v K'=>Qjp vs P ops l (J2 f o.dst v) K' (fun f K=>k f K = some r)):=fun {f} h =>
   QAt hD h fun v K' h=>Qgu hD l (by
    unfold Qe6 at h
    unfold J2
    cases hd : o.dst with
    | none=>simp only [hd] at h; exact h
    | some d=>simp only [hd] at h; exact h)
  have no : ∀ {f},Qe6 o.dst (.tup []) f (fun f=>ZS vs P D ops l f K k ()) () = some r → Qjp vs P ops l (J2 f o.dst (.tup [])) K (fun f K=>k f K = some r):=fun {f} h=>Qgu hD l (by
    unfold Qe6 at h
    unfold J2
    cases hd : o.dst with
    | none=>simp only [hd] at h; exact h
    | some d=>simp only [hd] at h; exact h)
  unfold gd
  split at h
  ·rename_i hg; simp only [hg]; exact yes h
  ·rename_i j want hg
   simp only [hg]
   unfold ogd at h
   split at h
   ·rename_i d hj
    simp only [hj]
    split at h
    ·rename_i b hb
     simp only [hb]
     have e1 : up f d (.b b) = f:=Qot f d _ hb
     cases b <;> cases want <;> simp at h ⊢ <;> rw [e1] at h
     ·exact yes h
     ·exact no h
     ·exact no h
     ·exact yes h
    ·rename_i hb
     simp only [hb]
     exact no h
    ·cases h
   ·cases h
theorem Qq5 [Wd] {P : Program} {ops : Array Oper} : ∀ (l : List Oper) {f : Fr} {K : KS} {k : Fr → KS → Prop},QfB P ops l f K k → Qhi P ops l f K k ()
 | [],f,K,k,h=>h
 | o :: l,f,K,k,h=>by
  unfold QfB Qc3 at h
  unfold Qhi
  have st : ∀ {f : Fr} {K : KS} {d : Option Tmp} {v : AV},Qcs d v f (fun f=>QfB P ops l f K k) () → Qcs d v f (fun f=>Qhi P ops l f K k ()) ():=fun {f K d v} h=>by
   rw [Qiz] at h ⊢; exact Qq5 l h
  have yes : ∀ {f},Qct P o.op f K (fun v K'=>Qcs o.dst v f (fun f=>QfB P ops l f K' k) ()) () → xop P o.op f K (fun v K'=>Qcs o.dst v f (fun f=>Qhi P ops l f K' k ()) ()) ():=fun {f} h =>
   Qfd (Z1 h fun v K' h=>st h)
  split at h
  ·rename_i hg; try simp only [hg]
   exact yes h
  ·rename_i j want hg
   try simp only [hg]
   unfold xgd at h ⊢
   split at h
   ·rename_i d hj
    try simp only [hj]
    split at h
    ·rename_i b hb
     unfold XBr at h ⊢
     refine ⟨fun hx=>?_,fun hx=>?_⟩
     ·have:=h.1 hx
      cases want
      ·exact st this
      ·exact yes this
     ·have:=h.2 hx
      cases want
      ·exact yes this
      ·exact st this
    ·rename_i hb
     exact st h
    ·exact h.elim
   ·exact h.elim
end
end Go.Proofs.YtonidbheohhgdaaGreat.Am
