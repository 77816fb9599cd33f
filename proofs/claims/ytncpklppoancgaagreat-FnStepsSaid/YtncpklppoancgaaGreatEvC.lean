import Derived.Test.YtncpklppoancgaaGreatEvA
namespace Go.Proofs.YtncpklppoancgaaGreat.Am
open Go
set_option linter.unusedVariables false
set_option linter.unusedSimpArgs false
section
variable {β : Type} {r : β}
theorem VE {b : Bool} {q : Option β} {l} (h : Vx b q l = some r) : b = true ∧ q = some r:=by
 cases b with
 | false=>cases h
 | true=>exact ⟨rfl,h⟩
theorem QvP {b : Bool} {p q : Option β} (h : cond b p q = some r) : (b = true → p = some r) ∧ (b = false → q = some r):=by
 cases b with
 | false=>exact ⟨fun h'=>by (cases h'),fun _=>h⟩
 | true=>exact ⟨fun _=>h,fun h'=>by cases h'⟩
theorem XU {p : Prop} [Decidable p] {q : Option β} (h : (if p then q else none) = some r) : p ∧ q = some r:=by
 by_cases hp : p
 ·rw [if_pos hp] at h; exact ⟨hp,h⟩
 ·rw [if_neg hp] at h; cases h
theorem QaB {p : Prop} [Decidable p] {q : Prop} (hp : p) (hq : q) : (if p then q else False):=by rw [if_pos hp]; exact hq
theorem QBs (a b : Int) : (a == b) = decide (a = b):=by by_cases h : a = b <;> simp [h]
theorem QAJ (a b : Int) : (a != b) = !decide (a = b):=by by_cases h : a = b <;> simp [h]
theorem QB1 (a b : List UInt8) : (a == b) = decide (a = b):=by by_cases h : a = b <;> simp [h]
theorem QAU (a b : List UInt8) : (a != b) = !decide (a = b):=by by_cases h : a = b <;> simp [h]
theorem Qvd {te : Option (List CK)} {xs ys : List AV} {k : Bool → Option β} {l} (h : QC1 te xs ys k l = some r) : Qpd te xs ys (fun v=>k v = some r) ():=by
 unfold QC1 at h
 unfold Qpd
 split at h
 ·split at h
  ·rename_i hb; simp only [hb]; exact h
  ·cases h
 ·cases h
theorem QBx {t : TI} {x : AV} {lo hi : Option AV} {k : AV → Option β} {l} (h : QhJ t x lo hi k l = some r) : Qq3 t x lo hi (fun v=>k v = some r) ():=by
 unfold QhJ at h
 unfold Qq3
 split at h
 ·obtain ⟨hm,h⟩:=XU h
  simp only
  rw [if_pos hm]
  split at h
  ·rename_i h1 h2
   simp only [h1,h2]
   obtain ⟨h3,h4⟩:=VE h
   exact ⟨by simpa [slB] using h3,h4⟩
  ·cases h
 ·simp only
  split at h
  ·rename_i h1 h2
   simp only [h1,h2]
   obtain ⟨h3,h4⟩:=VE h
   exact ⟨by simpa [slB] using h3,h4⟩
  ·cases h
 ·cases h
theorem QBT {t : TI} {x i : AV} {k : AV → Option β} {l} (h : QxJ t x i k l = some r) : QrD t x i (fun v=>k v = some r) ():=by
 unfold QxJ at h
 unfold QrD
 split at h
 ·obtain ⟨h3,h4⟩:=VE h
  exact ⟨QcY.1 h3,h4⟩
 ·cases h
theorem QBw {te : Option (List CK)} {op : BinOp} {x y : AV} {k : AV → Option β} {l} (h : Zg te op x y k l = some r) : QqK te op x y (fun v=>k v = some r) ():=by
 unfold Zg at h
 unfold QqK
 split at h
 ·simp only
  split at h
  ·exact Qvd h
  ·exact Qvd h
  ·cases h
 ·simp only
  split at h
  ·exact h
  ·exact h
  ·cases h
 ·simp only
  split at h
  ·rename_i hs
   rw [if_pos hs]
   obtain ⟨h1,h2⟩:=VE h
   exact ⟨by simpa using h1,h2⟩
  rename_i hs
  rw [if_neg hs]
  obtain ⟨hc,h⟩:=XU h
  rw [if_pos hc]
  split at h <;> simp only <;> first
   | exact h
   | (rw [QBs]; exact h)
   | (rw [QAJ]; exact h)
   | (obtain ⟨h1,h2⟩:=VE h; exact ⟨by simpa using h1,h2⟩)
   | cases h
 ·simp only
  split at h <;> simp only <;> first
   | (rw [QB1]; exact h)
   | (rw [QAU]; exact h)
   | (obtain ⟨h1,h2⟩:=VE h; exact ⟨by simpa using h1,h2⟩)
   | cases h
 ·cases h
theorem QE0 {op : UnOp} {x : AV} {k : AV → Option β} {l} (h : oun op x k l = some r) : xun op x (fun v=>k v = some r) ():=by
 unfold oun at h
 unfold xun
 split at h
 ·exact h
 ·exact h
 ·cases h
theorem Qyo {c x y : AV} {k : AV → Option β} {l} (h : Qny c x y k l = some r) : Qk1 c x y (fun v=>k v = some r) ():=by
 unfold Qny at h
 unfold Qk1
 split at h
 ·rename_i b
  cases b with
  | true=>exact h
  | false=>exact h
 ·cases h
variable {K : KS}
theorem QDA {t : TI} {x : AV} {k : AV → Option β} {l} (h : Qq4 K t x k l = some r) : QqH K t x (fun v=>k v = some r) ():=by
 unfold Qq4 at h
 unfold QqH
 split at h
 ·exact h
 ·exact h
 ·split at h
  ·rename_i e he; simp only [he]; exact h
  ·cases h
 ·exact h
 ·exact h
 ·cases h
theorem QBH {x : AV} {o : Option (Nat × TK)} {k : AV → Option β} {l} (h : Qv4 K x o k l = some r) : Qqm K x o (fun v=>k v = some r) ():=by
 unfold Qv4 at h
 unfold Qqm
 split at h
 ·split at h
  ·rename_i e he; simp only [he]; exact h
  ·cases h
 ·exact h
 ·cases h
theorem QAG {t : TI} {x i : AV} {k : AV → Option β} {l} (h : QrZ K t x i k l = some r) : QrE K t x i (fun v=>k v = some r) ():=by
 unfold QrZ at h
 unfold QrE
 split at h
 ·obtain ⟨hm,h⟩:=XU h
  obtain ⟨h1,h2⟩:=VE h
  exact QaB hm ⟨QcY.1 h1,h2⟩
 ·split at h
  ·rename_i e he
   obtain ⟨hm,h⟩:=XU h
   simp only [he]
   obtain ⟨h1,h2⟩:=VE h
   exact QaB hm ⟨QcY.1 h1,h2⟩
  ·cases h
 ·split at h
  ·rename_i e he
   simp only [he]
   obtain ⟨h1,h2⟩:=VE h
   exact ⟨by simpa [QsM] using h1,h2⟩
  ·cases h
 ·cases h
theorem Qm7 {t : TK} {cs : List AV} {k : AV → Option β} {l} (h : Qgo t cs k l = some r) : Qfr t cs (fun v=>k v = some r) ():=by
 unfold Qgo at h
 unfold Qfr
 split at h
 ·split at h
  ·exact h
  ·cases h
 ·obtain ⟨hm,h⟩:=XU h
  exact QaB hm (h)
 ·cases h
theorem QtI {cs : List AV} {o : Nat} {t : TK} {v : AV} {ok : AV → Bool} {k : List AV → Option β} {l} (h : Qh0 cs o t v ok k l = some r) : QpF cs o t v ok (fun v=>k v = some r) ():=by
 unfold Qh0 at h
 unfold QpF
 split at h
 ·obtain ⟨hm,h⟩:=XU h
  exact QaB hm (h)
 ·obtain ⟨hm,h⟩:=XU h
  exact QaB hm (h)
 ·cases h
theorem QkN {t : TK} {p v : AV} {k : KS → Option β} {l} (h : QkK K t p v k l = some r) : Qf9 K t p v (fun K=>k K = some r) ():=by
 unfold QkK at h
 unfold Qf9
 split at h
 ·split at h
  ·rename_i cs hj
   simp only [hj]
   obtain ⟨hm,h⟩:=XU h
   exact QaB hm (QtI h)
  ·rename_i n rows hj
   simp only [hj]
   obtain ⟨hm,h⟩:=XU h
   exact QaB hm (QtI h)
  ·cases h
 ·cases h
theorem Qsm {t : TK} {j i o n : Nat} {rows : List (List AV)} {v : AV} {k : KS → Option β} {l} {ns : List Nat} (h : Qjv ns K t j i o n rows v k l = some r) : Qfd ns K t j i o n rows v (fun K=>k K = some r) ():=by
 unfold Qjv at h
 unfold Qfd
 obtain ⟨hm,h⟩:=XU h
 rw [if_pos hm]
 split at h
 ·rename_i K1 ds hab
  obtain ⟨hc,h⟩:=XU h
  simp only [hab]
  exact QaB hc h
 ·cases h
theorem Qsv {fl : Bool} {t : TK} {p v : AV} {k : KS → Option β} {l} {ns : List Nat} (h : QjI fl ns K t p v k l = some r) : QaD fl ns K t p v (fun K=>k K = some r) ():=by
 unfold QjI at h
 unfold QaD
 split at h
 ·split at h
  ·rename_i n rows hj
   simp only [hj]
   split at h
   ·rename_i hc; rw [if_pos hc]; exact QkN h
   ·rename_i hc
    rw [if_neg hc]
    obtain ⟨hf,h⟩:=XU h
    exact QaB hf (Qsm h)
  ·rename_i hj
   cases hk : kg K _ with
   | none=>simp only [hk]; exact QkN h
   | some e =>
    cases e with
    | box cs=>simp only [hk]; exact QkN h
    | lst n rows=>exact absurd hk (hj n rows)
 ·cases h
theorem QBB {v : AV} {k : AV → KS → Option β} {l} (h : QsW K v k l = some r) : Qwy K v (fun v K=>k v K = some r) ():=by
 unfold QsW at h
 unfold Qwy
 split at h
 ·obtain ⟨hm,h⟩:=XU h
  exact QaB hm h
 ·rename_i hn
  obtain ⟨hm,h⟩:=XU h
  cases v with
  | agg cs=>exact absurd rfl (hn cs)
  | _=>exact QaB hm h
theorem Qw4 {z : Option (List AV)} {k : AV → KS → Option β} {l} (h : Qma K z k l = some r) : Qkn K z (fun v K=>k v K = some r) ():=by
 unfold Qma at h
 unfold Qkn
 split at h
 ·exact h
 ·cases h
theorem Qw6 {t : TB} {parts : List (Nat × AV)} {k : AV → Option β} {l} (h : QkV K t parts k l = some r) : Qg9 K t parts (fun v=>k v = some r) ():=by
 unfold QkV at h
 unfold Qg9
 split at h
 ·split at h
  ·rename_i cs hc; simp only [hc]; exact h
  ·cases h
 ·split at h
  ·rename_i cs hc; simp only [hc]; exact h
  ·cases h
 ·cases h
theorem QsG {t : Option (TypeId × Nat × List AV)} {len : Nat} {parts : List (Nat × AV)} {k : AV → KS → Option β} {l} {fl : Bool} {ns : List Nat} (h : Qhy fl ns K t len parts k l = some r) : (fl = true → Qr2 K t len parts = true) ∧ QcW ns K t len parts (fun v K=>k v K = some r) ():=by
 unfold Qhy at h
 unfold QcW Qr2
 cases t with
 | none=>cases h
 | some q =>
  obtain ⟨e,m,z⟩:=q
  simp only at h ⊢
  by_cases h0 : len = 0
  ·rw [if_pos h0] at h ⊢
   subst h0
   cases parts with
   | nil=>exact ⟨fun _=>by simp [Qbu,Qeb,noS],h⟩
   | cons _ _=>cases h
  ·rw [if_neg h0] at h ⊢
   obtain ⟨hm,h⟩:=XU h
   rw [if_pos hm]
   cases hx : Qbu K (fun i=>some (i * m,m)) (Qeb len z) parts with
   | none=>rw [hx] at h; cases h
   | some cs =>
    rw [hx] at h
    simp only at h ⊢
    cases hf : yB fl cs with
    | false=>rw [hf] at h; cases h
    | true =>
     rw [hf] at h
     simp only [cond_true] at h
     refine ⟨fun hfl=>?_,?_⟩
     ·rw [hfl] at hf; exact hf
     ·cases ha : VR K cs with
      | none=>rw [ha] at h; cases h
      | some q =>
       obtain ⟨K1,ds⟩:=q
       rw [ha] at h
       exact h
theorem QAH {v : AV} {i : Nat} {k : AV → Option β} {l} (h : Qyc v i k l = some r) : QrR v i (fun v=>k v = some r) ():=by
 unfold Qyc at h
 unfold QrR
 split at h
 ·split at h
  ·rename_i c hc; simp only [hc]; exact h
  ·cases h
 ·cases h
theorem QCr {o : Option (Nat × TK)} {x : AV} {k : AV → Option β} {l} (h : QxG o x k l = some r) : QrG o x (fun v=>k v = some r) ():=by
 unfold QxG at h
 unfold QrG Qp7
 split at h
 ·exact Qm7 h
 ·cases h
theorem Qtj {t : Option (TypeId × Nat × List AV)} {b : Option Nat} {s x : AV} {k : AV → KS → Option β} {l} (h : QlW K t b s x k l = some r) : Qev K t b s x (fun v K=>k v K = some r) ():=by
 unfold QlW at h
 unfold Qev
 split at h
 ·simp only
  split at h
  ·rename_i rows K1 hs
   simp only [hs]
   split at h
   ·split at h
    ·rename_i n rows hj
     simp only [hj]
     obtain ⟨hm,h⟩:=XU h
     obtain ⟨h1,h2⟩:=VE h
     exact QaB hm ⟨by simpa using h1,h2⟩
    ·cases h
   ·obtain ⟨h1,h2⟩:=VE h
    exact ⟨by simpa using h1,h2⟩
   ·cases h
  ·cases h
 ·cases h
theorem QCI {x y : AV} {k : AV → Option β} {l} (h : Qy9 x y k l = some r) : QrO x y (fun v=>k v = some r) ():=by
 unfold Qy9 at h
 unfold QrO
 split at h
 ·exact h
 ·cases h
theorem QA1 {x y : AV} {k : AV → Option β} {l} (h : QyL x y k l = some r) : Qrp x y (fun v=>k v = some r) ():=by
 unfold QyL at h
 unfold Qrp
 split at h
 ·exact h
 ·cases h
theorem QxA {t : TI} {x : AV} {k : AV → Option β} {l} (h : QqC t x k l = some r) : Qle t x (fun v=>k v = some r) ():=by
 unfold QqC at h
 unfold Qle
 split at h
 ·exact h
 ·cases h
theorem Qxg {K : KS} {t : TI} {x : AV} {k : AV → Option β} {l} (h : Qqc K t x k l = some r) : Qka K t x (fun v=>k v = some r) ():=by
 unfold Qqc at h
 unfold Qka
 split at h
 ·split at h
  ·rename_i h1
   split at h
   ·rename_i h2; simp only [h1,h2]; exact h
   ·cases h
  ·cases h
 ·cases h
theorem QvS {op : BinOp} {x : AV} {k : AV → Option β} {l} (h : QkP op x k l = some r) : QgG op x (fun v=>k v = some r) ():=by
 have key : ∀ {b : Bool} {x y : Option β},QlC b x y = some r → (b = true → x = some r) ∧ y = some r:=by
  intro b x y h
  unfold QlC at h
  cases b with
  | false=>exact ⟨fun h=>(by cases h),h⟩
  | true =>
   simp only [cond_true,oeq] at h
   split at h
   ·rename_i he; exact ⟨fun _=>h,by rw [← he]; exact h⟩
   ·cases h
 unfold QkP at h
 unfold QgG
 split at h
 ·exact key h
 ·exact key h
 ·cases h
theorem Qzb {t : Option (TypeId × Nat × List AV)} {b : Option Nat} {x c : AV} {k : AV → KS → Option β} {l} {ns : List Nat} (h : QuQ ns K t b x c k l = some r) : Qos ns K t b x c (fun v K=>k v K = some r) ():=by
 unfold QuQ at h
 unfold Qos
 split at h
 ·simp only
  obtain ⟨h1,h2⟩:=VE h
  obtain ⟨h3,h4⟩:=VE h2
  rw [if_pos (by simpa using h1)]
  exact ⟨by simpa [mkB] using h3,h4⟩
 ·cases h
def SortP [Wd] (P : Program) (g : FuncId) : Prop:=∀ (K : KS) (j : Nat) (rows : List (List AV)) (xs : List Int),kg K j = some (.lst 1 rows) → Qdy rows = some xs → xs.length < 4611686018427387904 →
 AC P g K [.sl j] (fun x K'=>x = .tup [] ∧ K' = K.set j (some (.lst 1 ((Qcx xs).map cI))))
def CompP [Wd] (P : Program) (g : FuncId) : Prop:=∀ (K : KS) (j : Nat) (rows : List (List AV)) (xs : List Int),kg K j = some (.lst 1 rows) → Qdy rows = some xs → xs.length < 4611686018427387904 →
 AC P g K [.sl j] (fun x K'=>x = .sl K.length ∧ K' = K.set j none ++ [some (.lst 1 ((Zl xs).map cI))])
theorem Qfs : ∀ {l : List Nat},ndB l = true → l.Nodup
 | [],_=>by simp
 | x :: l,h=>by
  simp only [ndB,Bool.and_eq_true,Bool.not_eq_true'] at h
  rw [List.nodup_cons]
  exact ⟨by simpa using h.1,Qfs h.2⟩
def ArP [Wd] (P : Program) (D : Orc) : Prop:=∀ g K args x,D.a g K args = some x → AC P g K args (fun v K'=>(v = x.1 ∧ K'.take x.2.length = x.2) ∧ rok x.2.length x.1 = true ∧ (∀ e ∈ x.2,clE e = true) ∧ K.length ≤ x.2.length)
def MrP [Wd] (P : Program) (D : Orc) : Prop:=∀ g K args x,D.m g K args = some x → MC P g K args (· = x)
def QgS [Wd] (P : Program) (D : Orc) : Prop:=(∀ g args x,D.p g args = some x → PC P g args (· = x)) ∧ (∀ g,D.s g = true → SortP P g) ∧ (∀ g,D.q g = true → CompP P g) ∧ ArP P D ∧ MrP P D
theorem Quh : ∀ {K : KS},Qs1 K = true → ∀ e ∈ K,Qh6 e = true
 | [],_,e,he=>by cases he
 | some (.lst n rows) :: K,h,e,he=>by
  rcases List.mem_cons.1 he with rfl | he
  ·rfl
  ·exact Quh (K:=K) h e he
 | none :: K,h,e,he=>by cases h
 | some (.box cs) :: K,h,e,he=>by cases h
theorem Qjg : ∀ {K : KS},QiB K = true → ∀ e ∈ K,clE e = true
 | [],_,e,he=>by cases he
 | some (.lst n rows) :: K,h,e,he=>by
  rcases List.mem_cons.1 he with rfl | he
  ·rfl
  ·exact Qjg (K:=K) h e he
 | none :: K,h,e,he=>by cases h
 | some (.box cs) :: K,h,e,he=>by
  simp only [QiB,Bool.and_eq_true] at h
  rcases List.mem_cons.1 he with rfl | he
  ·exact h.1
  ·exact Qjg (K:=K) h.2 e he
theorem QBo {s : Operand} (hs : QcA s = true) (f : Fr) : QfF (ev f s) = false:=by
 cases s with
 | const v =>
  cases v <;> first | (cases hs; done) | skip
  rename_i a l c
  cases a <;> cases l <;> cases c <;> first | rfl | cases hs
 | _=>cases hs
theorem Qnz [Wd] {P : Program} {D : Orc} (hD : QgS P D) {o : Op} {f : Fr} {k : AV → KS → Option β} {l} (h : oop P D o f K k l = some r) : Qc1 P o f K (fun v K=>k v K = some r) ():=by
 unfold oop at h
 unfold Qc1
 split at h
 case h_21 x args _ =>
  simp only
  unfold Qti at h
  unfold Qpf
  split at h
  ·rename_i g caps hg
   unfold Qgh JF at h
   obtain ⟨x,hx,h⟩:=Option.bind_eq_some_iff.1 h
   simp only [hg]
   exact ⟨_,(hD.1 _ _ _ hx).fix,fun y hy=>by rw [hy]; exact h⟩
  ·cases h
 all_goals (simp only; unfold xop; simp only)
 case h_1=>exact h
 case h_2=>exact h
 case h_3=>exact Qyo h
 case h_4=>exact Qw4 h
 case h_5=>exact QBB h
 case h_6=>exact Qw6 h
 case h_7=>exact QsG h
 case h_8=>exact Qm7 h
 case h_9=>exact Qsv h
 case h_10 =>
  split at h
  ·rename_i hn
   obtain ⟨hm,h⟩:=XU h
   rw [if_pos hn]
   exact QaB hm (QvS h)
  ·rename_i hn
   rw [if_neg hn]
   exact QBw h
 case h_11=>exact QE0 h
 case h_12 =>
  split at h
  ·rename_i hb; rw [if_pos hb]; exact Qxg h
  ·rename_i hb
   obtain ⟨hm,h⟩:=XU h
   rw [if_neg hb]
   exact QaB hm (QxA h)
 case h_13 =>
  obtain ⟨hm,h⟩:=XU h
  exact QaB hm (h)
 case h_14=>exact QBH h
 case h_15=>exact QAG h
 case h_16=>exact QAH h
 case h_17 =>
  split at h
  ·rename_i h1 h2; simp only [h1,h2]; exact QDA h
  ·cases h
 case h_18 =>
  split at h
  ·rename_i h1 h2
   obtain ⟨⟨hm,hn⟩,h⟩:=XU h
   simp only [h1,h2]
   refine ⟨fun hc=>?_,QaB hm (Qtj h)⟩
   rename_i s x _ _ _ _
   have hs : QcA s = true:=hc
   rw [hs] at hn
   have hs2 : QfF (ev f s) = false:=QBo hs f
   have hx2 : QfF (ev f x) = false:=hn
   simp [hs2,hx2]
  ·cases h
 case h_19 =>
  split at h
  ·rename_i h1; simp only [h1]; exact QCI h
  ·cases h
 case h_20 =>
  split at h
  ·rename_i h1; simp only [h1]; exact QA1 h
  ·cases h
 case h_22=>exact Qzb h
 case h_23=>exact QBx h
 case h_24=>exact QBT h
 case h_25 =>
  unfold QxM at h
  unfold QCP
  split at h
  ·rename_i hv
   simp only [hv]
   unfold QuI at h
   split at h
   ·rename_i hj; simp only [hj]; exact h
   ·cases h
  ·rename_i hv
   simp only [hv]; exact h
  ·cases h
 case h_26=>exact QCr h
 case h_27=>cases h
theorem QuJ [Wd] {P : Program} {D : Orc} (hD : QgS P D) {o : Op} {f : Fr} {K : KS} {k : AV → KS → Option β} {k' : AV → KS → Prop} {l} (h : Qdu P D o f K k l = some r) (hk : ∀ v K,k v K = some r → k' v K) : xop P o f K k' ():=by
 unfold Qdu at h
 split at h
 ·rename_i x args ts _
  show Qpf (ev f x) (fun g caps=>Qlb P g K (args.toList.map (ev f) ++ caps) k' ()) ()
  unfold Qti at h
  unfold Qpf
  split at h
  ·rename_i g caps hg
   simp only [hg]
   simp only at h
   cases hs : D.s g with
   | false =>
    rw [hs] at h
    have h : cond (D.q g) (Qmb K (args.toList.map (ev f) ++ caps) k ()) (cond (D.w g) (QkH D g K (args.toList.map (ev f) ++ caps) k ()) (cond (D.v g) (Qit D g K (args.toList.map (ev f) ++ caps) k ()) (Qgh D g K (args.toList.map (ev f) ++ caps) k ()))) = some r:=h
    cases hq : D.q g with
    | false =>
     rw [hq] at h
     have h : cond (D.w g) (QkH D g K (args.toList.map (ev f) ++ caps) k ()) (cond (D.v g) (Qit D g K (args.toList.map (ev f) ++ caps) k ()) (Qgh D g K (args.toList.map (ev f) ++ caps) k ())) = some r:=h
     cases hw : D.w g with
     | false =>
      rw [hw] at h
      have h : cond (D.v g) (Qit D g K (args.toList.map (ev f) ++ caps) k ()) (Qgh D g K (args.toList.map (ev f) ++ caps) k ()) = some r:=h
      cases hv : D.v g with
      | false =>
       rw [hv] at h
       have h' : Qgh D g K (args.toList.map (ev f) ++ caps) k () = some r:=h
       unfold Qgh JF at h'
       obtain ⟨x,hx,h'⟩:=Option.bind_eq_some_iff.1 h'
       exact .inl ⟨_,(hD.1 _ _ _ hx).fix,fun y hy=>by rw [hy]; exact hk _ _ h'⟩
      | true =>
       rw [hv] at h
       have h' : Qit D g K (args.toList.map (ev f) ++ caps) k () = some r:=h
       unfold Qit QlZ at h'
       obtain ⟨h1,h2⟩:=VE h'
       unfold QlV at h2
       split at h2
       ·rename_i cs hcs
        obtain ⟨h3,h4⟩:=VE h2
        unfold JF at h4
        obtain ⟨x,hx,h5⟩:=Option.bind_eq_some_iff.1 h4
        have hls : ∀ j ∈ Qfb (args.toList.map (ev f) ++ caps),Qh6 (kg K j) = true:=fun j hj=>Quh h3 _ (by unfold Jx; exact List.mem_map_of_mem hj)
        exact .inr ⟨_,MC.sub (Qfs h1) hls (hD.2.2.2.2 _ _ _ _ hx) hcs,fun v K' ⟨hv,hK⟩=>by rw [hv,hK]; exact hk _ _ h5⟩
       ·cases h2
     | true =>
      rw [hw] at h
      have h' : QkH D g K (args.toList.map (ev f) ++ caps) k () = some r:=h
      unfold QkH Ql3 at h'
      obtain ⟨h1,h2⟩:=VE h'
      unfold QlI at h2
      split at h2
      ·rename_i cs hcs
       obtain ⟨h3,h4⟩:=VE h2
       unfold JF at h4
       obtain ⟨x,hx,h5⟩:=Option.bind_eq_some_iff.1 h4
       have x4:=hD.2.2.2.1 _ _ _ _ hx
       have hlen : (Jx K (Qfb (args.toList.map (ev f) ++ caps))).length = (Qfb (args.toList.map (ev f) ++ caps)).length:=by simp [Jx]
       rw [hlen] at x4
       have hls : ∀ j ∈ Qfb (args.toList.map (ev f) ++ caps),clE (kg K j) = true:=fun j hj=>Qjg h3 _ (by unfold Jx; exact List.mem_map_of_mem hj)
       exact .inr ⟨_,AC.subB (Qfs h1) hls x4 hcs,fun v K' ⟨hv,hK⟩=>by rw [hv,hK]; exact hk _ _ h5⟩
      ·cases h2
    | true =>
     rw [hq] at h
     have h' : Qmb K (args.toList.map (ev f) ++ caps) k () = some r:=h
     unfold Qmb at h'
     split at h'
     ·rename_i j hv
      rw [hv]
      split at h'
      ·rename_i rows hj
       split at h'
       ·rename_i xs hxs
        obtain ⟨h1,h2⟩:=VE h'
        exact .inr ⟨_,hD.2.2.1 g hq K j rows xs hj hxs (by simpa using h1),fun x K' ⟨hx,hK⟩=>by rw [hx,hK]; exact hk _ _ h2⟩
       ·cases h'
      ·cases h'
     ·cases h'
   | true =>
    rw [hs] at h
    have h' : QoF K (args.toList.map (ev f) ++ caps) k () = some r:=h
    unfold QoF at h'
    split at h'
    ·rename_i j hv
     rw [hv]
     split at h'
     ·rename_i rows hj
      split at h'
      ·rename_i xs hxs
       obtain ⟨h1,h2⟩:=VE h'
       exact .inr ⟨_,hD.2.1 g hs K j rows xs hj hxs (by simpa using h1),fun x K' ⟨hx,hK⟩=>by rw [hx,hK]; exact hk _ _ h2⟩
      ·cases h'
     ·cases h'
    ·cases h'
  ·cases h
 ·exact Qfv (QaJ (Qnz hD h) hk)
theorem Qhh [Wd] {P : Program} {D : Orc} (hD : QgS P D) {ops : Array Oper} : ∀ (l : List Oper) {f : Fr} {K : KS} {k : Fr → KS → Option β},Qgp P D ops l f K k () = some r → Qh5 P ops l f K (fun f K=>k f K = some r) ()
 | [],f,K,k,h=>h
 | o :: l,f,K,k,h=>by
  unfold Qgp at h
  unfold Qh5
  split at h
  ·rename_i hg
   simp only [hg]
   refine QuJ hD h fun v K' h=>?_
   unfold Qfu at h
   unfold Qc0
   split at h
   ·rename_i d hd; simp only [hd]; exact Qhh hD l h
   ·rename_i hd; simp only [hd]; exact Qhh hD l h
  ·cases h
theorem QtE {α : Type} : ∀ {l : List α} {o : Nat} {c : α} {cs : List α},l.drop o = c :: cs → l[o]? = some c
 | [],o,c,cs,h=>by simp at h
 | x :: l,0,c,cs,h=>by simp at h; simp [h.1]
 | x :: l,o + 1,c,cs,h=>by simp at h; simpa using QtE h
theorem QHI [Wd] {P : Program} {D : Orc} (hD : QgS P D) {f : Fr} {K : KS} {p x : AV} {g : FuncId} {k : AV → KS → Option β} {l} (h : onp D f K p x g k l = some r) :
  ∃ j i o q m m' rows rs rs' rv,p = .ptr j i o ∧ kg K j = some (.lst q rows) ∧ (Q4 rows i)[o]? = some (.own m rs) ∧ x.scal = true ∧
   AC P g [some (.lst m rs)] [.sl 0,x] (fun v K'=>(v = rv ∧ K'.take 1 = [some (.lst m' rs')]) ∧ rv.flat = true) ∧ k rv (Qox K j i o q m' rows rs') = some r:=by
 unfold onp at h
 split at h
 ·rename_i j i o
  unfold onj at h
  split at h
  ·rename_i q rows hj
   unfold onx at h
   split at h
   ·rename_i m rs cs hcs
    obtain ⟨h1,h2⟩:=VE h
    unfold JF at h2
    obtain ⟨y,hy,h3⟩:=Option.bind_eq_some_iff.1 h2
    unfold onr at h3
    split at h3
    ·rename_i m' rs' hy2
     obtain ⟨h4,h5⟩:=VE h3
     have y4:=hD.2.2.2.1 _ _ _ _ hy
     rw [hy2] at y4
     simp only [Bool.and_eq_true] at h4
     exact ⟨j,i,o,q,m,m',rows,rs,rs',y.1,rfl,hj,QtE hcs,h1,y4.mono fun v K' ⟨z1,z2,_⟩=>⟨z1,h4.1⟩,h5⟩
    ·cases h3
   ·cases h
  ·cases h
 ·cases h
theorem Qmq [Wd] {P : Program} {D : Orc} (hD : QgS P D) {ops : Array Oper} : ∀ (us : List Nat) (l : List Oper) {f : Fr} {K : KS} {k : Fr → KS → Option β},Qh9 P D ops us l f K k () = some r → Qia P ops us l f K (fun f K=>k f K = some r)
 | _ :: us,o :: l,f,K,k,h=>by
  unfold Qh9 at h
  unfold Qia
  split at h
  ·rename_i hg
   refine ⟨hg,Qfv (QaJ (Qnz hD h) fun v K' h=>?_)⟩
   unfold Qfu at h
   unfold Qc0
   split at h
   ·rename_i d hd; simp only [hd]; exact Qmq hD us l h
   ·rename_i hd; simp only [hd]; exact Qmq hD us l h
  ·cases h
 | _ :: _,[],f,K,k,h=>by unfold Qh9 at h; cases h
 | [],l,f,K,k,h=>by
  unfold Qh9 at h
  split at h
  ·rename_i he; cases he
  ·rename_i _ _ d t p _ _ _ e x _ _ _ dst g args ts _ _ _ l' _
   split at h
   ·rename_i d' e' hargs
    obtain ⟨h1,h2⟩:=VE h
    simp only [Bool.and_eq_true,Bool.not_eq_true'] at h1
    obtain ⟨ht,hd',he',hde⟩:=h1
    obtain ⟨j,i,o,q,m,m',rows,rs,rs',rv,q1,q2,q3,q4,q6,q7⟩:=QHI hD h2
    have e1 : d = d':=Nat.eq_of_beq_eq_true hd'
    have e2 : e = e':=Nat.eq_of_beq_eq_true he'
    subst e1 e2
    have ea : args = #[.tmp d,.tmp e]:=Array.toList_inj.1 hargs
    subst ea
    unfold Qia
    refine ⟨d,e,t,p,x,g,ts,j,i,o,q,m,m',rows,rs,rs',rv,⟨rfl,rfl,rfl⟩,⟨rfl,rfl,rfl⟩,⟨rfl,rfl⟩,(fun hh=>by subst hh; rw [Nat.beq_refl] at hde; cases hde),?_,q1,q2,q3,q4,q6,?_⟩
    ·revert ht
     cases tk P t <;> intro ht <;> first | rfl | cases ht
    ·unfold Qfu at q7
     unfold Qc0
     split at q7
     ·exact Qhh hD _ q7
     ·exact Qhh hD _ q7
   ·cases h
  ·cases h
theorem QjZ [Wd] {P : Program} {D : Orc} (hD : QgS P D) {ops : Array Oper} : ∀ (l : List Oper) {f : Fr} {K : KS} {k : Fr → KS → Option β},Qb9 P D ops l f K k () = some r → QfP P ops l f K (fun f K=>k f K = some r)
 | [],f,K,k,h=>h
 | o :: l,f,K,k,h=>by
  unfold Qb9 at h
  unfold QfP
  refine Qa6.2 ?_
  have yes : ∀ {f},oop P D o.op f K (fun v K'=>Qfu o.dst v f (fun f=>Qb9 P D ops l f K' k ()) ()) () = some r → Qc1 P o.op f K (fun v K'=>QfP P ops l (Zh f o.dst v) K' (fun f K=>k f K = some r)) ():=fun {f} h =>
   QaJ (Qnz hD h) fun v K' h=>QjZ hD l (by
    unfold Qfu at h
    unfold Zh
    cases hd : o.dst with
    | none=>simp only [hd] at h; exact h
    | some d=>simp only [hd] at h; exact h)
  have no : ∀ {f},Qfu o.dst (.tup []) f (fun f=>Qb9 P D ops l f K k ()) () = some r → QfP P ops l (Zh f o.dst (.tup [])) K (fun f K=>k f K = some r):=fun {f} h=>QjZ hD l (by
    unfold Qfu at h
    unfold Zh
    cases hd : o.dst with
    | none=>simp only [hd] at h; exact h
    | some d=>simp only [hd] at h; exact h)
  unfold gd
  split at h
  ·rename_i hg; simp only [hg]; exact yes h
  ·rename_i j want hg
   simp only [hg]
   unfold ogd at h
   split at h
   ·rename_i d hj
    simp only [hj]
    split at h
    ·rename_i b hb
     simp only [hb]
     have e1 : up f d (.b b) = f:=Qo2 f d _ hb
     cases b <;> cases want <;> simp at h ⊢ <;> rw [e1] at h
     ·exact yes h
     ·exact no h
     ·exact no h
     ·exact yes h
    ·rename_i hb
     simp only [hb]
     exact no h
    ·cases h
   ·cases h
theorem QBF [Wd] {vs : List Nat} {P : Program} {D : Orc} (hD : QgS P D) {o : Op} {f : Fr} {K : KS} {k : AV → KS → Option β} {k' : AV → KS → Prop} {l} (h : QlE vs P D o f K k l = some r) (hk : ∀ v K,k v K = some r → k' v K) : Qi3 vs P o f K k':=by
 have key : (∃ g args ts,o = .call ⟨.value (.func g),args,ts⟩) ∨ (vOp vs o = false ∧ QlE vs P D o f K k l = oop P D o f K k ()):=by
  cases o with
  | call c =>
   obtain ⟨cal,args,ts⟩:=c
   cases cal with
   | value x =>
    cases x with
    | func g=>exact .inl ⟨g,args,ts,rfl⟩
    | _=>exact .inr ⟨rfl,rfl⟩
   | _=>exact .inr ⟨rfl,rfl⟩
  | _=>exact .inr ⟨rfl,rfl⟩
 unfold Qi3
 rcases key with ⟨g,args,ts,rfl⟩ | ⟨hv,he⟩
 ·have h : cond (vs.contains g) (Qdu P D (.call ⟨.value (.func g),args,ts⟩) f K k ()) (oop P D (.call ⟨.value (.func g),args,ts⟩) f K k ()) = some r:=h
  have hv : vOp vs (.call ⟨.value (.func g),args,ts⟩) = vs.contains g:=rfl
  rw [hv]
  cases hc : vs.contains g with
  | true =>
   rw [hc] at h
   rw [if_pos rfl]
   exact QuJ (l:=()) hD h hk
  | false =>
   rw [hc] at h
   rw [if_neg (by simp)]
   exact QaJ (Qnz (l:=()) hD h) hk
 ·rw [he] at h
  rw [hv,if_neg (by simp)]
  exact QaJ (Qnz (l:=()) hD h) hk
theorem QgV [Wd] {vs : List Nat} {P : Program} {D : Orc} (hD : QgS P D) {ops : Array Oper} : ∀ (l : List Oper) {f : Fr} {K : KS} {k : Fr → KS → Option β},Qaw vs P D ops l f K k () = some r → Qkd vs P ops l f K (fun f K=>k f K = some r)
 | [],f,K,k,h=>h
 | o :: l,f,K,k,h=>by
  unfold Qaw at h
  unfold Qkd QdJ
  have yes : ∀ {f},QlE vs P D o.op f K (fun v K'=>Qfu o.dst v f (fun f=>Qaw vs P D ops l f K' k ()) ()) () = some r → Qi3 vs P o.op f K (fun v K'=>Qkd vs P ops l (Zh f o.dst v) K' (fun f K=>k f K = some r)):=fun {f} h =>
   QBF hD h fun v K' h=>QgV hD l (by
    unfold Qfu at h
    unfold Zh
    cases hd : o.dst with
    | none=>simp only [hd] at h; exact h
    | some d=>simp only [hd] at h; exact h)
  have no : ∀ {f},Qfu o.dst (.tup []) f (fun f=>Qaw vs P D ops l f K k ()) () = some r → Qkd vs P ops l (Zh f o.dst (.tup [])) K (fun f K=>k f K = some r):=fun {f} h=>QgV hD l (by
    unfold Qfu at h
    unfold Zh
    cases hd : o.dst with
    | none=>simp only [hd] at h; exact h
    | some d=>simp only [hd] at h; exact h)
  unfold gd
  split at h
  ·rename_i hg; simp only [hg]; exact yes h
  ·rename_i j want hg
   simp only [hg]
   unfold ogd at h
   split at h
   ·rename_i d hj
    simp only [hj]
    split at h
    ·rename_i b hb
     simp only [hb]
     have e1 : up f d (.b b) = f:=Qo2 f d _ hb
     cases b <;> cases want <;> simp at h ⊢ <;> rw [e1] at h
     ·exact yes h
     ·exact no h
     ·exact no h
     ·exact yes h
    ·rename_i hb
     simp only [hb]
     exact no h
    ·cases h
   ·cases h
theorem Qsf [Wd] {P : Program} {ops : Array Oper} : ∀ (l : List Oper) {f : Fr} {K : KS} {k : Fr → KS → Prop},QfP P ops l f K k → Qh5 P ops l f K k ()
 | [],f,K,k,h=>h
 | o :: l,f,K,k,h=>by
  unfold QfP QdH at h
  unfold Qh5
  have st : ∀ {f : Fr} {K : KS} {d : Option Tmp} {v : AV},Qc0 d v f (fun f=>QfP P ops l f K k) () → Qc0 d v f (fun f=>Qh5 P ops l f K k ()) ():=fun {f K d v} h=>by
   rw [Qjy] at h ⊢; exact Qsf l h
  have yes : ∀ {f},Qc1 P o.op f K (fun v K'=>Qc0 o.dst v f (fun f=>QfP P ops l f K' k) ()) () → xop P o.op f K (fun v K'=>Qc0 o.dst v f (fun f=>Qh5 P ops l f K' k ()) ()) ():=fun {f} h =>
   Qfv (QaJ h fun v K' h=>st h)
  split at h
  ·rename_i hg; try simp only [hg]
   exact yes h
  ·rename_i j want hg
   try simp only [hg]
   unfold xgd at h ⊢
   split at h
   ·rename_i d hj
    try simp only [hj]
    split at h
    ·rename_i b hb
     unfold XBr at h ⊢
     refine ⟨fun hx=>?_,fun hx=>?_⟩
     ·have:=h.1 hx
      cases want
      ·exact st this
      ·exact yes this
     ·have:=h.2 hx
      cases want
      ·exact yes this
      ·exact st this
    ·rename_i hb
     exact st h
    ·exact h.elim
   ·exact h.elim
end
end Go.Proofs.YtncpklppoancgaaGreat.Am
