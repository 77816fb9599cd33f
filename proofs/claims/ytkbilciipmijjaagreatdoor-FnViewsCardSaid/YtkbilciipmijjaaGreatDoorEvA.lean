/- An evaluator over the abstract machine's values: what it does. Definitions. No condition. -/
import Derived.Test.YtkbilciipmijjaaGreatDoorAmD
import Derived.Test.YtkbilciipmijjaaGreatDoorPw
namespace Go.Proofs.YtkbilciipmijjaaGreatDoor.Am
open Go
set_option linter.unusedVariables false
set_option linter.unusedSimpArgs false

section
variable {β : Type}
def olet (v : AV) (k : AV → Option β) (_ : Lk k) : Option β := k v
def oletK (K : KS) (k : KS → Option β) (_ : Lk k) : Option β := k K
def obind {α : Type} (o : Option α) (k : α → Option β) (_ : Lk k) : Option β := o.bind k

def oeqA (te : Option (List CK)) (xs ys : List AV) (k : Bool → Option β) (_ : Lk k) : Option β :=
  match te with
  | some ks => match cellsEq ks xs ys with | some b => k b | none => none
  | none => none
def oslc (t : TI) (x : AV) (lo hi : Option AV) (k : AV → Option β) (_ : Lk k) : Option β :=
  match t, x with
  | .sl _ m, .imm n rows => if m = n then match bd 0 lo, bd rows.length hi with
      | some l, some h => need (slB l h rows.length) (k (.imm n (cut rows l h))) ()
      | _, _ => none
    else none
  | .str, .s x => match bd 0 lo, bd x.length hi with
      | some l, some h => need (slB l h x.length) (k (.s (cut x l h))) ()
      | _, _ => none
  | _, _ => none
def osix (t : TI) (x i : AV) (k : AV → Option β) (_ : Lk k) : Option β :=
  match t, x, i with
  | .str, .s x, .i _ i => need (inb x i) (k (.i .u8 ((gt x i).toNat : Int))) ()
  | _, _, _ => none
def obin (te : Option (List CK)) (op : BinOp) (x y : AV) (k : AV → Option β) (_ : Lk k) : Option β :=
  match x, y with
  | .agg xs, .agg ys => match op with
    | .eql => oeqA te xs ys (fun b => k (.b b)) ()
    | .neq => oeqA te xs ys (fun b => k (.b (!b))) ()
    | _ => none
  | .b a, .b b => match te, op with
    | some [.t], .eql => k (.b (decide (a = b)))
    | some [.t], .neq => k (.b (!decide (a = b)))
    | _, _ => none
  | .i c a, .i d b => if isSh op = true then need (decide (0 ≤ b)) (k (.i c (shI op c a b))) () else if c = d then match op with
    | .add => k (.i c (c.wrap (a + b))) | .sub => k (.i c (c.wrap (a - b))) | .mul => k (.i c (c.wrap (a * b)))
    | .and => k (.i c (bitI .and c a b)) | .or => k (.i c (bitI .or c a b)) | .xor => k (.i c (bitI .xor c a b))
    | .quo => need (!decide (b = 0)) (k (.i c (c.wrap (a.tdiv b)))) () | .rem => need (!decide (b = 0)) (k (.i c (a.tmod b))) ()
    | .eql => k (.b (decide (a = b))) | .neq => k (.b (!decide (a = b))) | .lss => k (.b (decide (a < b))) | .leq => k (.b (decide (a ≤ b)))
    | .gtr => k (.b (decide (b < a))) | .geq => k (.b (decide (b ≤ a)))
    | _ => none
    else none
  | .s a, .s b => match op with
    | .add => need (decide (a.length + b.length ≤ 9223372036854775807)) (k (.s (a ++ b))) () | .eql => k (.b (decide (a = b))) | .neq => k (.b (!decide (a = b)))
    | _ => none
  | _, _ => none
open Classical in
/-- Two ways that must come to the same. -/
noncomputable def oeq (a b : Option β) : Option β := if a = b then a else none
noncomputable def oemp (b : Bool) (x y : Option β) : Option β := cond b (oeq x y) y
noncomputable def oisnil (op : BinOp) (x : AV) (k : AV → Option β) (_ : Lk k) : Option β :=
  match op, x with
  | .eql, .imm _ rows => oemp rows.isEmpty (k (.b true)) (k (.b false))
  | .neq, .imm _ rows => oemp rows.isEmpty (k (.b false)) (k (.b true))
  | _, _ => none
def onilE (e : Option Ent) (x : AV) (k : AV → Option β) (_ : Lk k) : Option β :=
  match e with
  | some _ => k x
  | none => none
def onil (K : KS) (x : AV) (k : AV → Option β) (_ : Lk k) : Option β :=
  match x with
  | .ptr j i o => onilE (kg K j) (.ptr j i o) k ()
  | .iptr n r i o => k (.iptr n r i o)
  | _ => none
def oun (op : UnOp) (x : AV) (k : AV → Option β) (_ : Lk k) : Option β :=
  match op, x with
  | .not, .b x => k (.b (!x))
  | .neg, .i c a => k (.i c (c.wrap (-a)))
  | _, _ => none
def opick (c x y : AV) (k : AV → Option β) (_ : Lk k) : Option β :=
  match c with
  | .b c => cond c (k x) (k y)
  | _ => none
def olen (K : KS) (t : TI) (x : AV) (k : AV → Option β) (_ : Lk k) : Option β :=
  match t, x with
  | .sl _ _, .nil => k (.i .i64 0)
  | .sl _ _, .imm _ rows => k (.i .i64 rows.length)
  | .sl _ _, .sl j => match kg K j with | some e => k (.i .i64 e.rows.length) | none => none
  | .str, .s x => k (.i .i64 x.length)
  | .arr n _ _, _ => k (.i .i64 n)
  | _, _ => none
def oadd (K : KS) (x : AV) (o : Option (Nat × TK)) (k : AV → Option β) (_ : Lk k) : Option β :=
  match x, o with
  | .ptr j i p, some (o, _) => match kg K j with | some _ => k (.ptr j i (p + o)) | none => none
  | .iptr n rows i p, some (o, _) => k (.iptr n rows i (p + o))
  | _, _ => none
def oidx (K : KS) (t : TI) (x i : AV) (k : AV → Option β) (_ : Lk k) : Option β :=
  match t, x, i with
  | .sl _ m, .imm n rows, .i _ i => if m = n then need (inb rows i) (k (.iptr n rows i.toNat 0)) () else none
  | .sl _ m, .sl j, .i _ i => match kg K j with
    | some e => if m = e.n then need (inb e.rows i) (k (.ptr j i.toNat 0)) () else none
    | none => none
  | .arr len _ m, .ptr j r o, .i _ i => match kg K j with
    | some e => need (inbK len i) (k (.ptr j r (o + i.toNat * m))) ()
    | none => none
  | _, _, _ => none
def oload (t : TK) (cs : List AV) (k : AV → Option β) (_ : Lk k) : Option β :=
  match t with
  | .one => match cs with | c :: _ => k c | [] => none
  | .agg m => if 0 < m ∧ m ≤ cs.length then k (.agg (cs.take m)) else none
  | .bad => none
def oput (cs : List AV) (o : Nat) (t : TK) (v : AV) (ok : AV → Bool) (k : List AV → Option β) (_ : Lk k) : Option β :=
  match t, v with
  | .agg m, .agg ds => if m = ds.length ∧ o + m ≤ cs.length ∧ ds.all ok = true then k (putCells cs o ds) else none
  | .one, v => if o < cs.length ∧ ok v = true then k (cs.set o v) else none
  | _, _ => none
def ostore (K : KS) (t : TK) (p v : AV) (k : KS → Option β) (_ : Lk k) : Option β :=
  match p with
  | .ptr j i o => match kg K j with
    | some (.box cs) => if i = 0 then oput cs o t v (cellK K) (fun cs => oletK (K.set j (some (.box cs))) k ()) () else none
    | some (.lst n rows) => if i < rows.length then oput (rowOf rows i) o t v AV.closed (fun r => oletK (K.set j (some (.lst n (rows.set i r)))) k ()) () else none
    | none => none
  | _ => none
def ostoreA (ns : List Nat) (K : KS) (t : TK) (j i o n : Nat) (rows : List (List AV)) (v : AV) (k : KS → Option β) (_ : Lk k) : Option β :=
  if i < rows.length then match absorb K (cellsV v) with
    | some (K1, ds) => if (kg K1 j).isSome = true ∧ fitV t v ds.length = true ∧ o + ds.length ≤ (rowOf rows i).length then oletK (K1.set j (some (.lst n (rows.set i (putCells (rowOf rows i) o (nz ns ds)))))) k () else none
    | none => none
  else none
def ostoreX (fl : Bool) (ns : List Nat) (K : KS) (t : TK) (p v : AV) (k : KS → Option β) (_ : Lk k) : Option β :=
  match p with
  | .ptr j i o => match kg K j with
    | some (.lst n rows) => if (cellsV v).all clq = true then ostore K t p v k () else if fl = false then ostoreA ns K t j i o n rows v k () else none
    | _ => ostore K t p v k ()
  | _ => none
def obox (K : KS) (v : AV) (k : AV → KS → Option β) (_ : Lk k) : Option β :=
  match v with
  | .agg cs => if cs.all (cellK K) = true then oletK (K ++ [some (.box cs)]) (fun K' => k (.ptr K.length 0 0) K') () else none
  | v => if cellK K v = true then oletK (K ++ [some (.box [v])]) (fun K' => k (.ptr K.length 0 0) K') () else none
def oalloc (K : KS) (z : Option (List AV)) (k : AV → KS → Option β) (_ : Lk k) : Option β :=
  match z with
  | some cs => oletK (K ++ [some (.box cs)]) (fun K' => k (.ptr K.length 0 0) K') ()
  | none => none
def obuild (K : KS) (t : TB) (parts : List (Nat × AV)) (k : AV → Option β) (_ : Lk k) : Option β :=
  match t with
  | .st z p => match xfill K (p[·]?) z parts with | some cs => k (.agg cs) | none => none
  | .arr z m => match xfill K (fun i => some (i * m, m)) z parts with | some cs => k (.agg cs) | none => none
  | .bad => none
def yB : Bool → List AV → Bool
  | false, _ => true
  | true, cs => noS cs
def obslice (fl : Bool) (ns : List Nat) (K : KS) (t : Option (TypeId × Nat × List AV)) (len : Nat) (parts : List (Nat × AV)) (k : AV → KS → Option β) (_ : Lk k) : Option β :=
  match t with
  | some (_, m, z) => if len = 0 then (match parts with | [] => oletK (K ++ [some (.lst m [])]) (fun K' => k (.sl K.length) K') () | _ => none)
    else if len * m ≤ 16777216 then match xfill K (fun i => some (i * m, m)) (zeros len z) parts with
    | some cs => cond (yB fl cs) (match absorb K cs with
      | some (K1, cs) => oletK (K1 ++ [some (.lst m ((rowsOf m len cs).map (nz ns)))]) (fun K' => k (.sl K.length) K') ()
      | none => none) none
    | none => none
    else none
  | none => none
def otup (v : AV) (i : Nat) (k : AV → Option β) (_ : Lk k) : Option β :=
  match v with
  | .tup cs => match cs[i]? with | some c => k c | none => none
  | _ => none
def oappend (K : KS) (t : Option (TypeId × Nat × List AV)) (bytes : Option Nat) (s x : AV) (k : AV → KS → Option β) (_ : Lk k) : Option β :=
  match t, bytes with
  | some (_, m, _), some (b + 1) => match srcRows K m x with
    | some (rows', K1) => match s with
      | .sl j => match kg K1 j with
        | some (.lst n rows) => if n = m then need (decide ((rows.length + rows'.length) * (b + 1) ≤ 140737488355328)) (oletK (K1.set j none ++ [some (.lst m (rows ++ rows'))]) (fun K' => k (.sl K.length) K') ()) () else none
        | _ => none
      | .nil => need (decide (rows'.length * (b + 1) ≤ 140737488355328)) (oletK (K1 ++ [some (.lst m rows')]) (fun K' => k (.sl K.length) K') ()) ()
      | _ => none
    | none => none
  | _, _ => none
def omin (x y : AV) (k : AV → Option β) (_ : Lk k) : Option β :=
  match x, y with
  | .i c a, .i _ b => k (.i c (if b < a then b else a))
  | _, _ => none
def omax (x y : AV) (k : AV → Option β) (_ : Lk k) : Option β :=
  match x, y with
  | .i c a, .i _ b => k (.i c (if a < b then b else a))
  | _, _ => none
def oconv (t : TI) (x : AV) (k : AV → Option β) (_ : Lk k) : Option β :=
  match t, x with
  | .int c, .i _ a => k (.i c (c.wrap a))
  | _, _ => none
def obstr (K : KS) (t : TI) (x : AV) (k : AV → Option β) (_ : Lk k) : Option β :=
  match t, x with
  | .str, .sl j => match kg K j with
    | some (.lst 1 rows) => match bytesOf rows with | some s => k (.s s) | none => none
    | _ => none
  | _, _ => none
def owho (v : AV) (k : FuncId → List AV → Option β) (_ : Lk k) : Option β :=
  match v with
  | .clo g caps => k g caps
  | _ => none

def omake (ns : List Nat) (K : KS) (t : Option (TypeId × Nat × List AV)) (bytes : Option Nat) (l c : AV) (k : AV → KS → Option β) (_ : Lk k) : Option β :=
  match t, bytes, l, c with
  | some (_, m, z), some (b + 1), .i .i64 l, .i .i64 c =>
    need (decide (l = c)) (need (mkB l (b + 1)) (oletK (K ++ [some (.lst m (List.replicate l.toNat (nz ns z)))]) (fun K' => k (.sl K.length) K') ()) ()) ()
  | _, _, _, _ => none

/-- What is asked of elsewhere: calls of functions that write nothing of ours, and loops. -/
structure Orc where
  p : FuncId → List AV → Option AV
  l : Nat → Fr → KS → Option (XE × Fr × KS)
  s : FuncId → Bool := fun _ => false
  q : FuncId → Bool := fun _ => false
  w : FuncId → Bool := fun _ => false
  a : FuncId → KS → List AV → Option (AV × KS) := fun _ _ _ => none
  z : FuncId → List Sh := fun _ => []
  v : FuncId → Bool := fun _ => false
  m : FuncId → KS → List AV → Option AV := fun _ _ _ => none
def cI (x : Int) : List AV := [.i .i64 x]
def intsOf : List (List AV) → Option (List Int)
  | [] => some []
  | [.i .i64 x] :: r => (intsOf r).map (x :: ·)
  | _ => none
/-- A region of numbers put in order. -/
def osort (K : KS) (vs : List AV) (k : AV → KS → Option β) (_ : Lk k) : Option β :=
  match vs with
  | [.sl j] => match kg K j with
    | some (.lst 1 rows) => match intsOf rows with
      | some xs => need (decide (xs.length < 4611686018427387904)) (oletK (K.set j (some (.lst 1 ((sortI xs).map cI)))) (fun K => k (.tup []) K) ()) ()
      | none => none
    | _ => none
  | _ => none
def ocall (D : Orc) (g : FuncId) (K : KS) (vs : List AV) (k : AV → KS → Option β) (_ : Lk k) : Option β :=
  obind (D.p g (fixP (D.z g) (lends K vs))) (fun x => k (impo K.length x).1 (K ++ (impo K.length x).2)) ()

noncomputable def oop (P : Program) (D : Orc) (o : Op) (f : Fr) (K : KS) (k : AV → KS → Option β) (_ : Lk (o, f, k)) : Option β :=
  match o with
  | .move x | .assign x => k (ev f x) K
  | .pick c x y => opick (ev f c) (ev f x) (ev f y) (fun v => k v K) ()
  | .alloc t => oalloc K (tzc P t) k ()
  | .box _ v => obox K (ev f v) k ()
  | .build t ps => obuild K (tbd P t) (ps.toList.map fun p => (p.1, ev f p.2)) (fun v => k v K) ()
  | .buildSlice t len ps => obslice (zB (slzE P t)) (slzE P t) K (tse P t) len (ps.toList.map fun p => (p.1, ev f p.2)) k ()
  | .load t x => oload (tk P t) (cellsAt K (ev f x)) (fun v => k v K) ()
  | .store t p v => ostoreX (flT P t) (slz P 9 t) K (tk P t) (ev f p) (ev f v) (fun K => k .u K) ()
  | .binOp op t x y _ => if isNilC y = true then (if isSlT P t = true then oisnil op (ev f x) (fun v => k v K) () else none) else obin (teqP P t) op (ev f x) (ev f y) (fun v => k v K) ()
  | .unOp op _ x => oun op (ev f x) (fun v => k v K) ()
  | .convert s t x => if bsl P s = true then obstr K (ti P t) (ev f x) (fun v => k v K) () else if tok P s = true then oconv (ti P t) (ev f x) (fun v => k v K) () else none
  | .makeFunc (.func g) first caps => if first.size = 0 then k (.clo g (caps.toList.map (ev f))) K else none
  | .fieldAddr t x i => oadd K (ev f x) (tfo P t i) (fun v => k v K) ()
  | .indexAddr t x i => oidx K (ti P t) (ev f x) (ev f i) (fun v => k v K) ()
  | .extract x i => otup (ev f x) i (fun v => k v K) ()
  | .call { callee := .builtin .len, args, argTypes } => match args.toList, argTypes.toList with
    | [x], t :: _ => olen K (ti P t) (ev f x) (fun v => k v K) ()
    | _, _ => none
  | .call { callee := .builtin .append, args, argTypes } => match args.toList, argTypes.toList with
    | [s, x], t :: tx :: _ => if tnoint P tx = true ∧ (isNilC s && isSlA (ev f x)) = false then oappend K (tse P t) ((tse P t).bind fun q => tb P q.1) (ev f s) (ev f x) k () else none
    | _, _ => none
  | .call { callee := .builtin .min, args, .. } => match args.toList with
    | [x, y] => omin (ev f x) (ev f y) (fun v => k v K) ()
    | _ => none
  | .call { callee := .builtin .max, args, .. } => match args.toList with
    | [x, y] => omax (ev f x) (ev f y) (fun v => k v K) ()
    | _ => none
  | .call { callee := .value x, args, .. } => owho (ev f x) (fun g caps => ocall D g K (args.toList.map (ev f) ++ caps) k ()) ()
  | .makeSlice t l c => omake (slzE P t) K (tse P t) ((tse P t).bind fun q => tb P q.1) (ev f l) (ev f c) k ()
  | .slice t x lo hi none => oslc (ti P t) (ev f x) (lo.map (ev f)) (hi.map (ev f)) (fun v => k v K) ()
  | .index t x i => osix (ti P t) (ev f x) (ev f i) (fun v => k v K) ()
  | .nilCheck x => onil K (ev f x) (fun v => k v K) ()
  | _ => none

def ogd (s : Option Tmp) (want : Bool) (f : Fr) (yes no : Fr → Option β) (_ : Lk (f, yes, no)) : Option β :=
  match s with
  | some d => match f d with
    | .b x => cond x (if want = true then yes (up f d (.b true)) else no (up f d (.b true))) (if want = true then no (up f d (.b false)) else yes (up f d (.b false)))
    | .tup [] => no f
    | _ => none
  | none => none
def oset (d : Option Tmp) (v : AV) (f : Fr) (k : Fr → Option β) (_ : Lk (f, k)) : Option β :=
  match d with
  | some d => olet v (fun v => k (up f d v)) ()
  | none => k f
noncomputable def oops (P : Program) (D : Orc) (ops : Array Oper) : (l : List Oper) → (f : Fr) → (K : KS) → (k : Fr → KS → Option β) → (_ : Lk (l, f, k)) → Option β
  | [], f, K, k, _ => k f K
  | o :: r, f, K, k, _ => match o.guard with
    | none => oop P D o.op f K (fun v K' => oset o.dst v f (fun f => oops P D ops r f K' k ()) ()) ()
    | some (j, want) => ogd ((ops[j]?).bind (·.dst)) want f (fun f => oop P D o.op f K (fun v K' => oset o.dst v f (fun f => oops P D ops r f K' k ()) ()) ()) (fun f => oset o.dst (.tup []) f (fun f => oops P D ops r f K k ()) ()) ()

/-- A region of numbers, runs made one. -/
def ocomp (K : KS) (vs : List AV) (k : AV → KS → Option β) (_ : Lk k) : Option β :=
  match vs with
  | [.sl j] => match kg K j with
    | some (.lst 1 rows) => match intsOf rows with
      | some xs => need (decide (xs.length < 4611686018427387904)) (oletK (K.set j none ++ [some (.lst 1 ((compI xs).map cI))]) (fun K' => k (.sl K.length) K') ()) ()
      | none => none
    | _ => none
  | _ => none
def ndB : List Nat → Bool
  | [] => true
  | x :: l => !l.contains x && ndB l
/-- All of these are lists. -/
def allL : KS → Bool
  | [] => true
  | some (.lst _ _) :: l => allL l
  | _ :: _ => false
/-- All of these are lists, or variables that nothing of a region lies in. -/
def allC : KS → Bool
  | [] => true
  | some (.lst _ _) :: l => allC l
  | some (.box cs) :: l => clcs cs && allC l
  | none :: _ => false
/-- A call of a function that writes the regions that it is given. -/
def ocallAs (D : Orc) (g : FuncId) (K : KS) (js : List Nat) (cs : Option (List AV)) (k : AV → KS → Option β) (_ : Lk k) : Option β :=
  match cs with
  | some cs => need (allC (subK K js)) (obind (D.a g (subK K js) cs) (fun r => k (renC js K.length r.1) (putB K js r.2)) ()) ()
  | none => none
def ocallAj (D : Orc) (g : FuncId) (K : KS) (js : List Nat) (vs : List AV) (k : AV → KS → Option β) (_ : Lk (vs, k)) : Option β :=
  need (ndB js) (ocallAs D g K js (subAs js vs) k ()) ()
def ocallA (D : Orc) (g : FuncId) (K : KS) (vs : List AV) (k : AV → KS → Option β) (_ : Lk k) : Option β := ocallAj D g K (refAs vs) vs k ()
/-- A call of a function that is given regions for good. -/
def ocallMs (D : Orc) (g : FuncId) (K : KS) (js : List Nat) (cs : Option (List AV)) (k : AV → KS → Option β) (_ : Lk k) : Option β :=
  match cs with
  | some cs => need (allL (subK K js)) (obind (D.m g (subK K js) cs) (fun x => k (impo K.length x).1 (puts K js (nones js) ++ (impo K.length x).2)) ()) ()
  | none => none
def ocallMj (D : Orc) (g : FuncId) (K : KS) (js : List Nat) (vs : List AV) (k : AV → KS → Option β) (_ : Lk (vs, k)) : Option β :=
  need (ndB js) (ocallMs D g K js (subAs js vs) k ()) ()
def ocallM (D : Orc) (g : FuncId) (K : KS) (vs : List AV) (k : AV → KS → Option β) (_ : Lk k) : Option β := ocallMj D g K (refAs vs) vs k ()
/-- An operation, that may be the putting in order of a region. -/
noncomputable def oopA (P : Program) (D : Orc) (o : Op) (f : Fr) (K : KS) (k : AV → KS → Option β) (_ : Lk (o, f, k)) : Option β :=
  match o with
  | .call { callee := .value x, args, .. } => owho (ev f x) (fun g caps => cond (D.s g) (osort K (args.toList.map (ev f) ++ caps) k ()) (cond (D.q g) (ocomp K (args.toList.map (ev f) ++ caps) k ()) (cond (D.w g) (ocallA D g K (args.toList.map (ev f) ++ caps) k ()) (cond (D.v g) (ocallM D g K (args.toList.map (ev f) ++ caps) k ()) (ocall D g K (args.toList.map (ev f) ++ caps) k ()))))) ()
  | o => oop P D o f K k ()
noncomputable def oopsA (P : Program) (D : Orc) (ops : Array Oper) : (l : List Oper) → (f : Fr) → (K : KS) → (k : Fr → KS → Option β) → (_ : Lk (l, f, k)) → Option β
  | [], f, K, k, _ => k f K
  | o :: r, f, K, k, _ => match o.guard with
    | none => oopA P D o.op f K (fun v K' => oset o.dst v f (fun f => oopsA P D ops r f K' k ()) ()) ()
    | some _ => none
/-- An operation, that may be a call of one of vs, which writes what it is given. -/
noncomputable def oopB (vs : List Nat) (P : Program) (D : Orc) (o : Op) (f : Fr) (K : KS) (k : AV → KS → Option β) (_ : Lk (o, f, k)) : Option β :=
  match o with
  | .call { callee := .value (.func g), args, argTypes } => cond (vs.contains g) (oopA P D (.call { callee := .value (.func g), args, argTypes }) f K k ()) (oop P D (.call { callee := .value (.func g), args, argTypes }) f K k ())
  | o => oop P D o f K k ()
noncomputable def oopsB (vs : List Nat) (P : Program) (D : Orc) (ops : Array Oper) : (l : List Oper) → (f : Fr) → (K : KS) → (k : Fr → KS → Option β) → (_ : Lk (l, f, k)) → Option β
  | [], f, K, k, _ => k f K
  | o :: r, f, K, k, _ => match o.guard with
    | none => oopB vs P D o.op f K (fun v K' => oset o.dst v f (fun f => oopsB vs P D ops r f K' k ()) ()) ()
    | some (j, want) => ogd ((ops[j]?).bind (·.dst)) want f (fun f => oopB vs P D o.op f K (fun v K' => oset o.dst v f (fun f => oopsB vs P D ops r f K' k ()) ()) ()) (fun f => oset o.dst (.tup []) f (fun f => oopsB vs P D ops r f K k ()) ()) ()
/-- A slice in a row loaded, given to a callee that writes it, and put back. -/
def onr (D : Orc) (f : Fr) (K : KS) (j i o q : Nat) (rows : List (List AV)) (r : AV × KS) (k : AV → KS → Option β) (_ : Lk k) : Option β :=
  match r.2 with
  | [some (.lst m rs')] => need (r.1.flat && Nat.blt i rows.length) (oletK (nestK K j i o q m rows rs') (fun K' => k r.1 K') ()) ()
  | _ => none
def onx (D : Orc) (f : Fr) (K : KS) (x : AV) (g : FuncId) (j i o q : Nat) (rows : List (List AV)) (cs : List AV) (k : AV → KS → Option β) (_ : Lk k) : Option β :=
  match cs with
  | .own m rs :: _ => need x.scal (obind (D.a g [some (.lst m rs)] [.sl 0, x]) (fun r => onr D f K j i o q rows r k ()) ()) ()
  | _ => none
def onj (D : Orc) (f : Fr) (K : KS) (x : AV) (g : FuncId) (j i o : Nat) (e : Option Ent) (k : AV → KS → Option β) (_ : Lk k) : Option β :=
  match e with
  | some (.lst q rows) => onx D f K x g j i o q rows ((rowOf rows i).drop o) k ()
  | _ => none
def onp (D : Orc) (f : Fr) (K : KS) (p x : AV) (g : FuncId) (k : AV → KS → Option β) (_ : Lk k) : Option β :=
  match p with
  | .ptr j i o => onj D f K x g j i o (kg K j) k ()
  | _ => none
def isOne : TK → Bool
  | .one => true
  | _ => false
noncomputable def oopsN (P : Program) (D : Orc) (ops : Array Oper) : (us : List Nat) → (l : List Oper) → (f : Fr) → (K : KS) → (k : Fr → KS → Option β) → (_ : Lk (l, f, k)) → Option β
  | _ :: us, o :: r, f, K, k, _ => match o.guard with
    | none => oop P D o.op f K (fun v K' => oset o.dst v f (fun f => oopsN P D ops us r f K' k ()) ()) ()
    | some _ => none
  | [], ⟨some d, .load t p, _, _, _, none⟩ :: ⟨some e, .move x, _, _, _, none⟩ :: ⟨dst, .call ⟨.value (.func g), args, _⟩, _, _, _, none⟩ :: r, f, K, k, _ => match args.toList with
    | [.tmp d', .tmp e'] => need (isOne (tk P t) && (Nat.beq d d' && (Nat.beq e e' && !Nat.beq d e))) (onp D f K (ev f p) (ev (up f d (.sl K.length)) x) g (fun v K' => oset dst v (up (up f d (.sl K.length)) e (ev (up f d (.sl K.length)) x)) (fun f => oopsA P D ops r f K' k ()) ()) ()) ()
    | _ => none
  | _, _, _, _, _, _ => none
/-- Where a region's number is found: region i itself; in slot t (a slice of n cells, if it is nil); in cell o of the box that is the q-th of those found; in cell o of the struct in slot t. -/
inductive Pt where
  | r (i : Nat) | s (t n : Nat) | c (q o n : Nat) | g (t o n : Nat)
/-- What is kept at a loop's head: slots, and regions; and where it is left. -/
structure LA where
  sl : List Nat
  rg : List Pt
  xs : List Nat
  xr : List Pt
/-- What a function's run is told: of a drawn region its order; of a region the slot that alone is looked at behind it, and which slots are forgotten; of a loop what is kept; what is kept at a return. -/
structure Ann where
  ord : List (Nat × List Nat) := []
  ot : List (Nat × OT) := []
  ac : List (Nat × Nat) := []
  av : List (Nat × List Nat) := []
  an : List (Nat × List Nat) := []
  eb : List (Nat × List Nat) := []
  ak : List Nat := []
  jn : List (Nat × (Nat × Nat × Nat)) := []
  lp : List (Nat × LA) := []
  rt : LA := ⟨[], [], [], []⟩
  sh : List Sh := []
  fz : List (Nat × List Nat) := []
  nr : Option (List Pt) := none
def lk {α : Type} : List (Nat × α) → Nat → Option α
  | [], _ => none
  | (i, x) :: l, j => cond (i == j) (some x) (lk l j)
/-- What is told of functions that put rows into a region of their own: of each its cells and bytes. -/
def mtI (tb : List (Nat × (Nat × Nat))) (g : Nat) (K : KS) (args : List AV) : Option AV := match K, args with
  | [some (.lst n R), some (.lst m V)], [.sl 0, .i .i64 i, .sl 1] => match lk tb g with
    | some (k, b) => if n = k ∧ m = k ∧ cleanRows R = true ∧ cleanRows V = true then need (insB R i V b) (some (.own k (insL R i V))) () else none
    | none => none
  | _, _ => none
def onorm1 : (l : List Pt) → (f : Fr) → (K : KS) → (π : List Nat) → (k : Fr → KS → List Nat → Option β) → (_ : Lk (f, k)) → Option β
  | [], f, K, π, k, _ => k f K π
  | .r i :: l, f, K, π, k, _ => onorm1 l f K (π ++ [i]) k ()
  | .s t n :: l, f, K, π, k, _ => match f t with
    | .sl j => onorm1 l f K (π ++ [j]) k ()
    | .ptr j _ _ => onorm1 l f K (π ++ [j]) k ()
    | .nil => onorm1 l (up f t (.sl K.length)) (K ++ [some (.lst n [])]) (π ++ [K.length]) k ()
    | _ => none
  | .c q o n :: l, f, K, π, k, _ => match π[q]? with
    | some j => match kg K j with
      | some (.box cs) => match cs[o]? with
        | some (.sl i) => onorm1 l f K (π ++ [i]) k ()
        | some (.ptr i _ _) => onorm1 l f K (π ++ [i]) k ()
        | _ => none
      | _ => none
    | none => none
  | .g t o n :: l, f, K, π, k, _ => match f t with
    | .agg cs => match cs[o]? with
      | some (.sl j) => onorm1 l f K (π ++ [j]) k ()
      | some .nil => onorm1 l (up f t (.agg (cs.set o (.sl K.length)))) (K ++ [some (.lst n [])]) (π ++ [K.length]) k ()
      | _ => none
    | _ => none
def kren (K : KS) (π : List Nat) : KS := π.map fun j => (kg K j).map (renE π)
def frl (f : Fr) (π : List Nat) : List Nat → List (Nat × AV)
  | [] => []
  | t :: l => (t, ren π (f t)) :: frl f π l
def fren (f : Fr) (π : List Nat) (l : List Nat) : Fr := frm (frl f π l)
/-- The regions that a function is given keep their places. -/
def pfx : List Nat → List Nat → Bool
  | [], _ => true
  | x :: l, y :: m => Nat.beq x y && pfx l m
  | _ :: _, [] => false
def onz (z π : List Nat) (q : Option β) (_ : Lk q) : Option β :=
  match z with
  | [] => q
  | x :: l => need (pfx (x :: l) π) q ()
def onorm (z : List Nat) (sl : List Nat) (rg : List Pt) (f : Fr) (K : KS) (k : Fr → KS → Option β) (_ : Lk (f, k)) : Option β :=
  onorm1 rg f K [] (fun f K π => need (ndB π) (onz z π (oletK (kren K π) (fun K' => k (fren f π sl) K') ()) ()) ()) ()
/-- A loop's number: that of its first region. -/
def tag : Code → Nat
  | .region id _ _ => id
  | .seq a _ => tag a
  | .cond _ a _ => tag a
  | .block _ c => tag c
  | .loop c => tag c
  | _ => 0
def findLoop (t : Nat) : Code → Option Code
  | .seq a b => (findLoop t a).or (findLoop t b)
  | .cond _ a b => (findLoop t a).or (findLoop t b)
  | .block _ c => findLoop t c
  | .loop c => cond (tag c == t) (some c) (findLoop t c)
  | _ => none
/-- A test's value, computed by itself. -/
def jbind (o : Option Bool) (k : Bool → Option β) (_ : Lk k) : Option β := o.bind k
def jsome (b : Bool) : Option Bool := some b
def asB : AV → Option Bool
  | .b x => jsome x
  | _ => none
/-- Slots lo, .., hi - 1 forgotten. -/
def wipe (lo hi : Nat) (f : Fr) : Fr := fun t => cond (Nat.ble lo t && Nat.blt t hi) .u (f t)
abbrev KT (β : Type) := XE → Fr → KS → Option β
def othen (k : Fr → KS → Option β) (Q : KT β) : KT β
  | .normal, f, K => k f K
  | e, f, K => Q e f K
def oblk (id : Nat) (Q : KT β) : KT β
  | .exit id', f, K => cond (id' == id) (Q .normal f K) (Q (.exit id') f K)
  | e, f, K => Q e f K
noncomputable def oreg (P : Program) (D : Orc) (a : Ann) (id : Nat) (ops : Array Oper) (l : List Oper) (Q : KT β) (f : Fr) (K : KS) (_ : Lk (l, Q, f)) : Option β :=
  match lk a.jn id with
  | none => oops P D ops l f K (fun f K => Q .normal f K) ()
  | some (s, lo, hi) => jbind (oops P D ops l f K (fun f _ => asB (f s)) ()) (fun c => Q .normal (up (wipe lo hi f) s (.b c)) K) ()
def oord (ops : Array Oper) : Option (List Nat) → List Oper
  | none => ops.toList
  | some is => is.filterMap (ops[·]?)
noncomputable def otree (P : Program) (D : Orc) (ops : Array Oper) : (t : OT) → (f : Fr) → (K : KS) → (k : Fr → KS → Option β) → (_ : Lk (f, k)) → Option β
  | .done, f, K, k, _ => k f K
  | .one i t, f, K, k, _ => match ops[i]? with
    | some o => oops P D ops [o] f K (fun f K => otree P D ops t f K k ()) ()
    | none => none
  | .alt a b, f, K, k, _ => oeq (otree P D ops a f K k ()) (otree P D ops b f K k ())
noncomputable def oregT (P : Program) (D : Orc) (a : Ann) (id : Nat) (ops : Array Oper) (t : Option OT) (Q : KT β) (f : Fr) (K : KS) (_ : Lk (ops, Q, f)) : Option β :=
  match t with
  | some t => otree P D ops t f K (fun f K => Q .normal f K) ()
  | none => oreg P D a id ops (oord ops (lk a.ord id)) Q f K ()
noncomputable def oregA (P : Program) (D : Orc) (a : Ann) (id : Nat) (c : Option Nat) (ops : Array Oper) (l : List Oper) (Q : KT β) (f : Fr) (K : KS) (_ : Lk (l, Q, f)) : Option β :=
  match c with
  | none => oreg P D a id ops l Q f K ()
  | some _ => oopsA P D ops l f K (fun f K => Q .normal f K) ()
/-- A drawn region; the empty slices made in it may be taken as nil. -/
noncomputable def oregE (P : Program) (D : Orc) (a : Ann) (id : Nat) (ds : Option (List Nat)) (ops : Array Oper) (Q : KT β) (f : Fr) (K : KS) (_ : Lk (ops, Q, f)) : Option β :=
  match ds with
  | none => oregT P D a id ops (lk a.ot id) Q f K ()
  | some ds => oregT P D a id (ops.map (nilB ds)) (lk a.ot id) Q f K ()
noncomputable def oregN (P : Program) (D : Orc) (a : Ann) (id : Nat) (us : Option (List Nat)) (ops : Array Oper) (l : List Oper) (Q : KT β) (f : Fr) (K : KS) (_ : Lk (l, Q, f)) : Option β :=
  match us with
  | none => oregA P D a id (lk a.ac id) ops l Q f K ()
  | some us => oopsN P D ops us l f K (fun f K => Q .normal f K) ()
noncomputable def otreeB (vs : List Nat) (P : Program) (D : Orc) (ops : Array Oper) : (t : OT) → (f : Fr) → (K : KS) → (k : Fr → KS → Option β) → (_ : Lk (f, k)) → Option β
  | .done, f, K, k, _ => k f K
  | .one i t, f, K, k, _ => match ops[i]? with
    | some o => oopsB vs P D ops [o] f K (fun f K => otreeB vs P D ops t f K k ()) ()
    | none => none
  | .alt a b, f, K, k, _ => oeq (otreeB vs P D ops a f K k ()) (otreeB vs P D ops b f K k ())
noncomputable def oregJ (vs : List Nat) (P : Program) (D : Orc) (ops : Array Oper) (o : Option (List Nat)) (Q : KT β) (f : Fr) (K : KS) (_ : Lk (ops, Q, f)) : Option β := oopsB vs P D ops (oord ops o) f K (fun f K => Q .normal f K) ()
noncomputable def oregU (vs : List Nat) (P : Program) (D : Orc) (a : Ann) (id : Nat) (t : Option OT) (ops : Array Oper) (Q : KT β) (f : Fr) (K : KS) (_ : Lk (ops, Q, f)) : Option β :=
  match t with
  | some t => otreeB vs P D ops t f K (fun f K => Q .normal f K) ()
  | none => oregJ vs P D ops (lk a.ord id) Q f K ()
/-- A region, some of whose calls write what they are given. -/
noncomputable def oregF (P : Program) (D : Orc) (a : Ann) (id : Nat) (vs : Option (List Nat)) (ops : Array Oper) (Q : KT β) (f : Fr) (K : KS) (_ : Lk (ops, Q, f)) : Option β :=
  match vs with
  | none => oregN P D a id (lk a.an id) ops ops.toList Q f K ()
  | some vs => oopsB vs P D ops ops.toList f K (fun f K => Q .normal f K) ()
noncomputable def oregD (P : Program) (D : Orc) (a : Ann) (id : Nat) (vs : Option (List Nat)) (ops : Array Oper) (Q : KT β) (f : Fr) (K : KS) (_ : Lk (ops, Q, f)) : Option β :=
  match vs with
  | none => oregE P D a id (lk a.eb id) ops Q f K ()
  | some vs => oregU vs P D a id (lk a.ot id) ops Q f K ()
/-! ### regions that nobody writes any more -/
def ofzE (s j : Nat) (e : Option Ent) (f : Fr) (K : KS) (k : Fr → KS → Option β) (_ : Lk k) : Option β :=
  match e with
  | some (.lst m rows) => need (flatRows rows) (k (up f s (.imm m rows)) (K.set j none)) ()
  | _ => none
def ofzV (s : Nat) (v : AV) (f : Fr) (K : KS) (k : Fr → KS → Option β) (_ : Lk k) : Option β :=
  match v with
  | .sl j => ofzE s j (kg K j) f K k ()
  | _ => none
def ofzs : List Nat → Fr → KS → (k : Fr → KS → Option β) → (_ : Lk k) → Option β
  | [], f, K, k, _ => k f K
  | s :: ss, f, K, k, _ => ofzV s (f s) f K (fun f K => ofzs ss f K k ()) ()
def ofz (o : Option (List Nat)) (f : Fr) (K : KS) (k : Fr → KS → Option β) (_ : Lk k) : Option β :=
  match o with
  | none => k f K
  | some ss => ofzs ss f K k ()
noncomputable def ocode (P : Program) (D : Orc) (a : Ann) : (c : Code) → (Q : KT β) → (f : Fr) → KS → (_ : Lk (c, Q, f)) → Option β
  | .skip, Q, f, K, _ => Q .normal f K
  | .ret, Q, f, K, _ => Q .ret f K
  | .exit id, Q, f, K, _ => Q (.exit id) f K
  | .seq x y, Q, f, K, _ => ocode P D a x (othen (fun f K => ocode P D a y Q f K ()) Q) f K ()
  | .cond c x y, Q, f, K, _ => match ev f c with
    | .b b => cond b (ocode P D a x Q f K ()) (ocode P D a y Q f K ())
    | _ => none
  | .block id c, Q, f, K, _ => ocode P D a c (oblk id Q) f K ()
  | .loop c, Q, f, K, _ => match lk a.lp (tag c) with
    | some la => onorm a.ak la.sl la.rg f K (fun f K => obind (D.l (tag c) f K) (fun o => Q o.1 o.2.1 o.2.2) ()) ()
    | none => none
  | .region id ops false, Q, f, K, _ => ofz (lk a.fz id) f K (fun f K => oregF P D a id (lk a.av id) ops Q f K ()) ()
  | .region id ops true, Q, f, K, _ => ofz (lk a.fz id) f K (fun f K => oregD P D a id (lk a.av id) ops Q f K ()) ()
  | _, _, _, _, _ => none
end

/-! ### functions -/
abbrev ST := Fr × KS
def contL (z : List Nat) (la rt : LA) : KT (ST ⊕ (XE × ST))
  | .normal, f, K => onorm z la.sl la.rg f K (fun f K => some (.inl (f, K))) ()
  | .ret, f, K => onorm z rt.sl rt.rg f K (fun f K => some (.inr (.ret, f, K))) ()
  | .exit i, f, K => onorm z la.xs la.xr f K (fun f K => some (.inr (.exit i, f, K))) ()
def oress (f : Fr) (K : KS) (P : Program) : List ResultVar → Option (List AV)
  | [] => some []
  | .tmp t :: rs => (oress f K P rs).map (f t :: ·)
  | .cell a t :: rs => (oload (tk P t) (cellsAt K (f a)) some ()).bind fun v => (oress f K P rs).map (v :: ·)
def one1 : List AV → AV
  | [v] => v
  | vs => .tup vs
def fix1 : Sh → AV → AV
  | .z k, v => nzc k v
  | .a ns, .agg cs => .agg (nz ns cs)
  | _, v => v
def fixZ : List Sh → List AV → List AV
  | s :: ss, v :: vs => fix1 s v :: fixZ ss vs
  | _, vs => vs
/-- A result that is nil, as a slice of one's own without rows. -/
def fixR : List Sh → AV → AV
  | [s], v => fix1 s v
  | s :: ss, .tup vs => .tup (fixZ (s :: ss) vs)
  | _, v => v
def ofin (P : Program) (sh : List Sh) (rs : List ResultVar) : KT AV
  | .exit _, _, _ => none
  | _, f, K => obind (oress f K P rs) (fun vs => (expo K (one1 vs)).map fun p => fixR sh p.2) ()
/-- Of a function that writes the regions it is given: what it returns, and those regions. -/
def tkl : List Nat → KS → KS
  | _ :: l, e :: K => e :: tkl l K
  | _, _ => []
def ofinK (P : Program) (m : Nat) (rs : List ResultVar) (f : Fr) (K K' : KS) : Option (AV × KS) := obind (oress f K P rs) (fun vs => need (rok K'.length (one1 vs) && (allC K' && Nat.ble m K'.length)) (some (one1 vs, K')) ()) ()
def ofinN (P : Program) (z : List Nat) (S : Nat) (rs : List ResultVar) (nr : Option (List Pt)) (f : Fr) (K : KS) (_ : Lk f) : Option (AV × KS) :=
  match nr with
  | none => ofinK P z.length rs f K (tkl z K)
  | some rg => obind (oress f K P rs) (fun vs => onorm z [S] rg (up f S (one1 vs)) K (fun f K => need (rok K.length (f S) && (allC K && Nat.ble z.length K.length)) (some (f S, K)) ()) ()) ()
def ofinA (P : Program) (z : List Nat) (nr : Option (List Pt)) (S : Nat) (rs : List ResultVar) : KT (AV × KS)
  | .exit _, _, _ => none
  | _, f, K => ofinN P z S rs nr f K ()
/-- A function that writes the regions it is given, or makes some. -/
def Ann.wr (a : Ann) : Bool := a.nr.isSome || !a.ak.isEmpty
/-- A program told: for each function what its run is told. -/
structure Tld where
  P : Program
  ann : List (Nat × Ann)
  xt : Nat → List AV → Option AV := fun _ _ => none
  st : Nat → Bool := fun _ => false
  qt : Nat → Bool := fun _ => false
  pz : List (Nat × List Sh) := []
  vt : Nat → Bool := fun _ => false
  mt : Nat → KS → List AV → Option AV := fun _ _ _ => none
def Tld.at (T : Tld) (g : FuncId) : Option Ann := lk T.ann g
def Tld.wt (T : Tld) (g : FuncId) : Bool := match T.at g with | some a => a.wr | none => false
def body (P : Program) (g : FuncId) : Code := match P.funcs[g]? with | some f => f.body.getD .skip | none => .skip
def resv (P : Program) (g : FuncId) : List ResultVar := match P.funcs[g]? with | some f => f.results.toList | none => []
def ntm (P : Program) (g : FuncId) : Nat := match P.funcs[g]? with | some f => f.ntmps | none => 0
noncomputable def orc (T : Tld) : Nat → FuncId → Orc
  | 0, _ => { p := fun _ _ => none, l := fun _ _ _ => none, z := fun g => (lk T.pz g).getD [] }
  | n + 1, h =>
    { p := fun g args => match T.at g with
        | some a => cond (Nat.ble args.length (ntm T.P g)) (ocode T.P (orc T n g) a (body T.P g) (ofin T.P a.sh (resv T.P g)) (argsAt args) [] ()) none
        | none => T.xt g args
      l := fun t f K => match T.at h with
        | some a => match findLoop t (body T.P h), lk a.lp t with
          | some c, some la => run (fun s => ocode T.P (orc T n h) a c (contL a.ak la a.rt) s.1 s.2 ()) (f, K)
          | _, _ => none
        | none => none
      s := T.st
      q := T.qt
      w := T.wt
      a := fun g K args => match T.at g with
        | some a => cond (a.wr && (Nat.beq K.length a.ak.length && Nat.ble args.length (ntm T.P g))) (ocode T.P (orc T n g) a (body T.P g) (ofinA T.P a.ak a.nr (ntm T.P g) (resv T.P g)) (argsAt args) K ()) none
        | none => none
      z := fun g => (lk T.pz g).getD []
      v := T.vt
      m := fun g K args => match T.at g with
        | some a => cond (Nat.ble args.length (ntm T.P g)) (ocode T.P (orc T n g) a (body T.P g) (ofin T.P a.sh (resv T.P g)) (argsAt args) K ()) none
        | none => T.mt g K args }
noncomputable def CP (T : Tld) (n : Nat) (g : FuncId) (args : List AV) : Option AV := (orc T n 0).p g args
noncomputable def CA (T : Tld) (n : Nat) (g : FuncId) (K : KS) (args : List AV) : Option (AV × KS) := (orc T n 0).a g K args
noncomputable def CM (T : Tld) (n : Nat) (g : FuncId) (K : KS) (args : List AV) : Option AV := (orc T n 0).m g K args
noncomputable def LP (T : Tld) (n : Nat) (h : FuncId) (t : Nat) (f : Fr) (K : KS) : Option (XE × Fr × KS) := (orc T n h).l t f K
end Go.Proofs.YtkbilciipmijjaaGreatDoor.Am
