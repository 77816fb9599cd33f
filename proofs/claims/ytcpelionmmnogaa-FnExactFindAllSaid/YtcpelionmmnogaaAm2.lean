/- An abstract machine for the walks: its steps. Definitions, and the equations by which `simp` runs it. No condition. -/
import Derived.Test.YtcpelionmmnogaaAm1
namespace Go.Proofs.Ytcpelionmmnogaa.Am
open Go
set_option linter.unusedVariables false
set_option linter.unusedSimpArgs false

/-- A dummy by which an argument counts as fixed for simp: it is not looked into. -/
abbrev Lk {α : Sort _} (_ : α) : Type := Unit

def up (f : Fr) (d : Nat) (v : AV) : Fr := fun t => if t = d then v else f t
/-- A frame out of a list. -/
def frm : List (Nat × AV) → Fr
  | [] => fun _ => .u
  | (d, v) :: l => up (frm l) d v

/-! ### types -/
def tz (P : Program) (t : TypeId) : Option Nat := (P.info? t).map (·.size)
def tb (P : Program) (t : TypeId) : Option Nat := (P.info? t).map (·.bytes)
def tzero (P : Program) (t : TypeId) : Option Value := (P.info? t).bind (·.zero)
inductive TK where
  | agg (n : Nat) | one | bad
def isAggD : TypeDesc → Bool
  | .struct _ | .array _ _ => true
  | _ => false
def tk (P : Program) (t : TypeId) : TK :=
  match P.underlying t with
  | some d => if isAggD d then (match tz P t with | some n => .agg n | none => .bad) else if tz P t = some 1 then .one else .bad
  | none => .bad
/-- A struct's field: its offset and its kind. -/
def tfo (P : Program) (t : TypeId) (i : Nat) : Option (Nat × TK) :=
  match P.underlying t with
  | some (.struct fs) => match fs[i]? with
    | some f => match tz P f.type with | some (_ + 1) => some (f.offset, tk P f.type) | _ => none
    | none => none
  | _ => none
inductive TI where
  | sl (e : TypeId) (size : Nat) | arr (len : Nat) (e : TypeId) (size : Nat) | str | int (k : IntKind) | bad
def ti (P : Program) (t : TypeId) : TI :=
  match P.underlying t with
  | some (.slice e) => match tz P e with | some n => .sl e n | none => .bad
  | some (.array l e) => match tz P e with | some n => .arr l e n | none => .bad
  | some .string => .str
  | some (.int k) => .int k
  | _ => .bad

/-! ### values -/
def cv : Value → AV
  | .bool x => .b x
  | .int k n => .i k n
  | .string x => .s x.data.toList
  | .slice none 0 0 => .nil
  | _ => .u
def ev (f : Fr) : Operand → AV
  | .tmp t => f t
  | .const v => cv v
  | .global _ => .u
  | .func g => .clo g []
/-- May stand in one cell of a region of its own. -/
def cellK (K : KS) : AV → Bool
  | .b _ | .i _ _ | .s _ | .nil | .imm _ _ | .iptr _ _ _ _ | .clo _ _ => true
  | .sl j | .ptr j _ _ => (kg K j).isSome
  | _ => false
/-- .. and in a row of a slice. -/
def AV.closed : AV → Bool
  | .b _ | .i _ _ | .s _ | .nil | .imm _ _ | .iptr _ _ _ _ => true
  | _ => false
def ld (c : AV) : AV := if c.closed then c else .u
def rowOf (rows : List (List AV)) (i : Nat) : List AV := rows.getD i []
/-- The cells from a pointer on. -/
def cellsAt (K : KS) : AV → List AV
  | .ptr j i o => match kg K j with
    | some (.box cs) => if i = 0 then cs.drop o else []
    | some (.lst _ rows) => ((rowOf rows i).drop o).map ld
    | none => []
  | .iptr _ rows i o => ((rowOf rows i).drop o).map ld
  | _ => []

/-! ### steps: each hands its outcome to what follows -/
def xlet (v : AV) (k : AV → Prop) (_ : Lk k) : Prop := k v
def xletK (K : KS) (k : KS → Prop) (_ : Lk k) : Prop := k K
def XNeed (p q : Prop) (_ : Lk q) : Prop := p ∧ q
def XBr (b : Bool) (p q : Prop) (_ : Lk (p, q)) : Prop := (b = true → p) ∧ (b = false → q)
def xcond (v : AV) (p q : Prop) (_ : Lk (p, q)) : Prop := match v with | .b x => XBr x p q () | _ => False

/-- A cell's kind, where types are compared cell by cell. -/
inductive CK where
  | i | b | s | t
def teqFs (g : TypeId → Option (List CK)) (P : Program) : List Field → Nat → Option (List CK)
  | [], _ => some []
  | f :: fs, o => if f.offset = o ∧ f.name ≠ "_" then match g f.type with
      | some ks => if tz P f.type = some ks.length then (teqFs g P fs (o + ks.length)).map (ks ++ ·) else none
      | none => none
    else none
def teq (P : Program) : Nat → TypeId → Option (List CK)
  | 0, _ => none
  | d + 1, t => match P.underlying t with
    | some .bool => some [.b]
    | some (.int _) => some [.i]
    | some .string => some [.s]
    | some (.struct fs) => if P.stoodInHeld t = true then none else teqFs (teq P d) P fs.toList 0
    | _ => none
/-- The cells' kinds of a struct type that is compared cell by cell. -/
def teqP (P : Program) (t : TypeId) : Option (List CK) :=
  match P.underlying t with
  | some (.struct _) => if P.eqGuardType P.depth t = true then none else teq P 9 t
  | some .bool => some [.t]
  | _ => none
def cellsEq : List CK → List AV → List AV → Option Bool
  | [], [], [] => some true
  | .i :: ks, .i k a :: xs, .i k' b :: ys => if k = k' then (cellsEq ks xs ys).map (decide (a = b) && ·) else none
  | .b :: ks, .b a :: xs, .b b :: ys => (cellsEq ks xs ys).map (decide (a = b) && ·)
  | .s :: ks, .s a :: xs, .s b :: ys => (cellsEq ks xs ys).map (decide (a = b) && ·)
  | _, _, _ => none
def xeqA (te : Option (List CK)) (xs ys : List AV) (k : Bool → Prop) (_ : Lk k) : Prop :=
  match te with
  | some ks => match cellsEq ks xs ys with | some b => k b | none => False
  | none => False
def xbin (te : Option (List CK)) (op : BinOp) (x y : AV) (k : AV → Prop) (_ : Lk k) : Prop :=
  match x, y with
  | .agg xs, .agg ys => match op with
    | .eql => xeqA te xs ys (fun b => k (.b b)) ()
    | .neq => xeqA te xs ys (fun b => k (.b (!b))) ()
    | _ => False
  | .b a, .b b => match te, op with
    | some [.t], .eql => k (.b (decide (a = b)))
    | some [.t], .neq => k (.b (!decide (a = b)))
    | _, _ => False
  | .i c a, .i d b => if c = d then match op with
    | .add => k (.i c (c.wrap (a + b))) | .sub => k (.i c (c.wrap (a - b))) | .mul => k (.i c (c.wrap (a * b)))
    | .quo => XNeed (b ≠ 0) (k (.i c (c.wrap (a.tdiv b)))) () | .rem => XNeed (b ≠ 0) (k (.i c (a.tmod b))) ()
    | .eql => k (.b (a == b)) | .neq => k (.b (a != b)) | .lss => k (.b (decide (a < b))) | .leq => k (.b (decide (a ≤ b)))
    | .gtr => k (.b (decide (b < a))) | .geq => k (.b (decide (b ≤ a)))
    | _ => False
    else False
  | .s a, .s b => match op with
    | .add => XNeed (a.length + b.length ≤ 9223372036854775807) (k (.s (a ++ b))) () | .eql => k (.b (a == b)) | .neq => k (.b (a != b))
    | _ => False
  | _, _ => False
def xun (op : UnOp) (x : AV) (k : AV → Prop) (_ : Lk k) : Prop :=
  match op, x with
  | .not, .b x => k (.b (!x))
  | .neg, .i c a => k (.i c (c.wrap (-a)))
  | _, _ => False
def xpick (c x y : AV) (k : AV → Prop) (_ : Lk k) : Prop :=
  match c with
  | .b true => k x
  | .b false => k y
  | _ => False
def xlen (K : KS) (t : TI) (x : AV) (k : AV → Prop) (_ : Lk k) : Prop :=
  match t, x with
  | .sl _ _, .nil => k (.i .i64 0)
  | .sl _ _, .imm _ rows => k (.i .i64 rows.length)
  | .sl _ _, .sl j => match kg K j with | some e => k (.i .i64 e.rows.length) | none => False
  | .str, .s x => k (.i .i64 x.length)
  | .arr n _ _, _ => k (.i .i64 n)
  | _, _ => False
def xadd (K : KS) (x : AV) (o : Option (Nat × TK)) (k : AV → Prop) (_ : Lk k) : Prop :=
  match x, o with
  | .ptr j i p, some (o, _) => match kg K j with | some _ => k (.ptr j i (p + o)) | none => False
  | .iptr n rows i p, some (o, _) => k (.iptr n rows i (p + o))
  | _, _ => False
def xidx (K : KS) (t : TI) (x i : AV) (k : AV → Prop) (_ : Lk k) : Prop :=
  match t, x, i with
  | .sl _ m, .imm n rows, .i _ i => if m = n then XNeed (0 ≤ i ∧ i < rows.length) (k (.iptr n rows i.toNat 0)) () else False
  | .sl _ m, .sl j, .i _ i => match kg K j with
    | some e => if m = e.n then XNeed (0 ≤ i ∧ i < e.rows.length) (k (.ptr j i.toNat 0)) () else False
    | none => False
  | .arr len _ m, .ptr j r o, .i _ i => match kg K j with
    | some e => XNeed (0 ≤ i ∧ i < len) (k (.ptr j r (o + i.toNat * m))) ()
    | none => False
  | _, _, _ => False
def xload (t : TK) (cs : List AV) (k : AV → Prop) (_ : Lk k) : Prop :=
  match t with
  | .one => match cs with | c :: _ => k c | [] => False
  | .agg m => if 0 < m ∧ m ≤ cs.length then k (.agg (cs.take m)) else False
  | .bad => False
/-- A part of an aggregate in the frame. -/
def xpart (t : TK) (o : Nat) (x : AV) (k : AV → Prop) (_ : Lk k) : Prop :=
  match x with
  | .agg cs => xload t (cs.drop o) k ()
  | _ => False
def putCells (cs : List AV) (o : Nat) (ds : List AV) : List AV := cs.take o ++ ds ++ cs.drop (o + ds.length)
def xput (cs : List AV) (o : Nat) (t : TK) (v : AV) (ok : AV → Bool) (k : List AV → Prop) (_ : Lk k) : Prop :=
  match t, v with
  | .agg m, .agg ds => if m = ds.length ∧ o + m ≤ cs.length ∧ ds.all ok = true then k (putCells cs o ds) else False
  | .one, v => if o < cs.length ∧ ok v = true then k (cs.set o v) else False
  | _, _ => False
def xstore (K : KS) (t : TK) (p v : AV) (k : KS → Prop) (_ : Lk k) : Prop :=
  match p with
  | .ptr j i o => match kg K j with
    | some (.box cs) => if i = 0 then xput cs o t v (cellK K) (fun cs => xletK (K.set j (some (.box cs))) k ()) () else False
    | some (.lst n rows) => if i < rows.length then xput (rowOf rows i) o t v AV.closed (fun r => xletK (K.set j (some (.lst n (rows.set i r)))) k ()) () else False
    | none => False
  | _ => False
def xbox (K : KS) (v : AV) (k : AV → KS → Prop) (_ : Lk k) : Prop :=
  match v with
  | .agg cs => if cs.all (cellK K) = true then xletK (K ++ [some (.box cs)]) (fun K' => k (.ptr K.length 0 0) K') () else False
  | v => if cellK K v = true then xletK (K ++ [some (.box [v])]) (fun K' => k (.ptr K.length 0 0) K') () else False
/-- The cells of a value in the frame. -/
def acells (K : KS) : AV → Option (List AV)
  | .agg cs => some cs
  | v => if cellK K v = true then some [v] else none
def tzc (P : Program) (t : TypeId) : Option (List AV) := (tzero P t).bind fun z => if (z.cells.toList.map cv).all AV.closed = true then some (z.cells.toList.map cv) else none
def xalloc (K : KS) (z : Option (List AV)) (k : AV → KS → Prop) (_ : Lk k) : Prop :=
  match z with
  | some cs => xletK (K ++ [some (.box cs)]) (fun K' => k (.ptr K.length 0 0) K') ()
  | none => False
/-- Slices among cells that are to stand in a row are taken in. -/
def absorb : KS → List AV → Option (KS × List AV)
  | K, [] => some (K, [])
  | K, .sl j :: cs => match kg K j with
    | some (.lst n rows) => (absorb (K.set j none) cs).map fun p => (p.1, .own n rows :: p.2)
    | _ => none
  | K, c :: cs => if c.closed = true then (absorb K cs).map fun p => (p.1, c :: p.2) else none
/-- A cell that holds nil, as a slice of one's own without rows. -/
def nzc (n : Nat) : AV → AV
  | .nil => .own n []
  | c => c
def nz : List Nat → List AV → List AV
  | n :: ns, c :: cs => nzc n c :: nz ns cs
  | _, cs => cs
/-- Of each cell of a type how many cells an element has, if it is a slice. -/
def slz (P : Program) : Nat → TypeId → List Nat
  | 0, _ => []
  | d + 1, t => match P.underlying t with
    | some (.struct fs) => (fs.toList.map fun f => slz P d f.type).flatten
    | some (.slice e) => [(tz P e).getD 0]
    | _ => List.replicate ((tz P t).getD 0) 0
def slzE (P : Program) (t : TypeId) : List Nat := match P.underlying t with
  | some (.slice e) => slz P 9 e
  | _ => []
/-- A type without slices in it: what is stored of it takes nothing in. -/
def flT (P : Program) (t : TypeId) : Bool := (teq P 9 t).isSome
def cellsV : AV → List AV
  | .agg ds => ds
  | v => [v]
def fitV : TK → AV → Nat → Bool
  | .agg m, .agg _, l => m == l
  | .one, .agg _, _ => false
  | .one, _, l => l == 1
  | _, _, _ => false
/-- A store into a row, of what holds regions: they are taken in. -/
def xstoreA (ns : List Nat) (K : KS) (t : TK) (j i o n : Nat) (rows : List (List AV)) (v : AV) (k : KS → Prop) (_ : Lk k) : Prop :=
  if i < rows.length then match absorb K (cellsV v) with
    | some (K1, ds) => if (kg K1 j).isSome = true ∧ fitV t v ds.length = true ∧ o + ds.length ≤ (rowOf rows i).length then xletK (K1.set j (some (.lst n (rows.set i (putCells (rowOf rows i) o (nz ns ds)))))) k () else False
    | none => False
  else False
def clq : AV → Bool
  | .nil => false
  | c => c.closed
def xstoreX (fl : Bool) (ns : List Nat) (K : KS) (t : TK) (p v : AV) (k : KS → Prop) (_ : Lk k) : Prop :=
  match p with
  | .ptr j i o => match kg K j with
    | some (.lst n rows) => if (cellsV v).all clq = true then xstore K t p v k () else if fl = false then xstoreA ns K t j i o n rows v k () else False
    | _ => xstore K t p v k ()
  | _ => False
/-- Parts put into cells, each at its place. -/
def xfill (K : KS) (place : Nat → Option (Nat × Nat)) : List AV → List (Nat × AV) → Option (List AV)
  | cs, [] => some cs
  | cs, (i, v) :: rest => match place i, acells K v with
    | some (o, m), some ds => if ds.length = m ∧ o + m ≤ cs.length then xfill K place (putCells cs o ds) rest else none
    | _, _ => none
def places (P : Program) (fs : Array Field) : Option (List (Nat × Nat)) := fs.toList.mapM fun f => (tz P f.type).map fun m => (f.offset, m)
inductive TB where
  | st (zero : List AV) (places : List (Nat × Nat)) | arr (zero : List AV) (m : Nat) | bad
def tbd (P : Program) (t : TypeId) : TB :=
  match P.underlying t with
  | some (.struct fs) => match tzc P t, places P fs with | some z, some p => .st z p | _, _ => .bad
  | some (.array _ e) => match tzc P t, tz P e with | some z, some m => .arr z m | _, _ => .bad
  | _ => .bad
def xbuild (K : KS) (t : TB) (parts : List (Nat × AV)) (k : AV → Prop) (_ : Lk k) : Prop :=
  match t with
  | .st z p => match xfill K (p[·]?) z parts with | some cs => k (.agg cs) | none => False
  | .arr z m => match xfill K (fun i => some (i * m, m)) z parts with | some cs => k (.agg cs) | none => False
  | .bad => False
/-- Rows out of cells. -/
def rowsOf (m : Nat) : Nat → List AV → List (List AV)
  | 0, _ => []
  | l + 1, cs => cs.take m :: rowsOf m l (cs.drop m)
/-- The zero of a slice's element, and its size. -/
def tse (P : Program) (t : TypeId) : Option (TypeId × Nat × List AV) :=
  match P.underlying t with
  | some (.slice e) => match tz P e, tzc P e with | some m, some z => if z.length = m ∧ 0 < m then some (e, m, z) else none | _, _ => none
  | _ => none
def zeros (l : Nat) (z : List AV) : List AV := (List.replicate l z).flatten
def xbslice (ns : List Nat) (K : KS) (t : Option (TypeId × Nat × List AV)) (len : Nat) (parts : List (Nat × AV)) (k : AV → KS → Prop) (_ : Lk k) : Prop :=
  match t with
  | some (_, m, z) => if len = 0 then (match parts with | [] => xletK (K ++ [some (.lst m [])]) (fun K' => k (.sl K.length) K') () | _ => False)
    else if len * m ≤ 16777216 then match xfill K (fun i => some (i * m, m)) (zeros len z) parts with
    | some cs => match absorb K cs with
      | some (K1, cs) => xletK (K1 ++ [some (.lst m ((rowsOf m len cs).map (nz ns)))]) (fun K' => k (.sl K.length) K') ()
      | none => False
    | none => False
    else False
  | none => False
def xtup (v : AV) (i : Nat) (k : AV → Prop) (_ : Lk k) : Prop :=
  match v with
  | .tup cs => match cs[i]? with | some c => k c | none => False
  | _ => False

/-- The rows that an append copies; a region is no more behind it. -/
def srcRows (K : KS) (m : Nat) : AV → Option (List (List AV) × KS)
  | .nil => some ([], K)
  | .imm n rows => if n = m then some (rows, K) else none
  | .sl k => match kg K k with
    | some (.lst n rows) => if n = m then some (rows, K.set k none) else none
    | _ => none
  | _ => none
def tnoint (P : Program) (t : TypeId) : Bool := match P.underlying t with | some (.slice _) => true | some .string => true | _ => false
def xappend (K : KS) (t : Option (TypeId × Nat × List AV)) (bytes : Option Nat) (s x : AV) (k : AV → KS → Prop) (_ : Lk k) : Prop :=
  match t, bytes with
  | some (_, m, _), some (b + 1) => match srcRows K m x with
    | some (rows', K1) => match s with
      | .sl j => match kg K1 j with
        | some (.lst n rows) => if n = m then XNeed ((rows.length + rows'.length) * (b + 1) ≤ 140737488355328) (xletK (K1.set j none ++ [some (.lst m (rows ++ rows'))]) (fun K' => k (.sl K.length) K') ()) () else False
        | _ => False
      | .nil => XNeed (rows'.length * (b + 1) ≤ 140737488355328) (xletK (K1 ++ [some (.lst m rows')]) (fun K' => k (.sl K.length) K') ()) ()
      | _ => False
    | none => False
  | _, _ => False

/-- A slice of zeros. -/
def xmake (ns : List Nat) (K : KS) (t : Option (TypeId × Nat × List AV)) (bytes : Option Nat) (l c : AV) (k : AV → KS → Prop) (_ : Lk k) : Prop :=
  match t, bytes, l, c with
  | some (_, m, z), some (b + 1), .i .i64 l, .i .i64 c =>
    if l = c then XNeed (0 ≤ l ∧ l * ((b : Int) + 1) ≤ 140737488355328) (xletK (K ++ [some (.lst m (List.replicate l.toNat (nz ns z)))]) (fun K' => k (.sl K.length) K') ()) () else False
  | _, _, _, _ => False

/-! ### calls -/
mutual
/-- A result, taken over: its own slices become regions, counted from m on. -/
def impo (m : Nat) : AV → AV × KS
  | .own n rows => (.sl m, [some (.lst n rows)])
  | .agg cs => let p := impos m cs; (.agg p.1, p.2)
  | .tup cs => let p := impos m cs; (.tup p.1, p.2)
  | .clo _ _ => (.u, [])
  | v => (v, [])
def impos (m : Nat) : List AV → List AV × KS
  | [] => ([], [])
  | c :: cs => let p := impo m c; let q := impos (m + p.2.length) cs; (p.1 :: q.1, p.2 ++ q.2)
end
mutual
/-- A cell of a row of one's own, lent to a callee that writes nothing. -/
def lendc : AV → AV
  | .own n rows => .imm n (lendRows rows)
  | .agg _ | .tup _ | .clo _ _ => .u
  | c => c
def lendRow : List AV → List AV
  | [] => []
  | c :: cs => lendc c :: lendRow cs
def lendRows : List (List AV) → List (List AV)
  | [] => []
  | r :: rs => lendRow r :: lendRows rs
end
def lendS (K : KS) (j : Nat) : AV := match kg K j with
  | some (.lst n rows) => .imm n (lendRows rows)
  | _ => .u
/-- A variable's cell, lent. -/
def lendB (K : KS) : AV → AV
  | .sl j => lendS K j
  | c => if c.closed = true then c else .u
/-- A pointer, lent: into memory that nobody writes. -/
def lendP (K : KS) (j i o : Nat) : AV := match kg K j with
  | some (.lst n rows) => .iptr n (lendRows rows) i o
  | some (.box cs) => .iptr cs.length [cs.map (lendB K)] i o
  | none => .u
mutual
/-- A value, lent: regions are slices that nobody writes. -/
def lend (K : KS) : AV → AV
  | .sl j => lendS K j
  | .agg cs => .agg (lends K cs)
  | .tup cs => .tup (lends K cs)
  | .clo f cs => .clo f (lends K cs)
  | .ptr j i o => lendP K j i o
  | v => v
def lends (K : KS) : List AV → List AV
  | [] => []
  | c :: cs => lend K c :: lends K cs
end

/-- A function that writes nothing that was there, of arguments that are trees: it returns, and R holds of what it returns. -/
def EnterOK (P : Program) (g : FuncId) : Prop := ∀ (args : Array Value) (w : World), (callFunc g args).run P w = .ok (.enter g args) w
def PC [Wd] (P : Program) (g : FuncId) (args : List AV) (R : AV → Prop) : Prop := EnterOK P g ∧
  ∀ (w : World) (vs : List Value), Wd.I w → XRs w (fun _ => False) EN args vs [] →
    Calls P g vs.toArray w fun e w' => ∃ v x nb, e = .returned v ∧ R x ∧ XR w' (fun _ => True) EN x v nb ∧ nb.Nodup ∧ (∀ b ∈ nb, w.heap.size ≤ b ∧ b < w'.heap.size) ∧ Ext (fun _ => False) w w'
theorem PC.mono [Wd] {P : Program} {g : FuncId} {args : List AV} {R R' : AV → Prop} (h : PC P g args R) (hR : ∀ x, R x → R' x) : PC P g args R' :=
  ⟨h.1, fun w vs hi hv => (h.2 w vs hi hv).mono fun e w' ⟨v, x, nb, h1, h2, h3⟩ => ⟨v, x, nb, h1, hR x h2, h3⟩⟩

/-- A function that is given the regions K1, and hands back such regions and perhaps more. -/
def AC [Wd] (P : Program) (g : FuncId) (K1 : KS) (args : List AV) (R : AV → KS → Prop) : Prop := EnterOK P g ∧
  ∀ (w : World) (ρ : RHO) (Y : Nat → Prop) (vs : List Value), (∀ w', Ext (fun b => ∃ j e, kg K1 j = some e ∧ b ∈ fp ρ j) w w' → Wd.I w') →
    (∀ b, Y b → b < w.heap.size ∧ ∀ j e, kg K1 j = some e → b ∉ fp ρ j) → Sees w (OO K1 ρ Y) K1 ρ → XRs w (OO K1 ρ Y) (EK K1 ρ) args vs [] →
    Calls P g vs.toArray w fun e w' => ∃ v r K' ρ', e = .returned v ∧ R r K' ∧ K1.length ≤ K'.length ∧ XR w' (OO K' ρ' Y) (EK K' ρ') r v [] ∧ Sees w' (OO K' ρ' Y) K' ρ' ∧
      Ext (fun b => ∃ j e, kg K1 j = some e ∧ b ∈ fp ρ j) w w' ∧ (∀ j e b, kg K' j = some e → b ∈ fp ρ' j → (∃ i e', kg K1 i = some e' ∧ b ∈ fp ρ i) ∨ w.heap.size ≤ b) ∧
      ∀ j e', j < K1.length → kg K' j = some e' → ∃ e, kg K1 j = some e ∧ (ρ' j).1 = (ρ j).1 ∧ e'.n = e.n ∧ e'.rows.length = e.rows.length
theorem AC.mono [Wd] {P : Program} {g : FuncId} {K1 : KS} {args : List AV} {R R' : AV → KS → Prop} (h : AC P g K1 args R) (hR : ∀ x K, R x K → R' x K) : AC P g K1 args R' :=
  ⟨h.1, fun w ρ Y vs h0 h1 h2 h3 => (h.2 w ρ Y vs h0 h1 h2 h3).mono fun e w' ⟨v, r, K', ρ', h4, h5, h6⟩ => ⟨v, r, K', ρ', h4, hR r K' h5, h6⟩⟩

/-- A call of g: by its contract as a function that writes nothing. -/
def xcallP [Wd] (P : Program) (g : FuncId) (K : KS) (vs : List AV) (k : AV → KS → Prop) (_ : Lk k) : Prop :=
  ∃ R, PC P g (lends K vs) R ∧ ∀ x, R x → k (impo K.length x).1 (K ++ (impo K.length x).2)
/-- .. or, of arguments that are not lent and all of one's regions given, as one that may write them. -/
def xcall [Wd] (P : Program) (g : FuncId) (K : KS) (vs : List AV) (k : AV → KS → Prop) (_ : Lk k) : Prop :=
  xcallP P g K vs k () ∨ ∃ R, AC P g K vs R ∧ ∀ x K', R x K' → k x K'

def xmin (x y : AV) (k : AV → Prop) (_ : Lk k) : Prop :=
  match x, y with
  | .i c a, .i _ b => k (.i c (if b < a then b else a))
  | _, _ => False
def xmax (x y : AV) (k : AV → Prop) (_ : Lk k) : Prop :=
  match x, y with
  | .i c a, .i _ b => k (.i c (if a < b then b else a))
  | _, _ => False
def xconv (t : TI) (x : AV) (k : AV → Prop) (_ : Lk k) : Prop :=
  match t, x with
  | .int c, .i _ a => k (.i c (c.wrap a))
  | _, _ => False
/-- The bytes in rows of one cell, made a string. -/
def byteOf : List AV → Option UInt8
  | [.i .u8 n] => some (UInt8.ofNat n.toNat)
  | _ => none
def bytesOf : List (List AV) → Option (List UInt8)
  | [] => some []
  | r :: rs => match byteOf r, bytesOf rs with
    | some x, some xs => some (x :: xs)
    | _, _ => none
def bsl (P : Program) (t : TypeId) : Bool := match ti P t with
  | .sl e _ => (match ti P e with | .int .u8 => true | _ => false)
  | _ => false
def xbstr (K : KS) (t : TI) (x : AV) (k : AV → Prop) (_ : Lk k) : Prop :=
  match t, x with
  | .str, .sl j => match kg K j with
    | some (.lst 1 rows) => match bytesOf rows with | some s => k (.s s) | none => False
    | _ => False
  | _, _ => False
def isNilC : Operand → Bool
  | .const (.slice none 0 0) => true
  | _ => false
def isSlT (P : Program) (t : TypeId) : Bool := match P.underlying t with | some (.slice _) => true | _ => false
/-- Is it nil: a slice of rows is not; of one without rows it is not told, and both ways are gone. -/
def xisnil (op : BinOp) (x : AV) (k : AV → Prop) (_ : Lk k) : Prop :=
  match op, x with
  | .eql, .imm _ rows => (rows.isEmpty = true → k (.b true)) ∧ k (.b false)
  | .neq, .imm _ rows => (rows.isEmpty = true → k (.b false)) ∧ k (.b true)
  | _, _ => False
def bd (d : Int) : Option AV → Option Int
  | none => some d
  | some (.i _ i) => some i
  | _ => none
/-- A part of a slice that nobody writes, or of a string. -/
def xslc (t : TI) (x : AV) (lo hi : Option AV) (k : AV → Prop) (_ : Lk k) : Prop :=
  match t, x with
  | .sl _ m, .imm n rows => if m = n then match bd 0 lo, bd rows.length hi with
      | some l, some h => XNeed (0 ≤ l ∧ l ≤ h ∧ h ≤ rows.length) (k (.imm n ((rows.take h.toNat).drop l.toNat))) ()
      | _, _ => False
    else False
  | .str, .s x => match bd 0 lo, bd x.length hi with
      | some l, some h => XNeed (0 ≤ l ∧ l ≤ h ∧ h ≤ x.length) (k (.s ((x.take h.toNat).drop l.toNat))) ()
      | _, _ => False
  | _, _ => False
/-- A string's byte. -/
def xsix (t : TI) (x i : AV) (k : AV → Prop) (_ : Lk k) : Prop :=
  match t, x, i with
  | .str, .s x, .i _ i => XNeed (0 ≤ i ∧ i < x.length) (k (.i .u8 ((x.getD i.toNat default).toNat : Int))) ()
  | _, _, _ => False
def tok (P : Program) (t : TypeId) : Bool := (P.underlying t).isSome
/-- The callee's number and what it captured. -/
def xwho (v : AV) (k : FuncId → List AV → Prop) (_ : Lk k) : Prop :=
  match v with
  | .clo g caps => k g caps
  | _ => False

/-- One operation: what must hold for what follows (k, of the value and the regions) to be reached. -/
def xop [Wd] (P : Program) (o : Op) (f : Fr) (K : KS) (k : AV → KS → Prop) (_ : Lk (o, f, k)) : Prop :=
  match o with
  | .move x | .assign x => k (ev f x) K
  | .pick c x y => xpick (ev f c) (ev f x) (ev f y) (fun v => k v K) ()
  | .alloc t => xalloc K (tzc P t) k ()
  | .box _ v => xbox K (ev f v) k ()
  | .build t ps => xbuild K (tbd P t) (ps.toList.map fun p => (p.1, ev f p.2)) (fun v => k v K) ()
  | .buildSlice t len ps => xbslice (slzE P t) K (tse P t) len (ps.toList.map fun p => (p.1, ev f p.2)) k ()
  | .load t x => xload (tk P t) (cellsAt K (ev f x)) (fun v => k v K) ()
  | .store t p v => xstoreX (flT P t) (slz P 9 t) K (tk P t) (ev f p) (ev f v) (fun K => k .u K) ()
  | .binOp op t x y _ => if isNilC y = true then (if isSlT P t = true then xisnil op (ev f x) (fun v => k v K) () else False) else xbin (teqP P t) op (ev f x) (ev f y) (fun v => k v K) ()
  | .unOp op _ x => xun op (ev f x) (fun v => k v K) ()
  | .convert s t x => if bsl P s = true then xbstr K (ti P t) (ev f x) (fun v => k v K) () else if tok P s = true then xconv (ti P t) (ev f x) (fun v => k v K) () else False
  | .makeFunc (.func g) first caps => if first.size = 0 then k (.clo g (caps.toList.map (ev f))) K else False
  | .fieldAddr t x i => xadd K (ev f x) (tfo P t i) (fun v => k v K) ()
  | .indexAddr t x i => xidx K (ti P t) (ev f x) (ev f i) (fun v => k v K) ()
  | .extract x i => xtup (ev f x) i (fun v => k v K) ()
  | .call { callee := .builtin .len, args, argTypes } => match args.toList, argTypes.toList with
    | [x], t :: _ => xlen K (ti P t) (ev f x) (fun v => k v K) ()
    | _, _ => False
  | .call { callee := .builtin .append, args, argTypes } => match args.toList, argTypes.toList with
    | [s, x], t :: tx :: _ => if tnoint P tx = true then xappend K (tse P t) ((tse P t).bind fun q => tb P q.1) (ev f s) (ev f x) k () else False
    | _, _ => False
  | .call { callee := .builtin .min, args, .. } => match args.toList with
    | [x, y] => xmin (ev f x) (ev f y) (fun v => k v K) ()
    | _ => False
  | .call { callee := .builtin .max, args, .. } => match args.toList with
    | [x, y] => xmax (ev f x) (ev f y) (fun v => k v K) ()
    | _ => False
  | .call { callee := .value x, args, .. } => xwho (ev f x) (fun g caps => xcall P g K (args.toList.map (ev f) ++ caps) k ()) ()
  | .makeSlice t l c => xmake (slzE P t) K (tse P t) ((tse P t).bind fun q => tb P q.1) (ev f l) (ev f c) k ()
  | .slice t x lo hi none => xslc (ti P t) (ev f x) (lo.map (ev f)) (hi.map (ev f)) (fun v => k v K) ()
  | .index t x i => xsix (ti P t) (ev f x) (ev f i) (fun v => k v K) ()
  | _ => False
end Go.Proofs.Ytcpelionmmnogaa.Am
