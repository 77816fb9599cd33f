import Derived.Test.YtonidbheohhgdaaGreatAmD
import Derived.Test.YtonidbheohhgdaaGreatPw
namespace Go.Proofs.YtonidbheohhgdaaGreat.Am
open Go
set_option linter.unusedVariables false
set_option linter.unusedSimpArgs false
section
variable {β : Type}
def QjM (v : AV) (k : AV → Option β) (_ : Lk k) : Option β:=k v
def Xl (K : KS) (k : KS → Option β) (_ : Lk k) : Option β:=k K
def Jz {α : Type} (o : Option α) (k : α → Option β) (_ : Lk k) : Option β:=o.bind k
def QzF (te : Option (List CK)) (xs ys : List AV) (k : Bool → Option β) (_ : Lk k) : Option β :=
 match te with
 | some ks=>match Q1 ks xs ys with | some b=>k b | none=>none
 | none=>none
def Qhm (t : TI) (x : AV) (lo hi : Option AV) (k : AV → Option β) (_ : Lk k) : Option β :=
 match t,x with
 | .sl _ m,.imm n rows=>if m = n then match bd 0 lo,bd rows.length hi with
   | some l,some h=>Vg (slB l h rows.length) (k (.imm n (cut rows l h))) ()
   | _,_=>none
  else none
 | .str,.s x=>match bd 0 lo,bd x.length hi with
   | some l,some h=>Vg (slB l h x.length) (k (.s (cut x l h))) ()
   | _,_=>none
 | _,_=>none
def Qxl (t : TI) (x i : AV) (k : AV → Option β) (_ : Lk k) : Option β :=
 match t,x,i with
 | .str,.s x,.i _ i=>Vg (inb x i) (k (.i .u8 ((gt x i).toNat : Int))) ()
 | _,_,_=>none
def JZ (te : Option (List CK)) (op : BinOp) (x y : AV) (k : AV → Option β) (_ : Lk k) : Option β :=
 match x,y with
 | .agg xs,.agg ys=>match op with
  | .eql=>QzF te xs ys (fun b=>k (.b b)) ()
  | .neq=>QzF te xs ys (fun b=>k (.b (!b))) ()
  | _=>none
 | .b a,.b b=>match te,op with
  | some [.t],.eql=>k (.b (decide (a = b)))
  | some [.t],.neq=>k (.b (!decide (a = b)))
  | _,_=>none
 | .i c a,.i d b=>if QfY op = true then Vg (decide (0 ≤ b)) (k (.i c (shI op c a b))) () else if c = d then match op with
  | .add=>k (.i c (c.wrap (a + b))) | .sub=>k (.i c (c.wrap (a - b))) | .mul=>k (.i c (c.wrap (a * b)))
  | .and=>k (.i c (QeQ .and c a b)) | .or=>k (.i c (QeQ .or c a b)) | .xor=>k (.i c (QeQ .xor c a b))
  | .quo=>Vg (!decide (b = 0)) (k (.i c (c.wrap (a.tdiv b)))) () | .rem=>Vg (!decide (b = 0)) (k (.i c (a.tmod b))) ()
  | .eql=>k (.b (decide (a = b))) | .neq=>k (.b (!decide (a = b))) | .lss=>k (.b (decide (a < b))) | .leq=>k (.b (decide (a ≤ b)))
  | .gtr=>k (.b (decide (b < a))) | .geq=>k (.b (decide (b ≤ a)))
  | _=>none
  else none
 | .s a,.s b=>match op with
  | .add=>Vg (decide (a.length + b.length ≤ 9223372036854775807)) (k (.s (a ++ b))) () | .eql=>k (.b (decide (a = b))) | .neq=>k (.b (!decide (a = b)))
  | _=>none
 | _,_=>none
open Classical in
noncomputable def oeq (a b : Option β) : Option β:=if a = b then a else none
noncomputable def QkN (b : Bool) (x y : Option β) : Option β:=cond b (oeq x y) y
noncomputable def Qkb (op : BinOp) (x : AV) (k : AV → Option β) (_ : Lk k) : Option β :=
 match op,x with
 | .eql,.imm _ rows=>QkN rows.isEmpty (k (.b true)) (k (.b false))
 | .neq,.imm _ rows=>QkN rows.isEmpty (k (.b false)) (k (.b true))
 | _,_=>none
def QsZ (e : Option Ent) (x : AV) (k : AV → Option β) (_ : Lk k) : Option β :=
 match e with
 | some _=>k x
 | none=>none
def Qxx (K : KS) (x : AV) (k : AV → Option β) (_ : Lk k) : Option β :=
 match x with
 | .ptr j i o=>QsZ (kg K j) (.ptr j i o) k ()
 | .iptr n r i o=>k (.iptr n r i o)
 | _=>none
def oun (op : UnOp) (x : AV) (k : AV → Option β) (_ : Lk k) : Option β :=
 match op,x with
 | .not,.b x=>k (.b (!x))
 | .neg,.i c a=>k (.i c (c.wrap (-a)))
 | _,_=>none
def QmE (c x y : AV) (k : AV → Option β) (_ : Lk k) : Option β :=
 match c with
 | .b c=>cond c (k x) (k y)
 | _=>none
def QpB (K : KS) (t : TI) (x : AV) (k : AV → Option β) (_ : Lk k) : Option β :=
 match t,x with
 | .sl _ _,.nil=>k (.i .i64 0)
 | .sl _ _,.imm _ rows=>k (.i .i64 rows.length)
 | .sl _ _,.sl j=>match kg K j with | some e=>k (.i .i64 e.rows.length) | none=>none
 | .str,.s x=>k (.i .i64 x.length)
 | .arr n _ _,_=>k (.i .i64 n)
 | _,_=>none
def QvE (K : KS) (x : AV) (o : Option (Nat × TK)) (k : AV → Option β) (_ : Lk k) : Option β :=
 match x,o with
 | .ptr j i p,some (o,_)=>match kg K j with | some _=>k (.ptr j i (p + o)) | none=>none
 | .iptr n rows i p,some (o,_)=>k (.iptr n rows i (p + o))
 | _,_=>none
def Qpf (K : KS) (t : TI) (x i : AV) (k : AV → Option β) (_ : Lk k) : Option β :=
 match t,x,i with
 | .sl _ m,.imm n rows,.i _ i=>if m = n then Vg (inb rows i) (k (.iptr n rows i.toNat 0)) () else none
 | .sl _ m,.sl j,.i _ i=>match kg K j with
  | some e=>if m = e.n then Vg (inb e.rows i) (k (.ptr j i.toNat 0)) () else none
  | none=>none
 | .arr len _ m,.ptr j r o,.i _ i=>match kg K j with
  | some e=>Vg (QuL len i) (k (.ptr j r (o + i.toNat * m))) ()
  | none=>none
 | _,_,_=>none
def QfK (t : TK) (cs : List AV) (k : AV → Option β) (_ : Lk k) : Option β :=
 match t with
 | .one=>match cs with | c :: _=>k c | []=>none
 | .agg m=>if 0 < m ∧ m ≤ cs.length then k (.agg (cs.take m)) else none
 | .bad=>none
def Qxd (o : Option (Nat × TK)) (x : AV) (k : AV → Option β) (_ : Lk k) : Option β :=
 match o,x with
 | some (o,t),.agg cs=>QfK t (cs.drop o) k ()
 | _,_=>none
def Qho (cs : List AV) (o : Nat) (t : TK) (v : AV) (ok : AV → Bool) (k : List AV → Option β) (_ : Lk k) : Option β :=
 match t,v with
 | .agg m,.agg ds=>if m = ds.length ∧ o + m ≤ cs.length ∧ ds.all ok = true then k (putCells cs o ds) else none
 | .one,v=>if o < cs.length ∧ ok v = true then k (cs.set o v) else none
 | _,_=>none
def QjR (K : KS) (t : TK) (p v : AV) (k : KS → Option β) (_ : Lk k) : Option β :=
 match p with
 | .ptr j i o=>match kg K j with
  | some (.box cs)=>if i = 0 then Qho cs o t v (ZM K) (fun cs=>Xl (K.set j (some (.box cs))) k ()) () else none
  | some (.lst n rows)=>if i < rows.length then Qho (QK rows i) o t v AV.closed (fun r=>Xl (K.set j (some (.lst n (rows.set i r)))) k ()) () else none
  | none=>none
 | _=>none
def Qic (ns : List Nat) (K : KS) (t : TK) (j i o n : Nat) (rows : List (List AV)) (v : AV) (k : KS → Option β) (_ : Lk k) : Option β :=
 if i < rows.length then match VF K (Qac v) with
  | some (K1,ds)=>if (kg K1 j).isSome = true ∧ Qn3 t v ds.length = true ∧ o + ds.length ≤ (QK rows i).length then Xl (K1.set j (some (.lst n (rows.set i (putCells (QK rows i) o (nz ns ds)))))) k () else none
  | none=>none
 else none
def Qij (fl : Bool) (ns : List Nat) (K : KS) (t : TK) (p v : AV) (k : KS → Option β) (_ : Lk k) : Option β :=
 match p with
 | .ptr j i o=>match kg K j with
  | some (.lst n rows)=>if (Qac v).all clq = true then QjR K t p v k () else if fl = false then Qic ns K t j i o n rows v k () else none
  | _=>QjR K t p v k ()
 | _=>none
def Qrr (K : KS) (v : AV) (k : AV → KS → Option β) (_ : Lk k) : Option β :=
 match v with
 | .agg cs=>if cs.all (ZM K) = true then Xl (K ++ [some (.box cs)]) (fun K'=>k (.ptr K.length 0 0) K') () else none
 | v=>if ZM K v = true then Xl (K ++ [some (.box [v])]) (fun K'=>k (.ptr K.length 0 0) K') () else none
def QlL (K : KS) (z : Option (List AV)) (k : AV → KS → Option β) (_ : Lk k) : Option β :=
 match z with
 | some cs=>Xl (K ++ [some (.box cs)]) (fun K'=>k (.ptr K.length 0 0) K') ()
 | none=>none
def QjU (K : KS) (t : TB) (parts : List (Nat × AV)) (k : AV → Option β) (_ : Lk k) : Option β :=
 match t with
 | .st z p=>match QaO K (p[·]?) z parts with | some cs=>k (.agg cs) | none=>none
 | .arr z m=>match QaO K (fun i=>some (i * m,m)) z parts with | some cs=>k (.agg cs) | none=>none
 | .bad=>none
def yB : Bool → List AV → Bool
 | false,_=>true
 | true,cs=>noS cs
def QgX (fl : Bool) (ns : List Nat) (K : KS) (t : Option (TypeId × Nat × List AV)) (len : Nat) (parts : List (Nat × AV)) (k : AV → KS → Option β) (_ : Lk k) : Option β :=
 match t with
 | some (_,m,z)=>if len = 0 then (match parts with | []=>Xl (K ++ [some (.lst m [])]) (fun K'=>k (.sl K.length) K') () | _=>none)
  else if len * m ≤ 16777216 then match QaO K (fun i=>some (i * m,m)) (Qdw len z) parts with
  | some cs=>cond (yB fl cs) (match VF K cs with
   | some (K1,cs)=>Xl (K1 ++ [some (.lst m ((Qbu m len cs).map (nz ns)))]) (fun K'=>k (.sl K.length) K') ()
   | none=>none) none
  | none=>none
  else none
 | none=>none
def Qxq (v : AV) (i : Nat) (k : AV → Option β) (_ : Lk k) : Option β :=
 match v with
 | .tup cs=>match cs[i]? with | some c=>k c | none=>none
 | _=>none
def Qk9 (K : KS) (t : Option (TypeId × Nat × List AV)) (bytes : Option Nat) (s x : AV) (k : AV → KS → Option β) (_ : Lk k) : Option β :=
 match t,bytes with
 | some (_,m,_),some (b + 1)=>match QcP K m x with
  | some (rows',K1)=>match s with
   | .sl j=>match kg K1 j with
    | some (.lst n rows)=>if n = m then Vg (decide ((rows.length + rows'.length) * (b + 1) ≤ 140737488355328)) (Xl (K1.set j none ++ [some (.lst m (rows ++ rows'))]) (fun K'=>k (.sl K.length) K') ()) () else none
    | _=>none
   | .nil=>Vg (decide (rows'.length * (b + 1) ≤ 140737488355328)) (Xl (K1 ++ [some (.lst m rows')]) (fun K'=>k (.sl K.length) K') ()) ()
   | _=>none
  | none=>none
 | _,_=>none
def QvZ (x y : AV) (k : AV → Option β) (_ : Lk k) : Option β :=
 match x,y with
 | .i c a,.i _ b=>k (.i c (if b < a then b else a))
 | _,_=>none
def Qyu (x y : AV) (k : AV → Option β) (_ : Lk k) : Option β :=
 match x,y with
 | .i c a,.i _ b=>k (.i c (if a < b then b else a))
 | _,_=>none
def QqS (t : TI) (x : AV) (k : AV → Option β) (_ : Lk k) : Option β :=
 match t,x with
 | .int c,.i _ a=>k (.i c (c.wrap a))
 | _,_=>none
def QqU (K : KS) (t : TI) (x : AV) (k : AV → Option β) (_ : Lk k) : Option β :=
 match t,x with
 | .str,.sl j=>match kg K j with
  | some (.lst 1 rows)=>match Qco rows with | some s=>k (.s s) | none=>none
  | _=>none
 | _,_=>none
def Qrj (v : AV) (k : FuncId → List AV → Option β) (_ : Lk k) : Option β :=
 match v with
 | .clo g caps=>k g caps
 | _=>none
def Qs6 (ns : List Nat) (K : KS) (t : Option (TypeId × Nat × List AV)) (bytes : Option Nat) (l c : AV) (k : AV → KS → Option β) (_ : Lk k) : Option β :=
 match t,bytes,l,c with
 | some (_,m,z),some (b + 1),.i .i64 l,.i .i64 c =>
  Vg (decide (l = c)) (Vg (mkB l (b + 1)) (Xl (K ++ [some (.lst m (List.replicate l.toNat (nz ns z)))]) (fun K'=>k (.sl K.length) K') ()) ()) ()
 | _,_,_,_=>none
structure Orc where
 p : FuncId → List AV → Option AV
 l : Nat → Fr → KS → Option (XE × Fr × KS)
 s : FuncId → Bool:=fun _=>false
 q : FuncId → Bool:=fun _=>false
 w : FuncId → Bool:=fun _=>false
 a : FuncId → KS → List AV → Option (AV × KS):=fun _ _ _=>none
 z : FuncId → List Sh:=fun _=>[]
 v : FuncId → Bool:=fun _=>false
 m : FuncId → KS → List AV → Option AV:=fun _ _ _=>none
def cI (x : Int) : List AV:=[.i .i64 x]
def QcS : List (List AV) → Option (List Int)
 | []=>some []
 | [.i .i64 x] :: r=>(QcS r).map (x :: ·)
 | _=>none
def Qnx (K : KS) (vs : List AV) (k : AV → KS → Option β) (_ : Lk k) : Option β :=
 match vs with
 | [.sl j]=>match kg K j with
  | some (.lst 1 rows)=>match QcS rows with
   | some xs=>Vg (decide (xs.length < 4611686018427387904)) (Xl (K.set j (some (.lst 1 ((Xi xs).map cI)))) (fun K=>k (.tup []) K) ()) ()
   | none=>none
  | _=>none
 | _=>none
def QfO (D : Orc) (g : FuncId) (K : KS) (vs : List AV) (k : AV → KS → Option β) (_ : Lk k) : Option β :=
 Jz (D.p g (Qm0 (D.z g) (Qc6 K vs))) (fun x=>k (VY K.length x).1 (K ++ (VY K.length x).2)) ()
noncomputable def oop (P : Program) (D : Orc) (o : Op) (f : Fr) (K : KS) (k : AV → KS → Option β) (_ : Lk (o,f,k)) : Option β :=
 match o with
 | .move x | .assign x=>k (ev f x) K
 | .pick c x y=>QmE (ev f c) (ev f x) (ev f y) (fun v=>k v K) ()
 | .alloc t=>QlL K (tzc P t) k ()
 | .box _ v=>Qrr K (ev f v) k ()
 | .build t ps=>QjU K (tbd P t) (ps.toList.map fun p=>(p.1,ev f p.2)) (fun v=>k v K) ()
 | .buildSlice t len ps=>QgX (zB (QdS P t)) (QdS P t) K (tse P t) len (ps.toList.map fun p=>(p.1,ev f p.2)) k ()
 | .load t x=>QfK (tk P t) (Jp K (ev f x)) (fun v=>k v K) ()
 | .store t p v=>Qij (flT P t) (slz P 9 t) K (tk P t) (ev f p) (ev f v) (fun K=>k .u K) ()
 | .binOp op t x y _=>if QbZ y = true then (if Qex P t = true then Qkb op (ev f x) (fun v=>k v K) () else none) else JZ (QkX P t) op (ev f x) (ev f y) (fun v=>k v K) ()
 | .unOp op _ x=>oun op (ev f x) (fun v=>k v K) ()
 | .convert s t x=>if bsl P s = true then QqU K (ti P t) (ev f x) (fun v=>k v K) () else if tok P s = true then QqS (ti P t) (ev f x) (fun v=>k v K) () else none
 | .makeFunc (.func g) first caps=>if first.size = 0 then k (.clo g (caps.toList.map (ev f))) K else none
 | .fieldAddr t x i=>QvE K (ev f x) (tfo P t i) (fun v=>k v K) ()
 | .indexAddr t x i=>Qpf K (ti P t) (ev f x) (ev f i) (fun v=>k v K) ()
 | .extract x i=>Qxq (ev f x) i (fun v=>k v K) ()
 | .call { callee:=.builtin .len,args,argTypes }=>match args.toList,argTypes.toList with
  | [x],t :: _=>QpB K (ti P t) (ev f x) (fun v=>k v K) ()
  | _,_=>none
 | .call { callee:=.builtin .append,args,argTypes }=>match args.toList,argTypes.toList with
  | [s,x],t :: tx :: _=>if Qba P tx = true ∧ (QbZ s && Qfb (ev f x)) = false then Qk9 K (tse P t) ((tse P t).bind fun q=>tb P q.1) (ev f s) (ev f x) k () else none
  | _,_=>none
 | .call { callee:=.builtin .min,args,.. }=>match args.toList with
  | [x,y]=>QvZ (ev f x) (ev f y) (fun v=>k v K) ()
  | _=>none
 | .call { callee:=.builtin .max,args,.. }=>match args.toList with
  | [x,y]=>Qyu (ev f x) (ev f y) (fun v=>k v K) ()
  | _=>none
 | .call { callee:=.value x,args,.. }=>Qrj (ev f x) (fun g caps=>QfO D g K (args.toList.map (ev f) ++ caps) k ()) ()
 | .makeSlice t l c=>Qs6 (QdS P t) K (tse P t) ((tse P t).bind fun q=>tb P q.1) (ev f l) (ev f c) k ()
 | .slice t x lo hi none=>Qhm (ti P t) (ev f x) (lo.map (ev f)) (hi.map (ev f)) (fun v=>k v K) ()
 | .index t x i=>Qxl (ti P t) (ev f x) (ev f i) (fun v=>k v K) ()
 | .nilCheck x=>Qxx K (ev f x) (fun v=>k v K) ()
 | .field t x i=>Qxd (tfo P t i) (ev f x) (fun v=>k v K) ()
 | _=>none
def ogd (s : Option Tmp) (want : Bool) (f : Fr) (yes no : Fr → Option β) (_ : Lk (f,yes,no)) : Option β :=
 match s with
 | some d=>match f d with
  | .b x=>cond x (if want = true then yes (up f d (.b true)) else no (up f d (.b true))) (if want = true then no (up f d (.b false)) else yes (up f d (.b false)))
  | .tup []=>no f
  | _=>none
 | none=>none
def Qe6 (d : Option Tmp) (v : AV) (f : Fr) (k : Fr → Option β) (_ : Lk (f,k)) : Option β :=
 match d with
 | some d=>QjM v (fun v=>k (up f d v)) ()
 | none=>k f
noncomputable def Qde (P : Program) (D : Orc) (ops : Array Oper) : (l : List Oper) → (f : Fr) → (K : KS) → (k : Fr → KS → Option β) → (_ : Lk (l,f,k)) → Option β
 | [],f,K,k,_=>k f K
 | o :: r,f,K,k,_=>match o.guard with
  | none=>oop P D o.op f K (fun v K'=>Qe6 o.dst v f (fun f=>Qde P D ops r f K' k ()) ()) ()
  | some (j,want)=>ogd ((ops[j]?).bind (·.dst)) want f (fun f=>oop P D o.op f K (fun v K'=>Qe6 o.dst v f (fun f=>Qde P D ops r f K' k ()) ()) ()) (fun f=>Qe6 o.dst (.tup []) f (fun f=>Qde P D ops r f K k ()) ()) ()
def QmT (K : KS) (vs : List AV) (k : AV → KS → Option β) (_ : Lk k) : Option β :=
 match vs with
 | [.sl j]=>match kg K j with
  | some (.lst 1 rows)=>match QcS rows with
   | some xs=>Vg (decide (xs.length < 4611686018427387904)) (Xl (K.set j none ++ [some (.lst 1 ((Xv xs).map cI))]) (fun K'=>k (.sl K.length) K') ()) ()
   | none=>none
  | _=>none
 | _=>none
def ndB : List Nat → Bool
 | []=>true
 | x :: l=>!l.contains x && ndB l
def QrG : KS → Bool
 | []=>true
 | some (.lst _ _) :: l=>QrG l
 | _ :: _=>false
def Qh2 : KS → Bool
 | []=>true
 | some (.lst _ _) :: l=>Qh2 l
 | some (.box cs) :: l=>Qo6 cs && Qh2 l
 | none :: _=>false
def Qlh (D : Orc) (g : FuncId) (K : KS) (js : List Nat) (cs : Option (List AV)) (k : AV → KS → Option β) (_ : Lk k) : Option β :=
 match cs with
 | some cs=>Vg (Qh2 (Jr K js)) (Jz (D.a g (Jr K js) cs) (fun r=>k (QbQ js K.length r.1) (QdH K js r.2)) ()) ()
 | none=>none
def Qlf (D : Orc) (g : FuncId) (K : KS) (js : List Nat) (vs : List AV) (k : AV → KS → Option β) (_ : Lk (vs,k)) : Option β :=
 Vg (ndB js) (Qlh D g K js (Qcy js vs) k ()) ()
def Qke (D : Orc) (g : FuncId) (K : KS) (vs : List AV) (k : AV → KS → Option β) (_ : Lk k) : Option β:=Qlf D g K (QeE vs) vs k ()
def Qk7 (D : Orc) (g : FuncId) (K : KS) (js : List Nat) (cs : Option (List AV)) (k : AV → KS → Option β) (_ : Lk k) : Option β :=
 match cs with
 | some cs=>Vg (QrG (Jr K js)) (Jz (D.m g (Jr K js) cs) (fun x=>k (VY K.length x).1 (Zl K js (QaK js) ++ (VY K.length x).2)) ()) ()
 | none=>none
def Qk3 (D : Orc) (g : FuncId) (K : KS) (js : List Nat) (vs : List AV) (k : AV → KS → Option β) (_ : Lk (vs,k)) : Option β :=
 Vg (ndB js) (Qk7 D g K js (Qcy js vs) k ()) ()
def Qh1 (D : Orc) (g : FuncId) (K : KS) (vs : List AV) (k : AV → KS → Option β) (_ : Lk k) : Option β:=Qk3 D g K (QeE vs) vs k ()
noncomputable def QcF (P : Program) (D : Orc) (o : Op) (f : Fr) (K : KS) (k : AV → KS → Option β) (_ : Lk (o,f,k)) : Option β :=
 match o with
 | .call { callee:=.value x,args,.. }=>Qrj (ev f x) (fun g caps=>cond (D.s g) (Qnx K (args.toList.map (ev f) ++ caps) k ()) (cond (D.q g) (QmT K (args.toList.map (ev f) ++ caps) k ()) (cond (D.w g) (Qke D g K (args.toList.map (ev f) ++ caps) k ()) (cond (D.v g) (Qh1 D g K (args.toList.map (ev f) ++ caps) k ()) (QfO D g K (args.toList.map (ev f) ++ caps) k ()))))) ()
 | o=>oop P D o f K k ()
noncomputable def QfP (P : Program) (D : Orc) (ops : Array Oper) : (l : List Oper) → (f : Fr) → (K : KS) → (k : Fr → KS → Option β) → (_ : Lk (l,f,k)) → Option β
 | [],f,K,k,_=>k f K
 | o :: r,f,K,k,_=>match o.guard with
  | none=>QcF P D o.op f K (fun v K'=>Qe6 o.dst v f (fun f=>QfP P D ops r f K' k ()) ()) ()
  | some _=>none
noncomputable def QkA (vs : List Nat) (P : Program) (D : Orc) (o : Op) (f : Fr) (K : KS) (k : AV → KS → Option β) (_ : Lk (o,f,k)) : Option β :=
 match o with
 | .call { callee:=.value (.func g),args,argTypes }=>cond (vs.contains g) (QcF P D (.call { callee:=.value (.func g),args,argTypes }) f K k ()) (oop P D (.call { callee:=.value (.func g),args,argTypes }) f K k ())
 | o=>oop P D o f K k ()
noncomputable def ZS (vs : List Nat) (P : Program) (D : Orc) (ops : Array Oper) : (l : List Oper) → (f : Fr) → (K : KS) → (k : Fr → KS → Option β) → (_ : Lk (l,f,k)) → Option β
 | [],f,K,k,_=>k f K
 | o :: r,f,K,k,_=>match o.guard with
  | none=>QkA vs P D o.op f K (fun v K'=>Qe6 o.dst v f (fun f=>ZS vs P D ops r f K' k ()) ()) ()
  | some (j,want)=>ogd ((ops[j]?).bind (·.dst)) want f (fun f=>QkA vs P D o.op f K (fun v K'=>Qe6 o.dst v f (fun f=>ZS vs P D ops r f K' k ()) ()) ()) (fun f=>Qe6 o.dst (.tup []) f (fun f=>ZS vs P D ops r f K k ()) ()) ()
def onr (D : Orc) (f : Fr) (K : KS) (j i o q : Nat) (rows : List (List AV)) (r : AV × KS) (k : AV → KS → Option β) (_ : Lk k) : Option β :=
 match r.2 with
 | [some (.lst m rs')]=>Vg (r.1.flat && Nat.blt i rows.length) (Xl (Qni K j i o q m rows rs') (fun K'=>k r.1 K') ()) ()
 | _=>none
def onx (D : Orc) (f : Fr) (K : KS) (x : AV) (g : FuncId) (j i o q : Nat) (rows : List (List AV)) (cs : List AV) (k : AV → KS → Option β) (_ : Lk k) : Option β :=
 match cs with
 | .own m rs :: _=>Vg x.scal (Jz (D.a g [some (.lst m rs)] [.sl 0,x]) (fun r=>onr D f K j i o q rows r k ()) ()) ()
 | _=>none
def onj (D : Orc) (f : Fr) (K : KS) (x : AV) (g : FuncId) (j i o : Nat) (e : Option Ent) (k : AV → KS → Option β) (_ : Lk k) : Option β :=
 match e with
 | some (.lst q rows)=>onx D f K x g j i o q rows ((QK rows i).drop o) k ()
 | _=>none
def onp (D : Orc) (f : Fr) (K : KS) (p x : AV) (g : FuncId) (k : AV → KS → Option β) (_ : Lk k) : Option β :=
 match p with
 | .ptr j i o=>onj D f K x g j i o (kg K j) k ()
 | _=>none
def QyI : TK → Bool
 | .one=>true
 | _=>false
noncomputable def Qhy (P : Program) (D : Orc) (ops : Array Oper) : (us : List Nat) → (l : List Oper) → (f : Fr) → (K : KS) → (k : Fr → KS → Option β) → (_ : Lk (l,f,k)) → Option β
 | _ :: us,o :: r,f,K,k,_=>match o.guard with
  | none=>oop P D o.op f K (fun v K'=>Qe6 o.dst v f (fun f=>Qhy P D ops us r f K' k ()) ()) ()
  | some _=>none
 | [],⟨some d,.load t p,_,_,_,none⟩ :: ⟨some e,.move x,_,_,_,none⟩ :: ⟨dst,.call ⟨.value (.func g),args,_⟩,_,_,_,none⟩ :: r,f,K,k,_=>match args.toList with
  | [.tmp d',.tmp e']=>Vg (QyI (tk P t) && (Nat.beq d d' && (Nat.beq e e' && !Nat.beq d e))) (onp D f K (ev f p) (ev (up f d (.sl K.length)) x) g (fun v K'=>Qe6 dst v (up (up f d (.sl K.length)) e (ev (up f d (.sl K.length)) x)) (fun f=>QfP P D ops r f K' k ()) ()) ()) ()
  | _=>none
 | _,_,_,_,_,_=>none
inductive Pt where
 | r (i : Nat) | s (t n : Nat) | c (q o n : Nat) | g (t o n : Nat)
structure LA where
 sl : List Nat
 rg : List Pt
 xs : List Nat
 xr : List Pt
structure Ann where
 ord : List (Nat × List Nat):=[]
 ot : List (Nat × OT):=[]
 ac : List (Nat × Nat):=[]
 av : List (Nat × List Nat):=[]
 an : List (Nat × List Nat):=[]
 eb : List (Nat × List Nat):=[]
 ak : List Nat:=[]
 jn : List (Nat × (Nat × Nat × Nat)):=[]
 lp : List (Nat × LA):=[]
 rt : LA:=⟨[],[],[],[]⟩
 sh : List Sh:=[]
 fz : List (Nat × List Nat):=[]
 fc : List (Nat × List (Nat × Nat)):=[]
 nr : Option (List Pt):=none
def lk {α : Type} : List (Nat × α) → Nat → Option α
 | [],_=>none
 | (i,x) :: l,j=>cond (i == j) (some x) (lk l j)
def mtI (tb : List (Nat × (Nat × Nat))) (g : Nat) (K : KS) (args : List AV) : Option AV:=match K,args with
 | [some (.lst n R),some (.lst m V)],[.sl 0,.i .i64 i,.sl 1]=>match lk tb g with
  | some (k,b)=>if n = k ∧ m = k ∧ Ql R = true ∧ Ql V = true then Vg (Qdy R i V b) (some (.own k (Q6 R i V))) () else none
  | none=>none
 | _,_=>none
def VV : (l : List Pt) → (f : Fr) → (K : KS) → (π : List Nat) → (k : Fr → KS → List Nat → Option β) → (_ : Lk (f,k)) → Option β
 | [],f,K,π,k,_=>k f K π
 | .r i :: l,f,K,π,k,_=>VV l f K (π ++ [i]) k ()
 | .s t n :: l,f,K,π,k,_=>match f t with
  | .sl j=>VV l f K (π ++ [j]) k ()
  | .ptr j _ _=>VV l f K (π ++ [j]) k ()
  | .nil=>VV l (up f t (.sl K.length)) (K ++ [some (.lst n [])]) (π ++ [K.length]) k ()
  | _=>none
 | .c q o n :: l,f,K,π,k,_=>match π[q]? with
  | some j=>match kg K j with
   | some (.box cs)=>match cs[o]? with
    | some (.sl i)=>VV l f K (π ++ [i]) k ()
    | some (.ptr i _ _)=>VV l f K (π ++ [i]) k ()
    | _=>none
   | _=>none
  | none=>none
 | .g t o n :: l,f,K,π,k,_=>match f t with
  | .agg cs=>match cs[o]? with
   | some (.sl j)=>VV l f K (π ++ [j]) k ()
   | some .nil=>VV l (up f t (.agg (cs.set o (.sl K.length)))) (K ++ [some (.lst n [])]) (π ++ [K.length]) k ()
   | _=>none
  | _=>none
def QzX (K : KS) (π : List Nat) : KS:=π.map fun j=>(kg K j).map (Qh3 π)
def frl (f : Fr) (π : List Nat) : List Nat → List (Nat × AV)
 | []=>[]
 | t :: l=>(t,ren π (f t)) :: frl f π l
def QBD (f : Fr) (π : List Nat) (l : List Nat) : Fr:=frm (frl f π l)
def pfx : List Nat → List Nat → Bool
 | [],_=>true
 | x :: l,y :: m=>Nat.beq x y && pfx l m
 | _ :: _,[]=>false
def onz (z π : List Nat) (q : Option β) (_ : Lk q) : Option β :=
 match z with
 | []=>q
 | x :: l=>Vg (pfx (x :: l) π) q ()
def QeD (z : List Nat) (sl : List Nat) (rg : List Pt) (f : Fr) (K : KS) (k : Fr → KS → Option β) (_ : Lk (f,k)) : Option β :=
 VV rg f K [] (fun f K π=>Vg (ndB π) (onz z π (Xl (QzX K π) (fun K'=>k (QBD f π sl) K') ()) ()) ()) ()
def tag : Code → Nat
 | .region id _ _=>id
 | .seq a _=>tag a
 | .cond _ a _=>tag a
 | .block _ c=>tag c
 | .loop c=>tag c
 | _=>0
def QZ (t : Nat) : Code → Option Code
 | .seq a b=>(QZ t a).or (QZ t b)
 | .cond _ a b=>(QZ t a).or (QZ t b)
 | .block _ c=>QZ t c
 | .loop c=>cond (tag c == t) (some c) (QZ t c)
 | _=>none
def QnI (o : Option Bool) (k : Bool → Option β) (_ : Lk k) : Option β:=o.bind k
def Qkr (b : Bool) : Option Bool:=some b
def asB : AV → Option Bool
 | .b x=>Qkr x
 | _=>none
def Qvg (lo hi : Nat) (f : Fr) : Fr:=fun t=>cond (Nat.ble lo t && Nat.blt t hi) .u (f t)
abbrev KT (β : Type):=XE → Fr → KS → Option β
def Qqr (k : Fr → KS → Option β) (Q : KT β) : KT β
 | .normal,f,K=>k f K
 | e,f,K=>Q e f K
def Quz (id : Nat) (Q : KT β) : KT β
 | .exit id',f,K=>cond (id' == id) (Q .normal f K) (Q (.exit id') f K)
 | e,f,K=>Q e f K
noncomputable def QmN (P : Program) (D : Orc) (a : Ann) (id : Nat) (ops : Array Oper) (l : List Oper) (Q : KT β) (f : Fr) (K : KS) (_ : Lk (l,Q,f)) : Option β :=
 match lk a.jn id with
 | none=>Qde P D ops l f K (fun f K=>Q .normal f K) ()
 | some (s,lo,hi)=>QnI (Qde P D ops l f K (fun f _=>asB (f s)) ()) (fun c=>Q .normal (up (Qvg lo hi f) s (.b c)) K) ()
def QqV (ops : Array Oper) : Option (List Nat) → List Oper
 | none=>ops.toList
 | some is=>is.filterMap (ops[·]?)
noncomputable def QdO (P : Program) (D : Orc) (ops : Array Oper) : (t : OT) → (f : Fr) → (K : KS) → (k : Fr → KS → Option β) → (_ : Lk (f,k)) → Option β
 | .done,f,K,k,_=>k f K
 | .one i t,f,K,k,_=>match ops[i]? with
  | some o=>Qde P D ops [o] f K (fun f K=>QdO P D ops t f K k ()) ()
  | none=>none
 | .alt a b,f,K,k,_=>oeq (QdO P D ops a f K k ()) (QdO P D ops b f K k ())
noncomputable def Qgb (P : Program) (D : Orc) (a : Ann) (id : Nat) (ops : Array Oper) (t : Option OT) (Q : KT β) (f : Fr) (K : KS) (_ : Lk (ops,Q,f)) : Option β :=
 match t with
 | some t=>QdO P D ops t f K (fun f K=>Q .normal f K) ()
 | none=>QmN P D a id ops (QqV ops (lk a.ord id)) Q f K ()
noncomputable def QqW (P : Program) (D : Orc) (a : Ann) (id : Nat) (c : Option Nat) (ops : Array Oper) (l : List Oper) (Q : KT β) (f : Fr) (K : KS) (_ : Lk (l,Q,f)) : Option β :=
 match c with
 | none=>QmN P D a id ops l Q f K ()
 | some _=>QfP P D ops l f K (fun f K=>Q .normal f K) ()
noncomputable def QpT (P : Program) (D : Orc) (a : Ann) (id : Nat) (ds : Option (List Nat)) (ops : Array Oper) (Q : KT β) (f : Fr) (K : KS) (_ : Lk (ops,Q,f)) : Option β :=
 match ds with
 | none=>Qgb P D a id ops (lk a.ot id) Q f K ()
 | some ds=>Qgb P D a id (ops.map (Jg ds)) (lk a.ot id) Q f K ()
noncomputable def QpO (P : Program) (D : Orc) (a : Ann) (id : Nat) (us : Option (List Nat)) (ops : Array Oper) (l : List Oper) (Q : KT β) (f : Fr) (K : KS) (_ : Lk (l,Q,f)) : Option β :=
 match us with
 | none=>QqW P D a id (lk a.ac id) ops l Q f K ()
 | some us=>Qhy P D ops us l f K (fun f K=>Q .normal f K) ()
noncomputable def QbY (vs : List Nat) (P : Program) (D : Orc) (ops : Array Oper) : (t : OT) → (f : Fr) → (K : KS) → (k : Fr → KS → Option β) → (_ : Lk (f,k)) → Option β
 | .done,f,K,k,_=>k f K
 | .one i t,f,K,k,_=>match ops[i]? with
  | some o=>ZS vs P D ops [o] f K (fun f K=>QbY vs P D ops t f K k ()) ()
  | none=>none
 | .alt a b,f,K,k,_=>oeq (QbY vs P D ops a f K k ()) (QbY vs P D ops b f K k ())
noncomputable def Qtx (vs : List Nat) (P : Program) (D : Orc) (ops : Array Oper) (o : Option (List Nat)) (Q : KT β) (f : Fr) (K : KS) (_ : Lk (ops,Q,f)) : Option β:=ZS vs P D ops (QqV ops o) f K (fun f K=>Q .normal f K) ()
noncomputable def Qpq (vs : List Nat) (P : Program) (D : Orc) (a : Ann) (id : Nat) (t : Option OT) (ops : Array Oper) (Q : KT β) (f : Fr) (K : KS) (_ : Lk (ops,Q,f)) : Option β :=
 match t with
 | some t=>QbY vs P D ops t f K (fun f K=>Q .normal f K) ()
 | none=>Qtx vs P D ops (lk a.ord id) Q f K ()
noncomputable def QiE (P : Program) (D : Orc) (a : Ann) (id : Nat) (vs : Option (List Nat)) (ops : Array Oper) (Q : KT β) (f : Fr) (K : KS) (_ : Lk (ops,Q,f)) : Option β :=
 match vs with
 | none=>QpO P D a id (lk a.an id) ops ops.toList Q f K ()
 | some vs=>ZS vs P D ops ops.toList f K (fun f K=>Q .normal f K) ()
noncomputable def Qjg (P : Program) (D : Orc) (a : Ann) (id : Nat) (vs : Option (List Nat)) (ops : Array Oper) (Q : KT β) (f : Fr) (K : KS) (_ : Lk (ops,Q,f)) : Option β :=
 match vs with
 | none=>QpT P D a id (lk a.eb id) ops Q f K ()
 | some vs=>Qpq vs P D a id (lk a.ot id) ops Q f K ()
def QAL (s j : Nat) (e : Option Ent) (f : Fr) (K : KS) (k : Fr → KS → Option β) (_ : Lk k) : Option β :=
 match e with
 | some (.lst m rows)=>k (up f s (.imm m (Qn rows))) (K.set j none)
 | _=>none
def QzL (s : Nat) (v : AV) (f : Fr) (K : KS) (k : Fr → KS → Option β) (_ : Lk k) : Option β :=
 match v with
 | .sl j=>QAL s j (kg K j) f K k ()
 | _=>none
def QoU : List Nat → Fr → KS → (k : Fr → KS → Option β) → (_ : Lk k) → Option β
 | [],f,K,k,_=>k f K
 | s :: ss,f,K,k,_=>QzL s (f s) f K (fun f K=>QoU ss f K k ()) ()
def QzU (o jb j : Nat) (cs : List AV) (e : Option Ent) (K : KS) (k : KS → Option β) (_ : Lk k) : Option β :=
 match e with
 | some (.lst m rows)=>k ((K.set j none).set jb (some (.box (cs.set o (.imm m (Qn rows))))))
 | _=>none
def QBW (o jb : Nat) (cs ds : List AV) (K : KS) (k : KS → Option β) (_ : Lk k) : Option β :=
 match ds with
 | .sl j :: _=>QzU o jb j cs (kg K j) K k ()
 | _=>none
def QAQ (o jb : Nat) (e : Option Ent) (K : KS) (k : KS → Option β) (_ : Lk k) : Option β :=
 match e with
 | some (.box cs)=>QBW o jb cs (cs.drop o) K k ()
 | _=>none
def Qz7 (o : Nat) (v : AV) (K : KS) (k : KS → Option β) (_ : Lk k) : Option β :=
 match v with
 | .ptr jb _ _=>QAQ o jb (kg K jb) K k ()
 | _=>none
def QoM : List (Nat × Nat) → Fr → KS → (k : Fr → KS → Option β) → (_ : Lk k) → Option β
 | [],f,K,k,_=>k f K
 | (s,o) :: l,f,K,k,_=>Qz7 o (f s) K (fun K=>QoM l f K k ()) ()
def ofz (o : Option (List Nat)) (c : Option (List (Nat × Nat))) (f : Fr) (K : KS) (k : Fr → KS → Option β) (_ : Lk k) : Option β :=
 match o,c with
 | none,none=>k f K
 | none,some cs=>QoM cs f K k ()
 | some ss,none=>QoU ss f K k ()
 | some ss,some cs=>QoU ss f K (fun f K=>QoM cs f K k ()) ()
noncomputable def V8 (P : Program) (D : Orc) (a : Ann) : (c : Code) → (Q : KT β) → (f : Fr) → KS → (_ : Lk (c,Q,f)) → Option β
 | .skip,Q,f,K,_=>Q .normal f K
 | .ret,Q,f,K,_=>Q .ret f K
 | .exit id,Q,f,K,_=>Q (.exit id) f K
 | .seq x y,Q,f,K,_=>V8 P D a x (Qqr (fun f K=>V8 P D a y Q f K ()) Q) f K ()
 | .cond c x y,Q,f,K,_=>match ev f c with
  | .b b=>cond b (V8 P D a x Q f K ()) (V8 P D a y Q f K ())
  | _=>none
 | .block id c,Q,f,K,_=>V8 P D a c (Quz id Q) f K ()
 | .loop c,Q,f,K,_=>match lk a.lp (tag c) with
  | some la=>QeD a.ak la.sl la.rg f K (fun f K=>Jz (D.l (tag c) f K) (fun o=>Q o.1 o.2.1 o.2.2) ()) ()
  | none=>none
 | .region id ops false,Q,f,K,_=>ofz (lk a.fz id) (lk a.fc id) f K (fun f K=>QiE P D a id (lk a.av id) ops Q f K ()) ()
 | .region id ops true,Q,f,K,_=>ofz (lk a.fz id) (lk a.fc id) f K (fun f K=>Qjg P D a id (lk a.av id) ops Q f K ()) ()
 | _,_,_,_,_=>none
end
abbrev ST:=Fr × KS
def QgG (z : List Nat) (la rt : LA) : KT (ST ⊕ (XE × ST))
 | .normal,f,K=>QeD z la.sl la.rg f K (fun f K=>some (.inl (f,K))) ()
 | .ret,f,K=>QeD z rt.sl rt.rg f K (fun f K=>some (.inr (.ret,f,K))) ()
 | .exit i,f,K=>QeD z la.xs la.xr f K (fun f K=>some (.inr (.exit i,f,K))) ()
def Qcw (f : Fr) (K : KS) (P : Program) : List ResultVar → Option (List AV)
 | []=>some []
 | .tmp t :: rs=>(Qcw f K P rs).map (f t :: ·)
 | .cell a t :: rs=>(QfK (tk P t) (Jp K (f a)) some ()).bind fun v=>(Qcw f K P rs).map (v :: ·)
def Qfy : List AV → AV
 | [v]=>v
 | vs=>.tup vs
def Qom : Sh → AV → AV
 | .z k,v=>nzc k v
 | .a ns,.agg cs=>.agg (nz ns cs)
 | _,v=>v
def QqY : List Sh → List AV → List AV
 | s :: ss,v :: vs=>Qom s v :: QqY ss vs
 | _,vs=>vs
def Qnf : List Sh → AV → AV
 | [s],v=>Qom s v
 | s :: ss,.tup vs=>.tup (QqY (s :: ss) vs)
 | _,v=>v
def QhY (P : Program) (sh : List Sh) (rs : List ResultVar) : KT AV
 | .exit _,_,_=>none
 | _,f,K=>Jz (Qcw f K P rs) (fun vs=>(Qb3 K (Qfy vs)).map fun p=>Qnf sh p.2) ()
def tkl : List Nat → KS → KS
 | _ :: l,e :: K=>e :: tkl l K
 | _,_=>[]
def Qw5 (P : Program) (m : Nat) (rs : List ResultVar) (f : Fr) (K K' : KS) : Option (AV × KS):=Jz (Qcw f K P rs) (fun vs=>Vg (rok K'.length (Qfy vs) && (Qh2 K' && Nat.ble m K'.length)) (some (Qfy vs,K')) ()) ()
def QlF (P : Program) (z : List Nat) (S : Nat) (rs : List ResultVar) (nr : Option (List Pt)) (f : Fr) (K : KS) (_ : Lk f) : Option (AV × KS) :=
 match nr with
 | none=>Qw5 P z.length rs f K (tkl z K)
 | some rg=>Jz (Qcw f K P rs) (fun vs=>QeD z [S] rg (up f S (Qfy vs)) K (fun f K=>Vg (rok K.length (f S) && (Qh2 K && Nat.ble z.length K.length)) (some (f S,K)) ()) ()) ()
def Qku (P : Program) (z : List Nat) (nr : Option (List Pt)) (S : Nat) (rs : List ResultVar) : KT (AV × KS)
 | .exit _,_,_=>none
 | _,f,K=>QlF P z S rs nr f K ()
def Ann.wr (a : Ann) : Bool:=a.nr.isSome || !a.ak.isEmpty
structure Tld where
 P : Program
 ann : List (Nat × Ann)
 xt : Nat → List AV → Option AV:=fun _ _=>none
 st : Nat → Bool:=fun _=>false
 qt : Nat → Bool:=fun _=>false
 pz : List (Nat × List Sh):=[]
 vt : Nat → Bool:=fun _=>false
 mt : Nat → KS → List AV → Option AV:=fun _ _ _=>none
def Tld.at (T : Tld) (g : FuncId) : Option Ann:=lk T.ann g
def Tld.wt (T : Tld) (g : FuncId) : Bool:=match T.at g with | some a=>a.wr | none=>false
def body (P : Program) (g : FuncId) : Code:=match P.funcs[g]? with | some f=>f.body.getD .skip | none=>.skip
def QkK (P : Program) (g : FuncId) : List ResultVar:=match P.funcs[g]? with | some f=>f.results.toList | none=>[]
def ntm (P : Program) (g : FuncId) : Nat:=match P.funcs[g]? with | some f=>f.ntmps | none=>0
noncomputable def orc (T : Tld) : Nat → FuncId → Orc
 | 0,_=>{ p:=fun _ _=>none,l:=fun _ _ _=>none,z:=fun g=>(lk T.pz g).getD [] }
 | n + 1,h =>
  {p:=fun g args=>match T.at g with
    | some a=>cond (Nat.ble args.length (ntm T.P g)) (V8 T.P (orc T n g) a (body T.P g) (QhY T.P a.sh (QkK T.P g)) (Xa args) [] ()) none
    | none=>T.xt g args
   l:=fun t f K=>match T.at h with
    | some a=>match QZ t (body T.P h),lk a.lp t with
     | some c,some la=>run (fun s=>V8 T.P (orc T n h) a c (QgG a.ak la a.rt) s.1 s.2 ()) (f,K)
     | _,_=>none
    | none=>none
   s:=T.st
   q:=T.qt
   w:=T.wt
   a:=fun g K args=>match T.at g with
    | some a=>cond (a.wr && (Nat.beq K.length a.ak.length && Nat.ble args.length (ntm T.P g))) (V8 T.P (orc T n g) a (body T.P g) (Qku T.P a.ak a.nr (ntm T.P g) (QkK T.P g)) (Xa args) K ()) none
    | none=>none
   z:=fun g=>(lk T.pz g).getD []
   v:=T.vt
   m:=fun g K args=>match T.at g with
    | some a=>cond (Nat.ble args.length (ntm T.P g)) (V8 T.P (orc T n g) a (body T.P g) (QhY T.P a.sh (QkK T.P g)) (Xa args) K ()) none
    | none=>T.mt g K args }
noncomputable def CP (T : Tld) (n : Nat) (g : FuncId) (args : List AV) : Option AV:=(orc T n 0).p g args
noncomputable def CA (T : Tld) (n : Nat) (g : FuncId) (K : KS) (args : List AV) : Option (AV × KS):=(orc T n 0).a g K args
noncomputable def CM (T : Tld) (n : Nat) (g : FuncId) (K : KS) (args : List AV) : Option AV:=(orc T n 0).m g K args
noncomputable def LP (T : Tld) (n : Nat) (h : FuncId) (t : Nat) (f : Fr) (K : KS) : Option (XE × Fr × KS):=(orc T n h).l t f K
end Go.Proofs.YtonidbheohhgdaaGreat.Am
