import Derived.Test.YtonidbheohhgdaaGreatAmD
import Derived.Test.YtonidbheohhgdaaGreatPw
namespace Go.Proofs.YtonidbheohhgdaaGreat.Am
open Go
set_option linter.unusedVariables false
set_option linter.unusedSimpArgs false
section
variable{β:Type}
def QjM(v:AV)(k:AV→Option β)(_:Lk k):Option β:=k v
def V0(K:KS)(k:KS→Option β)(_:Lk k):Option β:=k K
def Jc{α:Type}(o:Option α)(k:α→Option β)(_:Lk k):Option β:=o.bind k
def Qy2(te:Option (List CK))(xs ys:List AV)(k:Bool→Option β)(_:Lk k):Option β :=
 match te with
 |some ks=>match QI ks xs ys with|some b=>k b|none=>none
 |none=>none
def Qg8(t:TI)(x:AV)(lo hi:Option AV)(k:AV→Option β)(_:Lk k):Option β :=
 match t,x with
 |.sl _ m,.imm n rows=>if m=n then match bd 0 lo,bd rows.length hi with
   |some l,some h=>Vf (slB l h rows.length) (k (.imm n (cut rows l h))) ()
   |_,_=>none
  else none
 |.str,.s x=>match bd 0 lo,bd x.length hi with
   |some l,some h=>Vf (slB l h x.length) (k (.s (cut x l h))) ()
   |_,_=>none
 |_,_=>none
def Qwc(t:TI)(x i:AV)(k:AV→Option β)(_:Lk k):Option β :=
 match t,x,i with
 |.str,.s x,.i _ i=>Vf (inb x i) (k (.i .u8 ((gt x i).toNat:Int))) ()
 |_,_,_=>none
def JJ(te:Option (List CK))(op:BinOp)(x y:AV)(k:AV→Option β)(_:Lk k):Option β :=
 match x,y with
 |.agg xs,.agg ys=>match op with
  |.eql=>Qy2 te xs ys (fun b=>k (.b b)) ()
  |.neq=>Qy2 te xs ys (fun b=>k (.b (!b))) ()
  |_=>none
 |.b a,.b b=>match te,op with
  |some [.t],.eql=>k (.b (decide (a=b)))
  |some [.t],.neq=>k (.b (!decide (a=b)))
  |_,_=>none
 |.i c a,.i d b=>if QfJ op=true then Vf (decide (0≤b)) (k (.i c (shI op c a b))) ()else if c=d then match op with
  |.add=>k (.i c (c.wrap (a+b)))|.sub=>k (.i c (c.wrap (a-b)))|.mul=>k (.i c (c.wrap (a*b)))
  |.and=>k (.i c (QeC .and c a b))|.or=>k (.i c (QeC .or c a b))|.xor=>k (.i c (QeC .xor c a b))
  |.quo=>Vf (!decide (b=0)) (k (.i c (c.wrap (a.tdiv b)))) ()|.rem=>Vf (!decide (b=0)) (k (.i c (a.tmod b))) ()
  |.eql=>k (.b (decide (a=b)))|.neq=>k (.b (!decide (a=b)))|.lss=>k (.b (decide (a<b)))|.leq=>k (.b (decide (a≤b)))
  |.gtr=>k (.b (decide (b<a)))|.geq=>k (.b (decide (b≤a)))
  |_=>none
  else none
 |.s a,.s b=>match op with
  |.add=>Vf (decide (a.length+b.length≤9223372036854775807)) (k (.s (a++b))) ()|.eql=>k (.b (decide (a=b)))|.neq=>k (.b (!decide (a=b)))
  |_=>none
 |_,_=>none
open Classical in
noncomputable def oeq(a b:Option β):Option β:=if a=b then a else none
noncomputable def Qkq(b:Bool)(x y:Option β):Option β:=cond b (oeq x y) y
noncomputable def Qjn(op:BinOp)(x:AV)(k:AV→Option β)(_:Lk k):Option β :=
 match op,x with
 |.eql,.imm _ rows=>Qkq rows.isEmpty (k (.b true)) (k (.b false))
 |.neq,.imm _ rows=>Qkq rows.isEmpty (k (.b false)) (k (.b true))
 |_,_=>none
def Qtl(e:Option Ent)(x:AV)(k:AV→Option β)(_:Lk k):Option β :=
 match e with
 |some _=>k x
 |none=>none
def Qxe(K:KS)(x:AV)(k:AV→Option β)(_:Lk k):Option β :=
 match x with
 |.ptr j i o=>Qtl (kg K j) (.ptr j i o) k ()
 |.iptr n r i o=>k (.iptr n r i o)
 |_=>none
def oun(op:UnOp)(x:AV)(k:AV→Option β)(_:Lk k):Option β :=
 match op,x with
 |.not,.b x=>k (.b (!x))
 |.neg,.i c a=>k (.i c (c.wrap (-a)))
 |_,_=>none
def Qlo(c x y:AV)(k:AV→Option β)(_:Lk k):Option β :=
 match c with
 |.b c=>cond c (k x) (k y)
 |_=>none
def Qqi(K:KS)(t:TI)(x:AV)(k:AV→Option β)(_:Lk k):Option β :=
 match t,x with
 |.sl _ _,.nil=>k (.i .i64 0)
 |.sl _ _,.imm _ rows=>k (.i .i64 rows.length)
 |.sl _ _,.sl j=>match kg K j with|some e=>k (.i .i64 e.rows.length)|none=>none
 |.str,.s x=>k (.i .i64 x.length)
 |.arr n _ _,_=>k (.i .i64 n)
 |_,_=>none
def QuO(K:KS)(x:AV)(o:Option (Nat×TK))(k:AV→Option β)(_:Lk k):Option β :=
 match x,o with
 |.ptr j i p,some (o,_)=>match kg K j with|some _=>k (.ptr j i (p+o))|none=>none
 |.iptr n rows i p,some (o,_)=>k (.iptr n rows i (p+o))
 |_,_=>none
def QqX(K:KS)(t:TI)(x i:AV)(k:AV→Option β)(_:Lk k):Option β :=
 match t,x,i with
 |.sl _ m,.imm n rows,.i _ i=>if m=n then Vf (inb rows i) (k (.iptr n rows i.toNat 0)) ()else none
 |.sl _ m,.sl j,.i _ i=>match kg K j with
  |some e=>if m=e.n then Vf (inb e.rows i) (k (.ptr j i.toNat 0)) ()else none
  |none=>none
 |.arr len _ m,.ptr j r o,.i _ i=>match kg K j with
  |some e=>Vf (Qui len i) (k (.ptr j r (o+i.toNat*m))) ()
  |none=>none
 |_,_,_=>none
def QfF(t:TK)(cs:List AV)(k:AV→Option β)(_:Lk k):Option β :=
 match t with
 |.one=>match cs with|c::_=>k c|[]=>none
 |.agg m=>if 0<m∧m≤cs.length then k (.agg (cs.take m))else none
 |.bad=>none
def Qyk(o:Option (Nat×TK))(x:AV)(k:AV→Option β)(_:Lk k):Option β :=
 match o,x with
 |some (o,t),.agg cs=>QfF t (cs.drop o) k ()
 |_,_=>none
def QgY(cs:List AV)(o:Nat)(t:TK)(v:AV)(ok:AV→Bool)(k:List AV→Option β)(_:Lk k):Option β :=
 match t,v with
 |.agg m,.agg ds=>if m=ds.length∧o+m≤cs.length∧ds.all ok=true then k (putCells cs o ds)else none
 |.one,v=>if o<cs.length∧ok v=true then k (cs.set o v)else none
 |_,_=>none
def QjH(K:KS)(t:TK)(p v:AV)(k:KS→Option β)(_:Lk k):Option β :=
 match p with
 |.ptr j i o=>match kg K j with
  |some (.box cs)=>if i=0 then QgY cs o t v (Zx K) (fun cs=>V0 (K.set j (some (.box cs))) k ()) ()else none
  |some (.lst n rows)=>if i<rows.length then QgY (QB rows i) o t v AV.closed (fun r=>V0 (K.set j (some (.lst n (rows.set i r)))) k ()) ()else none
  |none=>none
 |_=>none
def QiX(ns:List Nat)(K:KS)(t:TK)(j i o n:Nat)(rows:List (List AV))(v:AV)(k:KS→Option β)(_:Lk k):Option β :=
 if i<rows.length then match Vk K (ZW v)with
  |some (K1,ds)=>if(kg K1 j).isSome=true∧Qoe t v ds.length=true∧o+ds.length≤(QB rows i).length then V0 (K1.set j (some (.lst n (rows.set i (putCells (QB rows i) o (nz ns ds)))))) k ()else none
  |none=>none
 else none
def Qh5(fl:Bool)(ns:List Nat)(K:KS)(t:TK)(p v:AV)(k:KS→Option β)(_:Lk k):Option β :=
 match p with
 |.ptr j i o=>match kg K j with
  |some (.lst n rows)=>if(ZW v).all clq=true then QjH K t p v k ()else if fl=false then QiX ns K t j i o n rows v k ()else none
  |_=>QjH K t p v k ()
 |_=>none
def Qru(K:KS)(v:AV)(k:AV→KS→Option β)(_:Lk k):Option β :=
 match v with
 |.agg cs=>if cs.all (Zx K)=true then V0 (K++[some (.box cs)]) (fun K'=>k (.ptr K.length 0 0) K') ()else none
 |v=>if Zx K v=true then V0 (K++[some (.box [v])]) (fun K'=>k (.ptr K.length 0 0) K') ()else none
def QlB(K:KS)(z:Option (List AV))(k:AV→KS→Option β)(_:Lk k):Option β :=
 match z with
 |some cs=>V0 (K++[some (.box cs)]) (fun K'=>k (.ptr K.length 0 0) K') ()
 |none=>none
def Qjz(K:KS)(t:TB)(parts:List (Nat×AV))(k:AV→Option β)(_:Lk k):Option β :=
 match t with
 |.st z p=>match Qau K (p[·]?) z parts with|some cs=>k (.agg cs)|none=>none
 |.arr z m=>match Qau K (fun i=>some (i*m,m)) z parts with|some cs=>k (.agg cs)|none=>none
 |.bad=>none
def yB:Bool→List AV→Bool
 |false,_=>true
 |true,cs=>noS cs
def QgF(fl:Bool)(ns:List Nat)(K:KS)(t:Option (TypeId×Nat×List AV))(len:Nat)(parts:List (Nat×AV))(k:AV→KS→Option β)(_:Lk k):Option β :=
 match t with
 |some (_,m,z)=>if len=0 then(match parts with|[]=>V0 (K++[some (.lst m [])]) (fun K'=>k (.sl K.length) K') ()|_=>none)
  else if len*m≤16777216 then match Qau K (fun i=>some (i*m,m)) (QcT len z) parts with
  |some cs=>cond (yB fl cs) (match Vk K cs with
   |some (K1,cs)=>V0 (K1++[some (.lst m ((QaM m len cs).map (nz ns)))]) (fun K'=>k (.sl K.length) K') ()
   |none=>none) none
  |none=>none
  else none
 |none=>none
def QwD(v:AV)(i:Nat)(k:AV→Option β)(_:Lk k):Option β :=
 match v with
 |.tup cs=>match cs[i]? with|some c=>k c|none=>none
 |_=>none
def QkT(K:KS)(t:Option (TypeId×Nat×List AV))(bytes:Option Nat)(s x:AV)(k:AV→KS→Option β)(_:Lk k):Option β :=
 match t,bytes with
 |some (_,m,_),some (b+1)=>match Qcu K m x with
  |some (rows',K1)=>match s with
   |.sl j=>match kg K1 j with
    |some (.lst n rows)=>if n=m then Vf (decide ((rows.length+rows'.length)*(b+1)≤140737488355328)) (V0 (K1.set j none++[some (.lst m (rows++rows'))]) (fun K'=>k (.sl K.length) K') ()) ()else none
    |_=>none
   |.nil=>Vf (decide (rows'.length*(b+1)≤140737488355328)) (V0 (K1++[some (.lst m rows')]) (fun K'=>k (.sl K.length) K') ()) ()
   |_=>none
  |none=>none
 |_,_=>none
def QwJ(x y:AV)(k:AV→Option β)(_:Lk k):Option β :=
 match x,y with
 |.i c a,.i _ b=>k (.i c (if b<a then b else a))
 |_,_=>none
def QwG(x y:AV)(k:AV→Option β)(_:Lk k):Option β :=
 match x,y with
 |.i c a,.i _ b=>k (.i c (if a<b then b else a))
 |_,_=>none
def Qo8(t:TI)(x:AV)(k:AV→Option β)(_:Lk k):Option β :=
 match t,x with
 |.int c,.i _ a=>k (.i c (c.wrap a))
 |_,_=>none
def Qqo(K:KS)(t:TI)(x:AV)(k:AV→Option β)(_:Lk k):Option β :=
 match t,x with
 |.str,.sl j=>match kg K j with
  |some (.lst 1 rows)=>match Qbx rows with|some s=>k (.s s)|none=>none
  |_=>none
 |_,_=>none
def Qri(v:AV)(k:FuncId→List AV→Option β)(_:Lk k):Option β :=
 match v with
 |.clo g caps=>k g caps
 |_=>none
def QtT(ns:List Nat)(K:KS)(t:Option (TypeId×Nat×List AV))(bytes:Option Nat)(l c:AV)(k:AV→KS→Option β)(_:Lk k):Option β :=
 match t,bytes,l,c with
 |some (_,m,z),some (b+1),.i .i64 l,.i .i64 c =>
  Vf (decide (l=c)) (Vf (mkB l (b+1)) (V0 (K++[some (.lst m (List.replicate l.toNat (nz ns z)))]) (fun K'=>k (.sl K.length) K') ()) ()) ()
 |_,_,_,_=>none
structure Orc where
 p:FuncId→List AV→Option AV
 l:Nat→Fr→KS→Option (XE×Fr×KS)
 s:FuncId→Bool:=fun _=>false
 q:FuncId→Bool:=fun _=>false
 w:FuncId→Bool:=fun _=>false
 a:FuncId→KS→List AV→Option (AV×KS):=fun _ _ _=>none
 z:FuncId→List Sh:=fun _=>[]
 v:FuncId→Bool:=fun _=>false
 m:FuncId→KS→List AV→Option AV:=fun _ _ _=>none
def cI(x:Int):List AV:=[.i .i64 x]
def Qcw:List (List AV)→Option (List Int)
 |[]=>some []
 |[.i .i64 x]::r=>(Qcw r).map (x::·)
 |_=>none
def Qnq(K:KS)(vs:List AV)(k:AV→KS→Option β)(_:Lk k):Option β :=
 match vs with
 |[.sl j]=>match kg K j with
  |some (.lst 1 rows)=>match Qcw rows with
   |some xs=>Vf (decide (xs.length<4611686018427387904)) (V0 (K.set j (some (.lst 1 ((V3 xs).map cI)))) (fun K=>k (.tup []) K) ()) ()
   |none=>none
  |_=>none
 |_=>none
def QfD(D:Orc)(g:FuncId)(K:KS)(vs:List AV)(k:AV→KS→Option β)(_:Lk k):Option β :=
 Jc (D.p g (QmH (D.z g) (QcA K vs))) (fun x=>k (VD K.length x).1 (K++(VD K.length x).2)) ()
noncomputable def oop(P:Program)(D:Orc)(o:Op)(f:Fr)(K:KS)(k:AV→KS→Option β)(_:Lk (o,f,k)):Option β :=
 match o with
 |.move x|.assign x=>k (ev f x) K
 |.pick c x y=>Qlo (ev f c) (ev f x) (ev f y) (fun v=>k v K) ()
 |.alloc t=>QlB K (tzc P t) k ()
 |.box _ v=>Qru K (ev f v) k ()
 |.build t ps=>Qjz K (tbd P t) (ps.toList.map fun p=>(p.1,ev f p.2)) (fun v=>k v K) ()
 |.buildSlice t len ps=>QgF (zB (Qda P t)) (Qda P t) K (tse P t) len (ps.toList.map fun p=>(p.1,ev f p.2)) k ()
 |.load t x=>QfF (tk P t) (Ja K (ev f x)) (fun v=>k v K) ()
 |.store t p v=>Qh5 (flT P t) (slz P 9 t) K (tk P t) (ev f p) (ev f v) (fun K=>k .u K) ()
 |.binOp op t x y _=>if Qbg y=true then(if Qnm P t=true then Qjn op (ev f x) (fun v=>k v K) ()else none)else JJ (Qju P t) op (ev f x) (ev f y) (fun v=>k v K) ()
 |.unOp op _ x=>oun op (ev f x) (fun v=>k v K) ()
 |.convert s t x=>if bsl P s=true then Qqo K (ti P t) (ev f x) (fun v=>k v K) ()else if tok P s=true then Qo8 (ti P t) (ev f x) (fun v=>k v K) ()else none
 |.makeFunc (.func g) first caps=>if first.size=0 then k (.clo g (caps.toList.map (ev f))) K else none
 |.fieldAddr t x i=>QuO K (ev f x) (tfo P t i) (fun v=>k v K) ()
 |.indexAddr t x i=>QqX K (ti P t) (ev f x) (ev f i) (fun v=>k v K) ()
 |.extract x i=>QwD (ev f x) i (fun v=>k v K) ()
 |.call { callee:=.builtin .len,args,argTypes }=>match args.toList,argTypes.toList with
  |[x],t::_=>Qqi K (ti P t) (ev f x) (fun v=>k v K) ()
  |_,_=>none
 |.call { callee:=.builtin .append,args,argTypes }=>match args.toList,argTypes.toList with
  |[s,x],t::tx::_=>if ZS P tx=true∧(Qbg s&&QeW (ev f x))=false then QkT K (tse P t) ((tse P t).bind fun q=>tb P q.1) (ev f s) (ev f x) k ()else none
  |_,_=>none
 |.call { callee:=.builtin .min,args,.. }=>match args.toList with
  |[x,y]=>QwJ (ev f x) (ev f y) (fun v=>k v K) ()
  |_=>none
 |.call { callee:=.builtin .max,args,.. }=>match args.toList with
  |[x,y]=>QwG (ev f x) (ev f y) (fun v=>k v K) ()
  |_=>none
 |.call { callee:=.value x,args,.. }=>Qri (ev f x) (fun g caps=>QfD D g K (args.toList.map (ev f)++caps) k ()) ()
 |.makeSlice t l c=>QtT (Qda P t) K (tse P t) ((tse P t).bind fun q=>tb P q.1) (ev f l) (ev f c) k ()
 |.slice t x lo hi none=>Qg8 (ti P t) (ev f x) (lo.map (ev f)) (hi.map (ev f)) (fun v=>k v K) ()
 |.index t x i=>Qwc (ti P t) (ev f x) (ev f i) (fun v=>k v K) ()
 |.nilCheck x=>Qxe K (ev f x) (fun v=>k v K) ()
 |.field t x i=>Qyk (tfo P t i) (ev f x) (fun v=>k v K) ()
 |_=>none
def ogd(s:Option Tmp)(want:Bool)(f:Fr)(yes no:Fr→Option β)(_:Lk (f,yes,no)):Option β :=
 match s with
 |some d=>match f d with
  |.b x=>cond x (if want=true then yes (up f d (.b true))else no (up f d (.b true))) (if want=true then no (up f d (.b false))else yes (up f d (.b false)))
  |.tup []=>no f
  |_=>none
 |none=>none
def QeN(d:Option Tmp)(v:AV)(f:Fr)(k:Fr→Option β)(_:Lk (f,k)):Option β :=
 match d with
 |some d=>QjM v (fun v=>k (up f d v)) ()
 |none=>k f
noncomputable def QcH(P:Program)(D:Orc)(ops:Array Oper):(l:List Oper)→(f:Fr)→(K:KS)→(k:Fr→KS→Option β)→(_:Lk (l,f,k))→Option β
 |[],f,K,k,_=>k f K
 |o::r,f,K,k,_=>match o.guard with
  |none=>oop P D o.op f K (fun v K'=>QeN o.dst v f (fun f=>QcH P D ops r f K' k ()) ()) ()
  |some (j,want)=>ogd ((ops[j]?).bind (·.dst)) want f (fun f=>oop P D o.op f K (fun v K'=>QeN o.dst v f (fun f=>QcH P D ops r f K' k ()) ()) ()) (fun f=>QeN o.dst (.tup []) f (fun f=>QcH P D ops r f K k ()) ()) ()
def Qmm(K:KS)(vs:List AV)(k:AV→KS→Option β)(_:Lk k):Option β :=
 match vs with
 |[.sl j]=>match kg K j with
  |some (.lst 1 rows)=>match Qcw rows with
   |some xs=>Vf (decide (xs.length<4611686018427387904)) (V0 (K.set j none++[some (.lst 1 ((Xd xs).map cI))]) (fun K'=>k (.sl K.length) K') ()) ()
   |none=>none
  |_=>none
 |_=>none
def ndB:List Nat→Bool
 |[]=>true
 |x::l=>!l.contains x&&ndB l
def Qq4:KS→Bool
 |[]=>true
 |some (.lst _ _)::l=>Qq4 l
 |_::_=>false
def QhZ:KS→Bool
 |[]=>true
 |some (.lst _ _)::l=>QhZ l
 |some (.box cs)::l=>QoQ cs&&QhZ l
 |none::_=>false
def Qk2(D:Orc)(g:FuncId)(K:KS)(js:List Nat)(cs:Option (List AV))(k:AV→KS→Option β)(_:Lk k):Option β :=
 match cs with
 |some cs=>Vf (QhZ (Jb K js)) (Jc (D.a g (Jb K js) cs) (fun r=>k (Qa5 js K.length r.1) (Qc5 K js r.2)) ()) ()
 |none=>none
def QkZ(D:Orc)(g:FuncId)(K:KS)(js:List Nat)(vs:List AV)(k:AV→KS→Option β)(_:Lk (vs,k)):Option β :=
 Vf (ndB js) (Qk2 D g K js (QbT js vs) k ()) ()
def Qjw(D:Orc)(g:FuncId)(K:KS)(vs:List AV)(k:AV→KS→Option β)(_:Lk k):Option β:=QkZ D g K (Qep vs) vs k ()
def QkS(D:Orc)(g:FuncId)(K:KS)(js:List Nat)(cs:Option (List AV))(k:AV→KS→Option β)(_:Lk k):Option β :=
 match cs with
 |some cs=>Vf (Qq4 (Jb K js)) (Jc (D.m g (Jb K js) cs) (fun x=>k (VD K.length x).1 (J1 K js (Qao js)++(VD K.length x).2)) ()) ()
 |none=>none
def QkX(D:Orc)(g:FuncId)(K:KS)(js:List Nat)(vs:List AV)(k:AV→KS→Option β)(_:Lk (vs,k)):Option β :=
 Vf (ndB js) (QkS D g K js (QbT js vs) k ()) ()
def Qhq(D:Orc)(g:FuncId)(K:KS)(vs:List AV)(k:AV→KS→Option β)(_:Lk k):Option β:=QkX D g K (Qep vs) vs k ()
noncomputable def Qct(P:Program)(D:Orc)(o:Op)(f:Fr)(K:KS)(k:AV→KS→Option β)(_:Lk (o,f,k)):Option β :=
 match o with
 |.call { callee:=.value x,args,.. }=>Qri (ev f x) (fun g caps=>cond (D.s g) (Qnq K (args.toList.map (ev f)++caps) k ()) (cond (D.q g) (Qmm K (args.toList.map (ev f)++caps) k ()) (cond (D.w g) (Qjw D g K (args.toList.map (ev f)++caps) k ()) (cond (D.v g) (Qhq D g K (args.toList.map (ev f)++caps) k ()) (QfD D g K (args.toList.map (ev f)++caps) k ()))))) ()
 |o=>oop P D o f K k ()
noncomputable def Qfx(P:Program)(D:Orc)(ops:Array Oper):(l:List Oper)→(f:Fr)→(K:KS)→(k:Fr→KS→Option β)→(_:Lk (l,f,k))→Option β
 |[],f,K,k,_=>k f K
 |o::r,f,K,k,_=>match o.guard with
  |none=>Qct P D o.op f K (fun v K'=>QeN o.dst v f (fun f=>Qfx P D ops r f K' k ()) ()) ()
  |some _=>none
noncomputable def QkC(vs:List Nat)(P:Program)(D:Orc)(o:Op)(f:Fr)(K:KS)(k:AV→KS→Option β)(_:Lk (o,f,k)):Option β :=
 match o with
 |.call { callee:=.value (.func g),args,argTypes }=>cond (vs.contains g) (Qct P D (.call { callee:=.value (.func g),args,argTypes }) f K k ()) (oop P D (.call { callee:=.value (.func g),args,argTypes }) f K k ())
 |o=>oop P D o f K k ()
noncomputable def ZN(vs:List Nat)(P:Program)(D:Orc)(ops:Array Oper):(l:List Oper)→(f:Fr)→(K:KS)→(k:Fr→KS→Option β)→(_:Lk (l,f,k))→Option β
 |[],f,K,k,_=>k f K
 |o::r,f,K,k,_=>match o.guard with
  |none=>QkC vs P D o.op f K (fun v K'=>QeN o.dst v f (fun f=>ZN vs P D ops r f K' k ()) ()) ()
  |some (j,want)=>ogd ((ops[j]?).bind (·.dst)) want f (fun f=>QkC vs P D o.op f K (fun v K'=>QeN o.dst v f (fun f=>ZN vs P D ops r f K' k ()) ()) ()) (fun f=>QeN o.dst (.tup []) f (fun f=>ZN vs P D ops r f K k ()) ()) ()
def onr(D:Orc)(f:Fr)(K:KS)(j i o q:Nat)(rows:List (List AV))(r:AV×KS)(k:AV→KS→Option β)(_:Lk k):Option β :=
 match r.2 with
 |[some (.lst m rs')]=>Vf (r.1.flat&&Nat.blt i rows.length) (V0 (QnC K j i o q m rows rs') (fun K'=>k r.1 K') ()) ()
 |_=>none
def onx(D:Orc)(f:Fr)(K:KS)(x:AV)(g:FuncId)(j i o q:Nat)(rows:List (List AV))(cs:List AV)(k:AV→KS→Option β)(_:Lk k):Option β :=
 match cs with
 |.own m rs::_=>Vf x.scal (Jc (D.a g [some (.lst m rs)] [.sl 0,x]) (fun r=>onr D f K j i o q rows r k ()) ()) ()
 |_=>none
def onj(D:Orc)(f:Fr)(K:KS)(x:AV)(g:FuncId)(j i o:Nat)(e:Option Ent)(k:AV→KS→Option β)(_:Lk k):Option β :=
 match e with
 |some (.lst q rows)=>onx D f K x g j i o q rows ((QB rows i).drop o) k ()
 |_=>none
def onp(D:Orc)(f:Fr)(K:KS)(p x:AV)(g:FuncId)(k:AV→KS→Option β)(_:Lk k):Option β :=
 match p with
 |.ptr j i o=>onj D f K x g j i o (kg K j) k ()
 |_=>none
def Qyh:TK→Bool
 |.one=>true
 |_=>false
noncomputable def Qho(P:Program)(D:Orc)(ops:Array Oper):(us:List Nat)→(l:List Oper)→(f:Fr)→(K:KS)→(k:Fr→KS→Option β)→(_:Lk (l,f,k))→Option β
 |_::us,o::r,f,K,k,_=>match o.guard with
  |none=>oop P D o.op f K (fun v K'=>QeN o.dst v f (fun f=>Qho P D ops us r f K' k ()) ()) ()
  |some _=>none
 |[],⟨some d,.load t p,_,_,_,none⟩::⟨some e,.move x,_,_,_,none⟩::⟨dst,.call ⟨.value (.func g),args,_⟩,_,_,_,none⟩::r,f,K,k,_=>match args.toList with
  |[.tmp d',.tmp e']=>Vf (Qyh (tk P t)&&(Nat.beq d d'&&(Nat.beq e e'&&!Nat.beq d e))) (onp D f K (ev f p) (ev (up f d (.sl K.length)) x) g (fun v K'=>QeN dst v (up (up f d (.sl K.length)) e (ev (up f d (.sl K.length)) x)) (fun f=>Qfx P D ops r f K' k ()) ()) ()) ()
  |_=>none
 |_,_,_,_,_,_=>none
inductive Pt where
 |r (i:Nat)|s (t n:Nat)|c (q o n:Nat)|g (t o n:Nat)
structure LA where
 sl:List Nat
 rg:List Pt
 xs:List Nat
 xr:List Pt
structure Ann where
 ord:List (Nat×List Nat):=[]
 ot:List (Nat×OT):=[]
 ac:List (Nat×Nat):=[]
 av:List (Nat×List Nat):=[]
 an:List (Nat×List Nat):=[]
 eb:List (Nat×List Nat):=[]
 ak:List Nat:=[]
 jn:List (Nat×(Nat×Nat×Nat)):=[]
 lp:List (Nat×LA):=[]
 rt:LA:=⟨[],[],[],[]⟩
 sh:List Sh:=[]
 fz:List (Nat×List Nat):=[]
 fc:List (Nat×List (Nat×Nat)):=[]
 nr:Option (List Pt):=none
def lk{α:Type}:List (Nat×α)→Nat→Option α
 |[],_=>none
 |(i,x)::l,j=>cond (i==j) (some x) (lk l j)
def Vz:(l:List Pt)→(f:Fr)→(K:KS)→(π:List Nat)→(k:Fr→KS→List Nat→Option β)→(_:Lk (f,k))→Option β
 |[],f,K,π,k,_=>k f K π
 |.r i::l,f,K,π,k,_=>Vz l f K (π++[i]) k ()
 |.s t n::l,f,K,π,k,_=>match f t with
  |.sl j=>Vz l f K (π++[j]) k ()
  |.ptr j _ _=>Vz l f K (π++[j]) k ()
  |.nil=>Vz l (up f t (.sl K.length)) (K++[some (.lst n [])]) (π++[K.length]) k ()
  |_=>none
 |.c q o n::l,f,K,π,k,_=>match π[q]? with
  |some j=>match kg K j with
   |some (.box cs)=>match cs[o]? with
    |some (.sl i)=>Vz l f K (π++[i]) k ()
    |some (.ptr i _ _)=>Vz l f K (π++[i]) k ()
    |_=>none
   |_=>none
  |none=>none
 |.g t o n::l,f,K,π,k,_=>match f t with
  |.agg cs=>match cs[o]? with
   |some (.sl j)=>Vz l f K (π++[j]) k ()
   |some .nil=>Vz l (up f t (.agg (cs.set o (.sl K.length)))) (K++[some (.lst n [])]) (π++[K.length]) k ()
   |_=>none
  |_=>none
def QAG(K:KS)(π:List Nat):KS:=π.map fun j=>(kg K j).map (Qhr π)
def frl(f:Fr)(π:List Nat):List Nat→List (Nat×AV)
 |[]=>[]
 |t::l=>(t,ren π (f t))::frl f π l
def QAH(f:Fr)(π:List Nat)(l:List Nat):Fr:=frm (frl f π l)
def pfx:List Nat→List Nat→Bool
 |[],_=>true
 |x::l,y::m=>Nat.beq x y&&pfx l m
 |_::_,[]=>false
def onz(z π:List Nat)(q:Option β)(_:Lk q):Option β :=
 match z with
 |[]=>q
 |x::l=>Vf (pfx (x::l) π) q ()
def Qef(z:List Nat)(sl:List Nat)(rg:List Pt)(f:Fr)(K:KS)(k:Fr→KS→Option β)(_:Lk (f,k)):Option β :=
 Vz rg f K [] (fun f K π=>Vf (ndB π) (onz z π (V0 (QAG K π) (fun K'=>k (QAH f π sl) K') ()) ()) ()) ()
def tag:Code→Nat
 |.region id _ _=>id
 |.seq a _=>tag a
 |.cond _ a _=>tag a
 |.block _ c=>tag c
 |.loop c=>tag c
 |_=>0
def QG(t:Nat):Code→Option Code
 |.seq a b=>(QG t a).or (QG t b)
 |.cond _ a b=>(QG t a).or (QG t b)
 |.block _ c=>QG t c
 |.loop c=>cond (tag c==t) (some c) (QG t c)
 |_=>none
def Qnb(o:Option Bool)(k:Bool→Option β)(_:Lk k):Option β:=o.bind k
def Qj8(b:Bool):Option Bool:=some b
def asB:AV→Option Bool
 |.b x=>Qj8 x
 |_=>none
def Qva(lo hi:Nat)(f:Fr):Fr:=fun t=>cond (Nat.ble lo t&&Nat.blt t hi) .u (f t)
abbrev KT(β:Type):=XE→Fr→KS→Option β
def Qql(k:Fr→KS→Option β)(Q:KT β):KT β
 |.normal,f,K=>k f K
 |e,f,K=>Q e f K
def Quf(id:Nat)(Q:KT β):KT β
 |.exit id',f,K=>cond (id'==id) (Q .normal f K) (Q (.exit id') f K)
 |e,f,K=>Q e f K
noncomputable def QmE(P:Program)(D:Orc)(a:Ann)(id:Nat)(ops:Array Oper)(l:List Oper)(Q:KT β)(f:Fr)(K:KS)(_:Lk (l,Q,f)):Option β :=
 match lk a.jn id with
 |none=>QcH P D ops l f K (fun f K=>Q .normal f K) ()
 |some (s,lo,hi)=>Qnb (QcH P D ops l f K (fun f _=>asB (f s)) ()) (fun c=>Q .normal (up (Qva lo hi f) s (.b c)) K) ()
def QqD(ops:Array Oper):Option (List Nat)→List Oper
 |none=>ops.toList
 |some is=>is.filterMap (ops[·]?)
noncomputable def Qdg(P:Program)(D:Orc)(ops:Array Oper):(t:OT)→(f:Fr)→(K:KS)→(k:Fr→KS→Option β)→(_:Lk (f,k))→Option β
 |.done,f,K,k,_=>k f K
 |.one i t,f,K,k,_=>match ops[i]? with
  |some o=>QcH P D ops [o] f K (fun f K=>Qdg P D ops t f K k ()) ()
  |none=>none
 |.alt a b,f,K,k,_=>oeq (Qdg P D ops a f K k ()) (Qdg P D ops b f K k ())
noncomputable def Qgl(P:Program)(D:Orc)(a:Ann)(id:Nat)(ops:Array Oper)(t:Option OT)(Q:KT β)(f:Fr)(K:KS)(_:Lk (ops,Q,f)):Option β :=
 match t with
 |some t=>Qdg P D ops t f K (fun f K=>Q .normal f K) ()
 |none=>QmE P D a id ops (QqD ops (lk a.ord id)) Q f K ()
noncomputable def QqT(P:Program)(D:Orc)(a:Ann)(id:Nat)(c:Option Nat)(ops:Array Oper)(l:List Oper)(Q:KT β)(f:Fr)(K:KS)(_:Lk (l,Q,f)):Option β :=
 match c with
 |none=>QmE P D a id ops l Q f K ()
 |some _=>Qfx P D ops l f K (fun f K=>Q .normal f K) ()
noncomputable def Qpr(P:Program)(D:Orc)(a:Ann)(id:Nat)(ds:Option (List Nat))(ops:Array Oper)(Q:KT β)(f:Fr)(K:KS)(_:Lk (ops,Q,f)):Option β :=
 match ds with
 |none=>Qgl P D a id ops (lk a.ot id) Q f K ()
 |some ds=>Qgl P D a id (ops.map (XU ds)) (lk a.ot id) Q f K ()
noncomputable def QoV(P:Program)(D:Orc)(a:Ann)(id:Nat)(us:Option (List Nat))(ops:Array Oper)(l:List Oper)(Q:KT β)(f:Fr)(K:KS)(_:Lk (l,Q,f)):Option β :=
 match us with
 |none=>QqT P D a id (lk a.ac id) ops l Q f K ()
 |some us=>Qho P D ops us l f K (fun f K=>Q .normal f K) ()
noncomputable def Qbh(vs:List Nat)(P:Program)(D:Orc)(ops:Array Oper):(t:OT)→(f:Fr)→(K:KS)→(k:Fr→KS→Option β)→(_:Lk (f,k))→Option β
 |.done,f,K,k,_=>k f K
 |.one i t,f,K,k,_=>match ops[i]? with
  |some o=>ZN vs P D ops [o] f K (fun f K=>Qbh vs P D ops t f K k ()) ()
  |none=>none
 |.alt a b,f,K,k,_=>oeq (Qbh vs P D ops a f K k ()) (Qbh vs P D ops b f K k ())
noncomputable def QsO(vs:List Nat)(P:Program)(D:Orc)(ops:Array Oper)(o:Option (List Nat))(Q:KT β)(f:Fr)(K:KS)(_:Lk (ops,Q,f)):Option β:=ZN vs P D ops (QqD ops o) f K (fun f K=>Q .normal f K) ()
noncomputable def QqV(vs:List Nat)(P:Program)(D:Orc)(a:Ann)(id:Nat)(t:Option OT)(ops:Array Oper)(Q:KT β)(f:Fr)(K:KS)(_:Lk (ops,Q,f)):Option β :=
 match t with
 |some t=>Qbh vs P D ops t f K (fun f K=>Q .normal f K) ()
 |none=>QsO vs P D ops (lk a.ord id) Q f K ()
noncomputable def QiT(P:Program)(D:Orc)(a:Ann)(id:Nat)(vs:Option (List Nat))(ops:Array Oper)(Q:KT β)(f:Fr)(K:KS)(_:Lk (ops,Q,f)):Option β :=
 match vs with
 |none=>QoV P D a id (lk a.an id) ops ops.toList Q f K ()
 |some vs=>ZN vs P D ops ops.toList f K (fun f K=>Q .normal f K) ()
noncomputable def Qii(P:Program)(D:Orc)(a:Ann)(id:Nat)(vs:Option (List Nat))(ops:Array Oper)(Q:KT β)(f:Fr)(K:KS)(_:Lk (ops,Q,f)):Option β :=
 match vs with
 |none=>Qpr P D a id (lk a.eb id) ops Q f K ()
 |some vs=>QqV vs P D a id (lk a.ot id) ops Q f K ()
def Qy4(s j:Nat)(e:Option Ent)(f:Fr)(K:KS)(k:Fr→KS→Option β)(_:Lk k):Option β :=
 match e with
 |some (.lst m rows)=>k (up f s (.imm m (Qh rows))) (K.set j none)
 |_=>none
def QAY(s:Nat)(v:AV)(f:Fr)(K:KS)(k:Fr→KS→Option β)(_:Lk k):Option β :=
 match v with
 |.sl j=>Qy4 s j (kg K j) f K k ()
 |_=>none
def Qoc:List Nat→Fr→KS→(k:Fr→KS→Option β)→(_:Lk k)→Option β
 |[],f,K,k,_=>k f K
 |s::ss,f,K,k,_=>QAY s (f s) f K (fun f K=>Qoc ss f K k ()) ()
def QBc(o jb j:Nat)(cs:List AV)(e:Option Ent)(K:KS)(k:KS→Option β)(_:Lk k):Option β :=
 match e with
 |some (.lst m rows)=>k ((K.set j none).set jb (some (.box (cs.set o (.imm m (Qh rows))))))
 |_=>none
def Qzv(o jb:Nat)(cs ds:List AV)(K:KS)(k:KS→Option β)(_:Lk k):Option β :=
 match ds with
 |.sl j::_=>QBc o jb j cs (kg K j) K k ()
 |_=>none
def QyO(o jb:Nat)(e:Option Ent)(K:KS)(k:KS→Option β)(_:Lk k):Option β :=
 match e with
 |some (.box cs)=>Qzv o jb cs (cs.drop o) K k ()
 |_=>none
def Qzb(o:Nat)(v:AV)(K:KS)(k:KS→Option β)(_:Lk k):Option β :=
 match v with
 |.ptr jb _ _=>QyO o jb (kg K jb) K k ()
 |_=>none
def QoS:List (Nat×Nat)→Fr→KS→(k:Fr→KS→Option β)→(_:Lk k)→Option β
 |[],f,K,k,_=>k f K
 |(s,o)::l,f,K,k,_=>Qzb o (f s) K (fun K=>QoS l f K k ()) ()
def ofz(o:Option (List Nat))(c:Option (List (Nat×Nat)))(f:Fr)(K:KS)(k:Fr→KS→Option β)(_:Lk k):Option β :=
 match o,c with
 |none,none=>k f K
 |none,some cs=>QoS cs f K k ()
 |some ss,none=>Qoc ss f K k ()
 |some ss,some cs=>Qoc ss f K (fun f K=>QoS cs f K k ()) ()
noncomputable def Vl(P:Program)(D:Orc)(a:Ann):(c:Code)→(Q:KT β)→(f:Fr)→KS→(_:Lk (c,Q,f))→Option β
 |.skip,Q,f,K,_=>Q .normal f K
 |.ret,Q,f,K,_=>Q .ret f K
 |.exit id,Q,f,K,_=>Q (.exit id) f K
 |.seq x y,Q,f,K,_=>Vl P D a x (Qql (fun f K=>Vl P D a y Q f K ()) Q) f K ()
 |.cond c x y,Q,f,K,_=>match ev f c with
  |.b b=>cond b (Vl P D a x Q f K ()) (Vl P D a y Q f K ())
  |_=>none
 |.block id c,Q,f,K,_=>Vl P D a c (Quf id Q) f K ()
 |.loop c,Q,f,K,_=>match lk a.lp (tag c)with
  |some la=>Qef a.ak la.sl la.rg f K (fun f K=>Jc (D.l (tag c) f K) (fun o=>Q o.1 o.2.1 o.2.2) ()) ()
  |none=>none
 |.region id ops false,Q,f,K,_=>ofz (lk a.fz id) (lk a.fc id) f K (fun f K=>QiT P D a id (lk a.av id) ops Q f K ()) ()
 |.region id ops true,Q,f,K,_=>ofz (lk a.fz id) (lk a.fc id) f K (fun f K=>Qii P D a id (lk a.av id) ops Q f K ()) ()
 |_,_,_,_,_=>none
end
abbrev ST:=Fr×KS
def Qgw(z:List Nat)(la rt:LA):KT (ST⊕(XE×ST))
 |.normal,f,K=>Qef z la.sl la.rg f K (fun f K=>some (.inl (f,K))) ()
 |.ret,f,K=>Qef z rt.sl rt.rg f K (fun f K=>some (.inr (.ret,f,K))) ()
 |.exit i,f,K=>Qef z la.xs la.xr f K (fun f K=>some (.inr (.exit i,f,K))) ()
def QbV(f:Fr)(K:KS)(P:Program):List ResultVar→Option (List AV)
 |[]=>some []
 |.tmp t::rs=>(QbV f K P rs).map (f t::·)
 |.cell a t::rs=>(QfF (tk P t) (Ja K (f a)) some ()).bind fun v=>(QbV f K P rs).map (v::·)
def Qfj:List AV→AV
 |[v]=>v
 |vs=>.tup vs
def QnQ:Sh→AV→AV
 |.z k,v=>nzc k v
 |.a ns,.agg cs=>.agg (nz ns cs)
 |_,v=>v
def QpP:List Sh→List AV→List AV
 |s::ss,v::vs=>QnQ s v::QpP ss vs
 |_,vs=>vs
def QmM:List Sh→AV→AV
 |[s],v=>QnQ s v
 |s::ss,.tup vs=>.tup (QpP (s::ss) vs)
 |_,v=>v
def Qht(P:Program)(sh:List Sh)(rs:List ResultVar):KT AV
 |.exit _,_,_=>none
 |_,f,K=>Jc (QbV f K P rs) (fun vs=>(Qbs K (Qfj vs)).map fun p=>QmM sh p.2) ()
def tkl:List Nat→KS→KS
 |_::l,e::K=>e::tkl l K
 |_,_=>[]
def Qwz(P:Program)(m:Nat)(rs:List ResultVar)(f:Fr)(K K':KS):Option (AV×KS):=Jc (QbV f K P rs) (fun vs=>Vf (rok K'.length (Qfj vs)&&(QhZ K'&&Nat.ble m K'.length)) (some (Qfj vs,K')) ()) ()
def Qlc(P:Program)(z:List Nat)(S:Nat)(rs:List ResultVar)(nr:Option (List Pt))(f:Fr)(K:KS)(_:Lk f):Option (AV×KS) :=
 match nr with
 |none=>Qwz P z.length rs f K (tkl z K)
 |some rg=>Jc (QbV f K P rs) (fun vs=>Qef z [S] rg (up f S (Qfj vs)) K (fun f K=>Vf (rok K.length (f S)&&(QhZ K&&Nat.ble z.length K.length)) (some (f S,K)) ()) ()) ()
def Qdh(P:Program)(z:List Nat)(nr:Option (List Pt))(S:Nat)(rs:List ResultVar):KT (AV×KS)
 |.exit _,_,_=>none
 |_,f,K=>Qlc P z S rs nr f K ()
def Ann.wr(a:Ann):Bool:=a.nr.isSome||!a.ak.isEmpty
structure Tld where
 P:Program
 ann:List (Nat×Ann)
 xt:Nat→List AV→Option AV:=fun _ _=>none
 st:Nat→Bool:=fun _=>false
 qt:Nat→Bool:=fun _=>false
 pz:List (Nat×List Sh):=[]
 vt:Nat→Bool:=fun _=>false
 mt:Nat→KS→List AV→Option AV:=fun _ _ _=>none
def Tld.at(T:Tld)(g:FuncId):Option Ann:=lk T.ann g
def Tld.wt(T:Tld)(g:FuncId):Bool:=match T.at g with|some a=>a.wr|none=>false
def body(P:Program)(g:FuncId):Code:=match P.funcs[g]? with|some f=>f.body.getD .skip|none=>.skip
def Qkr(P:Program)(g:FuncId):List ResultVar:=match P.funcs[g]? with|some f=>f.results.toList|none=>[]
def ntm(P:Program)(g:FuncId):Nat:=match P.funcs[g]? with|some f=>f.ntmps|none=>0
noncomputable def orc(T:Tld):Nat→FuncId→Orc
 |0,_=>{ p:=fun _ _=>none,l:=fun _ _ _=>none,z:=fun g=>(lk T.pz g).getD [] }
 |n+1,h =>
  {p:=fun g args=>match T.at g with
    |some a=>cond (Nat.ble args.length (ntm T.P g)) (Vl T.P (orc T n g) a (body T.P g) (Qht T.P a.sh (Qkr T.P g)) (VP args) [] ()) none
    |none=>T.xt g args
   l:=fun t f K=>match T.at h with
    |some a=>match QG t (body T.P h),lk a.lp t with
     |some c,some la=>run (fun s=>Vl T.P (orc T n h) a c (Qgw a.ak la a.rt) s.1 s.2 ()) (f,K)
     |_,_=>none
    |none=>none
   s:=T.st
   q:=T.qt
   w:=T.wt
   a:=fun g K args=>match T.at g with
    |some a=>cond (a.wr&&(Nat.beq K.length a.ak.length&&Nat.ble args.length (ntm T.P g))) (Vl T.P (orc T n g) a (body T.P g) (Qdh T.P a.ak a.nr (ntm T.P g) (Qkr T.P g)) (VP args) K ()) none
    |none=>none
   z:=fun g=>(lk T.pz g).getD []
   v:=T.vt
   m:=fun g K args=>match T.at g with
    |some a=>cond (Nat.ble args.length (ntm T.P g)) (Vl T.P (orc T n g) a (body T.P g) (Qht T.P a.sh (Qkr T.P g)) (VP args) K ()) none
    |none=>T.mt g K args }
noncomputable def CP(T:Tld)(n:Nat)(g:FuncId)(args:List AV):Option AV:=(orc T n 0).p g args
noncomputable def CA(T:Tld)(n:Nat)(g:FuncId)(K:KS)(args:List AV):Option (AV×KS):=(orc T n 0).a g K args
noncomputable def CM(T:Tld)(n:Nat)(g:FuncId)(K:KS)(args:List AV):Option AV:=(orc T n 0).m g K args
noncomputable def LP(T:Tld)(n:Nat)(h:FuncId)(t:Nat)(f:Fr)(K:KS):Option (XE×Fr×KS):=(orc T n h).l t f K
end Go.Proofs.YtonidbheohhgdaaGreat.Am
