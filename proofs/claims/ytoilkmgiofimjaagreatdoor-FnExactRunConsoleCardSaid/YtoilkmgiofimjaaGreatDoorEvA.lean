import Derived.Test.YtoilkmgiofimjaaGreatDoorAmD
noncomputable section
namespace Go.Proofs.YtoilkmgiofimjaaGreatDoor.Am
open Go
set_option linter.unusedVariables false
set_option linter.unusedSimpArgs false
section
variable{β:Type}
def Rb(v:AV)(k:AV→Option β)(_:Lk k):Option β:=k v
def X6(K:KS)(k:KS→Option β)(_:Lk k):Option β:=k K
def ZE{α:Type}(o:Option α)(k:α→Option β)(_:Lk k):Option β:=o.bind k
def xy(te:Option (List CK))(xs ys:List AV)(k:Bool→Option β)(_:Lk k):Option β :=
 match te with
 |some ks=>match Vm ks xs ys with|some b=>k b|none=>none
 |none=>none
def MN(t:TI)(x:AV)(lo hi:Option AV)(k:AV→Option β)(_:Lk k):Option β :=
 match t,x with
 |.sl _ m,.imm n rows=>if m=n then match bd 0 lo,bd rows.length hi with
   |some l,some h=>VI (slB l h rows.length) (k (.imm n (cut rows l h))) ()
   |_,_=>none
  else none
 |.str,.s x=>match bd 0 lo,bd x.length hi with
   |some l,some h=>VI (slB l h x.length) (k (.s (cut x l h))) ()
   |_,_=>none
 |_,_=>none
def pu(t:TI)(x i:AV)(k:AV→Option β)(_:Lk k):Option β :=
 match t,x,i with
 |.str,.s x,.i _ i=>VI (inb x i) (k (.i .u8 ((gt x i).toNat:Int))) ()
 |_,_,_=>none
def Ap(te:Option (List CK))(op:BinOp)(x y:AV)(k:AV→Option β)(_:Lk k):Option β :=
 match x,y with
 |.agg xs,.agg ys=>match op with
  |.eql=>xy te xs ys (λb=>k (.b b)) ()
  |.neq=>xy te xs ys (λb=>k (.b (!b))) ()
  |_=>none
 |.b a,.b b=>match te,op with
  |some [.t],.eql=>k (.b (decide (a=b)))
  |some [.t],.neq=>k (.b (!decide (a=b)))
  |_,_=>none
 |.i c a,.i d b=>if K4 op=true then VI (decide (0≤b)) (k (.i c (shI op c a b))) ()else if c=d then match op with
  |.add=>k (.i c (c.wrap (a+b)))|.sub=>k (.i c (c.wrap (a-b)))|.mul=>k (.i c (c.wrap (a*b)))
  |.and=>k (.i c (Yb .and c a b))|.or=>k (.i c (Yb .or c a b))|.xor=>k (.i c (Yb .xor c a b))
  |.quo=>VI (!decide (b=0)) (k (.i c (c.wrap (a.tdiv b)))) ()|.rem=>VI (!decide (b=0)) (k (.i c (a.tmod b))) ()
  |.eql=>k (.b (decide (a=b)))|.neq=>k (.b (!decide (a=b)))|.lss=>k (.b (decide (a<b)))|.leq=>k (.b (decide (a≤b)))
  |.gtr=>k (.b (decide (b<a)))|.geq=>k (.b (decide (b≤a)))
  |_=>none
  else none
 |.s a,.s b=>match op with
  |.add=>VI (decide (a.length+b.length≤9223372036854775807)) (k (.s (a++b))) ()|.eql=>k (.b (decide (a=b)))|.neq=>k (.b (!decide (a=b)))
  |_=>none
 |_,_=>none
open Classical in
def oeq(a b:Option β):Option β:=if a=b then a else none
def Tc(b:Bool)(x y:Option β):Option β:=cond b (oeq x y) y
def RG(op:BinOp)(x:AV)(k:AV→Option β)(_:Lk k):Option β :=
 match op,x with
 |.eql,.imm _ rows=>Tc rows.isEmpty (k (.b true)) (k (.b false))
 |.neq,.imm _ rows=>Tc rows.isEmpty (k (.b false)) (k (.b true))
 |_,_=>none
def lU(e:Option Ent)(x:AV)(k:AV→Option β)(_:Lk k):Option β :=
 match e with
 |some _=>k x
 |none=>none
def qC(K:KS)(x:AV)(k:AV→Option β)(_:Lk k):Option β :=
 match x with
 |.ptr j i o=>lU (kg K j) (.ptr j i o) k ()
 |.iptr n r i o=>k (.iptr n r i o)
 |_=>none
def oun(op:UnOp)(x:AV)(k:AV→Option β)(_:Lk k):Option β :=
 match op,x with
 |.not,.b x=>k (.b (!x))
 |.neg,.i c a=>k (.i c (c.wrap (-a)))
 |_,_=>none
def T1(c x y:AV)(k:AV→Option β)(_:Lk k):Option β :=
 match c with
 |.b c=>cond c (k x) (k y)
 |_=>none
def gy(K:KS)(t:TI)(x:AV)(k:AV→Option β)(_:Lk k):Option β :=
 match t,x with
 |.sl _ _,.nil=>k (.i .i64 0)
 |.sl _ _,.imm _ rows=>k (.i .i64 rows.length)
 |.sl _ _,.sl j=>match kg K j with|some e=>k (.i .i64 e.rows.length)|none=>none
 |.str,.s x=>k (.i .i64 x.length)
 |.arr n _ _,_=>k (.i .i64 n)
 |_,_=>none
def pa(K:KS)(x:AV)(o:Option (Nat×TK))(k:AV→Option β)(_:Lk k):Option β :=
 match x,o with
 |.ptr j i p,some (o,_)=>match kg K j with|some _=>k (.ptr j i (p+o))|none=>none
 |.iptr n rows i p,some (o,_)=>k (.iptr n rows i (p+o))
 |_,_=>none
def dU(K:KS)(t:TI)(x i:AV)(k:AV→Option β)(_:Lk k):Option β :=
 match t,x,i with
 |.sl _ m,.imm n rows,.i _ i=>if m=n then VI (inb rows i) (k (.iptr n rows i.toNat 0)) ()else none
 |.sl _ m,.sl j,.i _ i=>match kg K j with
  |some e=>if m=e.n then VI (inb e.rows i) (k (.ptr j i.toNat 0)) ()else none
  |none=>none
 |.arr len _ m,.ptr j r o,.i _ i=>match kg K j with
  |some e=>VI (aS len i) (k (.ptr j r (o+i.toNat*m))) ()
  |none=>none
 |_,_,_=>none
def KF(t:TK)(cs:List AV)(k:AV→Option β)(_:Lk k):Option β :=
 match t with
 |.one=>match cs with|c::_=>k c|[]=>none
 |.agg m=>if 0<m∧m≤cs.length then k (.agg (cs.take m))else none
 |.bad=>none
def qG(o:Option (Nat×TK))(x:AV)(k:AV→Option β)(_:Lk k):Option β :=
 match o,x with
 |some (o,t),.agg cs=>KF t (cs.drop o) k ()
 |_,_=>none
def MJ(cs:List AV)(o:Nat)(t:TK)(v:AV)(ok:AV→Bool)(k:List AV→Option β)(_:Lk k):Option β :=
 match t,v with
 |.agg m,.agg ds=>if m=ds.length∧o+m≤cs.length∧ds.all ok=true then k (putCells cs o ds)else none
 |.one,v=>if o<cs.length∧ok v=true then k (cs.set o v)else none
 |_,_=>none
def RV(K:KS)(t:TK)(p v:AV)(k:KS→Option β)(_:Lk k):Option β :=
 match p with
 |.ptr j i o=>match kg K j with
  |some (.box cs)=>if i=0 then MJ cs o t v (Be K) (λcs=>X6 (K.set j (some (.box cs))) k ()) ()else none
  |some (.lst n rows)=>if i<rows.length then MJ (Va rows i) o t v AV.closed (λr=>X6 (K.set j (some (.lst n (rows.set i r)))) k ()) ()else none
  |none=>none
 |_=>none
def OL(ns:List Nat)(K:KS)(t:TK)(j i o n:Nat)(rows:List (List AV))(v:AV)(k:KS→Option β)(_:Lk k):Option β :=
 if i<rows.length then match V6 K (CH v)with
  |some (K1,ds)=>if(kg K1 j).isSome=true∧a8 t v ds.length=true∧o+ds.length≤(Va rows i).length then X6 (K1.set j (some (.lst n (rows.set i (putCells (Va rows i) o (nz ns ds)))))) k ()else none
  |none=>none
 else none
def OV(fl:Bool)(ns:List Nat)(K:KS)(t:TK)(p v:AV)(k:KS→Option β)(_:Lk k):Option β :=
 match p with
 |.ptr j i o=>match kg K j with
  |some (.lst n rows)=>if(CH v).all clq=true then RV K t p v k ()else if fl=false then OL ns K t j i o n rows v k ()else none
  |_=>RV K t p v k ()
 |_=>none
def iL(K:KS)(v:AV)(k:AV→KS→Option β)(_:Lk k):Option β :=
 match v with
 |.agg cs=>if cs.all (Be K)=true then X6 (K++[some (.box cs)]) (λK'=>k (.ptr K.length 0 0) K') ()else none
 |v=>if Be K v=true then X6 (K++[some (.box [v])]) (λK'=>k (.ptr K.length 0 0) K') ()else none
def U9(K:KS)(z:Option (List AV))(k:AV→KS→Option β)(_:Lk k):Option β :=
 match z with
 |some cs=>X6 (K++[some (.box cs)]) (λK'=>k (.ptr K.length 0 0) K') ()
 |none=>none
def Sl(K:KS)(t:TB)(parts:List (Nat×AV))(k:AV→Option β)(_:Lk k):Option β :=
 match t with
 |.st z p=>match Df K (p[·]?) z parts with|some cs=>k (.agg cs)|none=>none
 |.arr z m=>match Df K (λi=>some (i*m,m)) z parts with|some cs=>k (.agg cs)|none=>none
 |.bad=>none
def yB:Bool→List AV→Bool
 |false,_=>true
 |true,cs=>noS cs
def Mg(fl:Bool)(ns:List Nat)(K:KS)(t:Option (TypeId×Nat×List AV))(len:Nat)(parts:List (Nat×AV))(k:AV→KS→Option β)(_:Lk k):Option β :=
 match t with
 |some (_,m,z)=>if len=0 then(match parts with|[]=>X6 (K++[some (.lst m [])]) (λK'=>k (.sl K.length) K') ()|_=>none)
  else if len*m≤16777216 then match Df K (λi=>some (i*m,m)) (GA len z) parts with
  |some cs=>cond (yB fl cs) (match V6 K cs with
   |some (K1,cs)=>X6 (K1++[some (.lst m ((D1 m len cs).map (nz ns)))]) (λK'=>k (.sl K.length) K') ()
   |none=>none) none
  |none=>none
  else none
 |none=>none
def qe(v:AV)(i:Nat)(k:AV→Option β)(_:Lk k):Option β :=
 match v with
 |.tup cs=>match cs[i]? with|some c=>k c|none=>none
 |_=>none
def TF(K:KS)(t:Option (TypeId×Nat×List AV))(bytes:Option Nat)(s x:AV)(k:AV→KS→Option β)(_:Lk k):Option β :=
 match t,bytes with
 |some (_,m,_),some (b+1)=>match FV K m x with
  |some (rows',K1)=>match s with
   |.sl j=>match kg K1 j with
    |some (.lst n rows)=>if n=m then VI (decide ((rows.length+rows'.length)*(b+1)≤140737488355328)) (X6 (K1.set j none++[some (.lst m (rows++rows'))]) (λK'=>k (.sl K.length) K') ()) ()else none
    |_=>none
   |.nil=>VI (decide (rows'.length*(b+1)≤140737488355328)) (X6 (K1++[some (.lst m rows')]) (λK'=>k (.sl K.length) K') ()) ()
   |_=>none
  |none=>none
 |_,_=>none
def sy(x y:AV)(k:AV→Option β)(_:Lk k):Option β :=
 match x,y with
 |.i c a,.i _ b=>k (.i c (if b<a then b else a))
 |_,_=>none
def uc(x y:AV)(k:AV→Option β)(_:Lk k):Option β :=
 match x,y with
 |.i c a,.i _ b=>k (.i c (if a<b then b else a))
 |_,_=>none
def fG(t:TI)(x:AV)(k:AV→Option β)(_:Lk k):Option β :=
 match t,x with
 |.int c,.i _ a=>k (.i c (c.wrap a))
 |_,_=>none
def eR(K:KS)(t:TI)(x:AV)(k:AV→Option β)(_:Lk k):Option β :=
 match t,x with
 |.str,.sl j=>match kg K j with
  |some (.lst 1 rows)=>match Fi rows with|some s=>k (.s s)|none=>none
  |_=>none
 |_,_=>none
def gC(v:AV)(k:FuncId→List AV→Option β)(_:Lk k):Option β :=
 match v with
 |.clo g caps=>k g caps
 |_=>none
def mc(ns:List Nat)(K:KS)(t:Option (TypeId×Nat×List AV))(bytes:Option Nat)(l c:AV)(k:AV→KS→Option β)(_:Lk k):Option β :=
 match t,bytes,l,c with
 |some (_,m,z),some (b+1),.i .i64 l,.i .i64 c =>
  VI (decide (l=c)) (VI (mkB l (b+1)) (X6 (K++[some (.lst m (List.replicate l.toNat (nz ns z)))]) (λK'=>k (.sl K.length) K') ()) ()) ()
 |_,_,_,_=>none
structure Orc where
 p:FuncId→List AV→Option AV
 l:Nat→Fr→KS→Option (XE×Fr×KS)
 s:FuncId→Bool:=λ_=>false
 q:FuncId→Bool:=λ_=>false
 w:FuncId→Bool:=λ_=>false
 a:FuncId→KS→List AV→Option (AV×KS):=λ_ _ _=>none
 z:FuncId→List Sh:=λ_=>[]
 v:FuncId→Bool:=λ_=>false
 m:FuncId→KS→List AV→Option AV:=λ_ _ _=>none
def cI(x:Int):List AV:=[.i .i64 x]
def F7:List (List AV)→Option (List Int)
 |[]=>some []
 |[.i .i64 x]::r=>(F7 r).map (x::·)
 |_=>none
def Y7(K:KS)(vs:List AV)(k:AV→KS→Option β)(_:Lk k):Option β :=
 match vs with
 |[.sl j]=>match kg K j with
  |some (.lst 1 rows)=>match F7 rows with
   |some xs=>VI (decide (xs.length<4611686018427387904)) (X6 (K.set j (some (.lst 1 ((Z2 xs).map cI)))) (λK=>k (.tup []) K) ()) ()
   |none=>none
  |_=>none
 |_=>none
def Kt(D:Orc)(g:FuncId)(K:KS)(vs:List AV)(k:AV→KS→Option β)(_:Lk k):Option β :=
 ZE (D.p g (Yo (D.z g) (Gc K vs))) (λx=>k (Xk K.length x).1 (K++(Xk K.length x).2)) ()
def oop(P:Program)(D:Orc)(o:Op)(f:Fr)(K:KS)(k:AV→KS→Option β)(_:Lk (o,f,k)):Option β :=
 match o with
 |.move x|.assign x=>k (ev f x) K
 |.pick c x y=>T1 (ev f c) (ev f x) (ev f y) (λv=>k v K) ()
 |.alloc t=>U9 K (tzc P t) k ()
 |.box _ v=>iL K (ev f v) k ()
 |.build t ps=>Sl K (tbd P t) (ps.toList.map λp=>(p.1,ev f p.2)) (λv=>k v K) ()
 |.buildSlice t len ps=>Mg (zB (GH P t)) (GH P t) K (tse P t) len (ps.toList.map λp=>(p.1,ev f p.2)) k ()
 |.load t x=>KF (tk P t) (Zv K (ev f x)) (λv=>k v K) ()
 |.store t p v=>OV (flT P t) (slz P 9 t) K (tk P t) (ev f p) (ev f v) (λK=>k .u K) ()
 |.binOp op t x y _=>if ES y=true then(if HT P t=true then RG op (ev f x) (λv=>k v K) ()else none)else Ap (SY P t) op (ev f x) (ev f y) (λv=>k v K) ()
 |.unOp op _ x=>oun op (ev f x) (λv=>k v K) ()
 |.convert s t x=>if bsl P s=true then eR K (ti P t) (ev f x) (λv=>k v K) ()else if tok P s=true then fG (ti P t) (ev f x) (λv=>k v K) ()else none
 |.makeFunc (.func g) first caps=>if first.size=0 then k (.clo g (caps.toList.map (ev f))) K else none
 |.fieldAddr t x i=>pa K (ev f x) (tfo P t i) (λv=>k v K) ()
 |.indexAddr t x i=>dU K (ti P t) (ev f x) (ev f i) (λv=>k v K) ()
 |.extract x i=>qe (ev f x) i (λv=>k v K) ()
 |.call { callee:=.builtin .len,args,argTypes }=>match args.toList,argTypes.toList with
  |[x],t::_=>gy K (ti P t) (ev f x) (λv=>k v K) ()
  |_,_=>none
 |.call { callee:=.builtin .append,args,argTypes }=>match args.toList,argTypes.toList with
  |[s,x],t::tx::_=>if DN P tx=true∧(ES s&&II (ev f x))=false then TF K (tse P t) ((tse P t).bind λq=>tb P q.1) (ev f s) (ev f x) k ()else none
  |_,_=>none
 |.call { callee:=.builtin .min,args,.. }=>match args.toList with
  |[x,y]=>sy (ev f x) (ev f y) (λv=>k v K) ()
  |_=>none
 |.call { callee:=.builtin .max,args,.. }=>match args.toList with
  |[x,y]=>uc (ev f x) (ev f y) (λv=>k v K) ()
  |_=>none
 |.call { callee:=.value x,args,.. }=>gC (ev f x) (λg caps=>Kt D g K (args.toList.map (ev f)++caps) k ()) ()
 |.makeSlice t l c=>mc (GH P t) K (tse P t) ((tse P t).bind λq=>tb P q.1) (ev f l) (ev f c) k ()
 |.slice t x lo hi none=>MN (ti P t) (ev f x) (lo.map (ev f)) (hi.map (ev f)) (λv=>k v K) ()
 |.index t x i=>pu (ti P t) (ev f x) (ev f i) (λv=>k v K) ()
 |.nilCheck x=>qC K (ev f x) (λv=>k v K) ()
 |.field t x i=>qG (tfo P t i) (ev f x) (λv=>k v K) ()
 |_=>none
def ogd(s:Option Tmp)(want:Bool)(f:Fr)(yes no:Fr→Option β)(_:Lk (f,yes,no)):Option β :=
 match s with
 |some d=>match f d with
  |.b x=>cond x (if want=true then yes (up f d (.b true))else no (up f d (.b true))) (if want=true then no (up f d (.b false))else yes (up f d (.b false)))
  |.tup []=>no f
  |_=>none
 |none=>none
def Ip(d:Option Tmp)(v:AV)(f:Fr)(k:Fr→Option β)(_:Lk (f,k)):Option β :=
 match d with
 |some d=>Rb v (λv=>k (up f d v)) ()
 |none=>k f
def Gg(P:Program)(D:Orc)(ops:Array Oper):(l:List Oper)→(f:Fr)→(K:KS)→(k:Fr→KS→Option β)→(_:Lk (l,f,k))→Option β
 |[],f,K,k,_=>k f K
 |o::r,f,K,k,_=>match o.guard with
  |none=>oop P D o.op f K (λv K'=>Ip o.dst v f (λf=>Gg P D ops r f K' k ()) ()) ()
  |some (j,want)=>ogd ((ops[j]?).bind (·.dst)) want f (λf=>oop P D o.op f K (λv K'=>Ip o.dst v f (λf=>Gg P D ops r f K' k ()) ()) ()) (λf=>Ip o.dst (.tup []) f (λf=>Gg P D ops r f K k ()) ()) ()
def Ui(K:KS)(vs:List AV)(k:AV→KS→Option β)(_:Lk k):Option β :=
 match vs with
 |[.sl j]=>match kg K j with
  |some (.lst 1 rows)=>match F7 rows with
   |some xs=>VI (decide (xs.length<4611686018427387904)) (X6 (K.set j none++[some (.lst 1 ((J8 xs).map cI))]) (λK'=>k (.sl K.length) K') ()) ()
   |none=>none
  |_=>none
 |_=>none
def ndB:List Nat→Bool
 |[]=>true
 |x::l=>!l.contains x&&ndB l
def jh:KS→Bool
 |[]=>true
 |some (.lst _ _)::l=>jh l
 |_::_=>false
def Nj:KS→Bool
 |[]=>true
 |some (.lst _ _)::l=>Nj l
 |some (.box cs)::l=>bu cs&&Nj l
 |none::_=>false
def TE(D:Orc)(g:FuncId)(K:KS)(js:List Nat)(cs:Option (List AV))(k:AV→KS→Option β)(_:Lk k):Option β :=
 match cs with
 |some cs=>VI (Nj (Zs K js)) (ZE (D.a g (Zs K js) cs) (λr=>k (Ef js K.length r.1) (GM K js r.2)) ()) ()
 |none=>none
def TS(D:Orc)(g:FuncId)(K:KS)(js:List Nat)(vs:List AV)(k:AV→KS→Option β)(_:Lk (vs,k)):Option β :=
 VI (ndB js) (TE D g K js (Fz js vs) k ()) ()
def Sn(D:Orc)(g:FuncId)(K:KS)(vs:List AV)(k:AV→KS→Option β)(_:Lk k):Option β:=TS D g K (HN vs) vs k ()
def TM(D:Orc)(g:FuncId)(K:KS)(js:List Nat)(cs:Option (List AV))(k:AV→KS→Option β)(_:Lk k):Option β :=
 match cs with
 |some cs=>VI (jh (Zs K js)) (ZE (D.m g (Zs K js) cs) (λx=>k (Xk K.length x).1 (AX K js (Dq js)++(Xk K.length x).2)) ()) ()
 |none=>none
def Ty(D:Orc)(g:FuncId)(K:KS)(js:List Nat)(vs:List AV)(k:AV→KS→Option β)(_:Lk (vs,k)):Option β :=
 VI (ndB js) (TM D g K js (Fz js vs) k ()) ()
def Ob(D:Orc)(g:FuncId)(K:KS)(vs:List AV)(k:AV→KS→Option β)(_:Lk k):Option β:=Ty D g K (HN vs) vs k ()
def FQ(P:Program)(D:Orc)(o:Op)(f:Fr)(K:KS)(k:AV→KS→Option β)(_:Lk (o,f,k)):Option β :=
 match o with
 |.call { callee:=.value x,args,.. }=>gC (ev f x) (λg caps=>cond (D.s g) (Y7 K (args.toList.map (ev f)++caps) k ()) (cond (D.q g) (Ui K (args.toList.map (ev f)++caps) k ()) (cond (D.w g) (Sn D g K (args.toList.map (ev f)++caps) k ()) (cond (D.v g) (Ob D g K (args.toList.map (ev f)++caps) k ()) (Kt D g K (args.toList.map (ev f)++caps) k ()))))) ()
 |o=>oop P D o f K k ()
def Kv(P:Program)(D:Orc)(ops:Array Oper):(l:List Oper)→(f:Fr)→(K:KS)→(k:Fr→KS→Option β)→(_:Lk (l,f,k))→Option β
 |[],f,K,k,_=>k f K
 |o::r,f,K,k,_=>match o.guard with
  |none=>FQ P D o.op f K (λv K'=>Ip o.dst v f (λf=>Kv P D ops r f K' k ()) ()) ()
  |some _=>none
def SV(vs:List Nat)(P:Program)(D:Orc)(o:Op)(f:Fr)(K:KS)(k:AV→KS→Option β)(_:Lk (o,f,k)):Option β :=
 match o with
 |.call { callee:=.value (.func g),args,argTypes }=>cond (vs.contains g) (FQ P D (.call { callee:=.value (.func g),args,argTypes }) f K k ()) (oop P D (.call { callee:=.value (.func g),args,argTypes }) f K k ())
 |o=>oop P D o f K k ()
def BX(vs:List Nat)(P:Program)(D:Orc)(ops:Array Oper):(l:List Oper)→(f:Fr)→(K:KS)→(k:Fr→KS→Option β)→(_:Lk (l,f,k))→Option β
 |[],f,K,k,_=>k f K
 |o::r,f,K,k,_=>match o.guard with
  |none=>SV vs P D o.op f K (λv K'=>Ip o.dst v f (λf=>BX vs P D ops r f K' k ()) ()) ()
  |some (j,want)=>ogd ((ops[j]?).bind (·.dst)) want f (λf=>SV vs P D o.op f K (λv K'=>Ip o.dst v f (λf=>BX vs P D ops r f K' k ()) ()) ()) (λf=>Ip o.dst (.tup []) f (λf=>BX vs P D ops r f K k ()) ()) ()
def onr(D:Orc)(f:Fr)(K:KS)(j i o q:Nat)(rows:List (List AV))(r:AV×KS)(k:AV→KS→Option β)(_:Lk k):Option β :=
 match r.2 with
 |[some (.lst m rs')]=>VI (r.1.flat&&Nat.blt i rows.length) (X6 (YL K j i o q m rows rs') (λK'=>k r.1 K') ()) ()
 |_=>none
def onx(D:Orc)(f:Fr)(K:KS)(x:AV)(g:FuncId)(j i o q:Nat)(rows:List (List AV))(cs:List AV)(k:AV→KS→Option β)(_:Lk k):Option β :=
 match cs with
 |.own m rs::_=>VI x.scal (ZE (D.a g [some (.lst m rs)] [.sl 0,x]) (λr=>onr D f K j i o q rows r k ()) ()) ()
 |_=>none
def onj(D:Orc)(f:Fr)(K:KS)(x:AV)(g:FuncId)(j i o:Nat)(e:Option Ent)(k:AV→KS→Option β)(_:Lk k):Option β :=
 match e with
 |some (.lst q rows)=>onx D f K x g j i o q rows ((Va rows i).drop o) k ()
 |_=>none
def onp(D:Orc)(f:Fr)(K:KS)(p x:AV)(g:FuncId)(k:AV→KS→Option β)(_:Lk k):Option β :=
 match p with
 |.ptr j i o=>onj D f K x g j i o (kg K j) k ()
 |_=>none
def um:TK→Bool
 |.one=>true
 |_=>false
def M9(P:Program)(D:Orc)(ops:Array Oper):(us:List Nat)→(l:List Oper)→(f:Fr)→(K:KS)→(k:Fr→KS→Option β)→(_:Lk (l,f,k))→Option β
 |_::us,o::r,f,K,k,_=>match o.guard with
  |none=>oop P D o.op f K (λv K'=>Ip o.dst v f (λf=>M9 P D ops us r f K' k ()) ()) ()
  |some _=>none
 |[],⟨some d,.load t p,_,_,_,none⟩::⟨some e,.move x,_,_,_,none⟩::⟨dst,.call ⟨.value (.func g),args,_⟩,_,_,_,none⟩::r,f,K,k,_=>match args.toList with
  |[.tmp d',.tmp e']=>VI (um (tk P t)&&(Nat.beq d d'&&(Nat.beq e e'&&!Nat.beq d e))) (onp D f K (ev f p) (ev (up f d (.sl K.length)) x) g (λv K'=>Ip dst v (up (up f d (.sl K.length)) e (ev (up f d (.sl K.length)) x)) (λf=>Kv P D ops r f K' k ()) ()) ()) ()
  |_=>none
 |_,_,_,_,_,_=>none
inductive Pt where
 |r (i:Nat)|s (t n:Nat)|c (q o n:Nat)|g (t o n:Nat)
structure LA where
 sl:List Nat
 rg:List Pt
 xs:List Nat
 xr:List Pt
structure Ann where
 ord:List (Nat×List Nat):=[]
 ot:List (Nat×OT):=[]
 ac:List (Nat×Nat):=[]
 av:List (Nat×List Nat):=[]
 an:List (Nat×List Nat):=[]
 eb:List (Nat×List Nat):=[]
 ak:List Nat:=[]
 jn:List (Nat×(Nat×Nat×Nat)):=[]
 lp:List (Nat×LA):=[]
 rt:LA:=⟨[],[],[],[]⟩
 sh:List Sh:=[]
 fz:List (Nat×List Nat):=[]
 fc:List (Nat×List (Nat×Nat)):=[]
 nr:Option (List Pt):=none
def lk{α:Type}:List (Nat×α)→Nat→Option α
 |[],_=>none
 |(i,x)::l,j=>cond (i==j) (some x) (lk l j)
def mtI(tb:List (Nat×(Nat×Nat)))(g:Nat)(K:KS)(args:List AV):Option AV:=match K,args with
 |[some (.lst n R),some (.lst m V)],[.sl 0,.i .i64 i,.sl 1]=>match lk tb g with
  |some (k,b)=>if n=k∧m=k∧QF R=true∧QF V=true then VI (Gu R i V b) (some (.own k (Vt R i V))) ()else none
  |none=>none
 |_,_=>none
def Xa:(l:List Pt)→(f:Fr)→(K:KS)→(π:List Nat)→(k:Fr→KS→List Nat→Option β)→(_:Lk (f,k))→Option β
 |[],f,K,π,k,_=>k f K π
 |.r i::l,f,K,π,k,_=>Xa l f K (π++[i]) k ()
 |.s t n::l,f,K,π,k,_=>match f t with
  |.sl j=>Xa l f K (π++[j]) k ()
  |.ptr j _ _=>Xa l f K (π++[j]) k ()
  |.nil=>Xa l (up f t (.sl K.length)) (K++[some (.lst n [])]) (π++[K.length]) k ()
  |_=>none
 |.c q o n::l,f,K,π,k,_=>match π[q]? with
  |some j=>match kg K j with
   |some (.box cs)=>match cs[o]? with
    |some (.sl i)=>Xa l f K (π++[i]) k ()
    |some (.ptr i _ _)=>Xa l f K (π++[i]) k ()
    |some .nil=>Xa l f ((K++[some (Ent.lst n [])]).set j (some (Ent.box (cs.set o (.sl K.length))))) (π++[K.length]) k ()
    |_=>none
   |_=>none
  |none=>none
 |.g t o n::l,f,K,π,k,_=>match f t with
  |.agg cs=>match cs[o]? with
   |some (.sl j)=>Xa l f K (π++[j]) k ()
   |some .nil=>Xa l (up f t (.agg (cs.set o (.sl K.length)))) (K++[some (.lst n [])]) (π++[K.length]) k ()
   |_=>none
  |_=>none
def wD(K:KS)(π:List Nat):KS:=π.map λj=>(kg K j).map (NS π)
def frl(f:Fr)(π:List Nat):List Nat→List (Nat×AV)
 |[]=>[]
 |t::l=>(t,ren π (f t))::frl f π l
def yz(f:Fr)(π:List Nat)(l:List Nat):Fr:=frm (frl f π l)
def pfx:List Nat→List Nat→Bool
 |[],_=>true
 |x::l,y::m=>Nat.beq x y&&pfx l m
 |_::_,[]=>false
def onz(z π:List Nat)(q:Option β)(_:Lk q):Option β :=
 match z with
 |[]=>q
 |x::l=>VI (pfx (x::l) π) q ()
def Hy(z:List Nat)(sl:List Nat)(rg:List Pt)(f:Fr)(K:KS)(k:Fr→KS→Option β)(_:Lk (f,k)):Option β :=
 Xa rg f K [] (λf K π=>VI (ndB π) (onz z π (X6 (wD K π) (λK'=>k (yz f π sl) K') ()) ()) ()) ()
def tag:Code→Nat
 |.region id _ _=>id
 |.seq a _=>tag a
 |.cond _ a _=>tag a
 |.block _ c=>tag c
 |.loop c=>tag c
 |_=>0
def Vj(t:Nat):Code→Option Code
 |.seq a b=>(Vj t a).or (Vj t b)
 |.cond _ a b=>(Vj t a).or (Vj t b)
 |.block _ c=>Vj t c
 |.loop c=>cond (tag c==t) (some c) (Vj t c)
 |_=>none
def ag(o:Option Bool)(k:Bool→Option β)(_:Lk k):Option β:=o.bind k
def SI(b:Bool):Option Bool:=some b
def asB:AV→Option Bool
 |.b x=>SI x
 |_=>none
def oE(lo hi:Nat)(f:Fr):Fr:=λt=>cond (Nat.ble lo t&&Nat.blt t hi) .u (f t)
abbrev KT(β:Type):=XE→Fr→KS→Option β
def dZ(k:Fr→KS→Option β)(Q:KT β):KT β
 |.normal,f,K=>k f K
 |e,f,K=>Q e f K
def nY(id:Nat)(Q:KT β):KT β
 |.exit id',f,K=>cond (id'==id) (Q .normal f K) (Q (.exit id') f K)
 |e,f,K=>Q e f K
def WB(P:Program)(D:Orc)(a:Ann)(id:Nat)(ops:Array Oper)(l:List Oper)(Q:KT β)(f:Fr)(K:KS)(_:Lk (l,Q,f)):Option β :=
 match lk a.jn id with
 |none=>Gg P D ops l f K (λf K=>Q .normal f K) ()
 |some (s,lo,hi)=>ag (Gg P D ops l f K (λf _=>asB (f s)) ()) (λc=>Q .normal (up (oE lo hi f) s (.b c)) K) ()
def fH(ops:Array Oper):Option (List Nat)→List Oper
 |none=>ops.toList
 |some is=>is.filterMap (ops[·]?)
def GQ(P:Program)(D:Orc)(ops:Array Oper):(t:OT)→(f:Fr)→(K:KS)→(k:Fr→KS→Option β)→(_:Lk (f,k))→Option β
 |.done,f,K,k,_=>k f K
 |.one i t,f,K,k,_=>match ops[i]? with
  |some o=>Gg P D ops [o] f K (λf K=>GQ P D ops t f K k ()) ()
  |none=>none
 |.alt a b,f,K,k,_=>oeq (GQ P D ops a f K k ()) (GQ P D ops b f K k ())
def Lu(P:Program)(D:Orc)(a:Ann)(id:Nat)(ops:Array Oper)(t:Option OT)(Q:KT β)(f:Fr)(K:KS)(_:Lk (ops,Q,f)):Option β :=
 match t with
 |some t=>GQ P D ops t f K (λf K=>Q .normal f K) ()
 |none=>WB P D a id ops (fH ops (lk a.ord id)) Q f K ()
def d5(P:Program)(D:Orc)(a:Ann)(id:Nat)(c:Option Nat)(ops:Array Oper)(l:List Oper)(Q:KT β)(f:Fr)(K:KS)(_:Lk (l,Q,f)):Option β :=
 match c with
 |none=>WB P D a id ops l Q f K ()
 |some _=>Kv P D ops l f K (λf K=>Q .normal f K) ()
def eJ(P:Program)(D:Orc)(a:Ann)(id:Nat)(ds:Option (List Nat))(ops:Array Oper)(Q:KT β)(f:Fr)(K:KS)(_:Lk (ops,Q,f)):Option β :=
 match ds with
 |none=>Lu P D a id ops (lk a.ot id) Q f K ()
 |some ds=>Lu P D a id (ops.map (J9 ds)) (lk a.ot id) Q f K ()
def dg(P:Program)(D:Orc)(a:Ann)(id:Nat)(us:Option (List Nat))(ops:Array Oper)(l:List Oper)(Q:KT β)(f:Fr)(K:KS)(_:Lk (l,Q,f)):Option β :=
 match us with
 |none=>d5 P D a id (lk a.ac id) ops l Q f K ()
 |some us=>M9 P D ops us l f K (λf K=>Q .normal f K) ()
def EU(vs:List Nat)(P:Program)(D:Orc)(ops:Array Oper):(t:OT)→(f:Fr)→(K:KS)→(k:Fr→KS→Option β)→(_:Lk (f,k))→Option β
 |.done,f,K,k,_=>k f K
 |.one i t,f,K,k,_=>match ops[i]? with
  |some o=>BX vs P D ops [o] f K (λf K=>EU vs P D ops t f K k ()) ()
  |none=>none
 |.alt a b,f,K,k,_=>oeq (EU vs P D ops a f K k ()) (EU vs P D ops b f K k ())
def kx(vs:List Nat)(P:Program)(D:Orc)(ops:Array Oper)(o:Option (List Nat))(Q:KT β)(f:Fr)(K:KS)(_:Lk (ops,Q,f)):Option β:=BX vs P D ops (fH ops o) f K (λf K=>Q .normal f K) ()
def gl(vs:List Nat)(P:Program)(D:Orc)(a:Ann)(id:Nat)(t:Option OT)(ops:Array Oper)(Q:KT β)(f:Fr)(K:KS)(_:Lk (ops,Q,f)):Option β :=
 match t with
 |some t=>EU vs P D ops t f K (λf K=>Q .normal f K) ()
 |none=>kx vs P D ops (lk a.ord id) Q f K ()
def O2(P:Program)(D:Orc)(a:Ann)(id:Nat)(vs:Option (List Nat))(ops:Array Oper)(Q:KT β)(f:Fr)(K:KS)(_:Lk (ops,Q,f)):Option β :=
 match vs with
 |none=>dg P D a id (lk a.an id) ops ops.toList Q f K ()
 |some vs=>BX vs P D ops ops.toList f K (λf K=>Q .normal f K) ()
def Py(P:Program)(D:Orc)(a:Ann)(id:Nat)(vs:Option (List Nat))(ops:Array Oper)(Q:KT β)(f:Fr)(K:KS)(_:Lk (ops,Q,f)):Option β :=
 match vs with
 |none=>eJ P D a id (lk a.eb id) ops Q f K ()
 |some vs=>gl vs P D a id (lk a.ot id) ops Q f K ()
def uQ(s j:Nat)(e:Option Ent)(f:Fr)(K:KS)(k:Fr→KS→Option β)(_:Lk k):Option β :=
 match e with
 |some (.lst m rows)=>k (up f s (.imm m (QH rows))) (K.set j none)
 |_=>none
def xR(s:Nat)(v:AV)(f:Fr)(K:KS)(k:Fr→KS→Option β)(_:Lk k):Option β :=
 match v with
 |.sl j=>uQ s j (kg K j) f K k ()
 |_=>none
def bU:List Nat→Fr→KS→(k:Fr→KS→Option β)→(_:Lk k)→Option β
 |[],f,K,k,_=>k f K
 |s::ss,f,K,k,_=>xR s (f s) f K (λf K=>bU ss f K k ()) ()
def wu(o jb j:Nat)(cs:List AV)(e:Option Ent)(K:KS)(k:KS→Option β)(_:Lk k):Option β :=
 match e with
 |some (.lst m rows)=>k ((K.set j none).set jb (some (.box (cs.set o (.imm m (QH rows))))))
 |_=>none
def wV(o jb:Nat)(cs ds:List AV)(K:KS)(k:KS→Option β)(_:Lk k):Option β :=
 match ds with
 |.sl j::_=>wu o jb j cs (kg K j) K k ()
 |_=>none
def xq(o jb:Nat)(e:Option Ent)(K:KS)(k:KS→Option β)(_:Lk k):Option β :=
 match e with
 |some (.box cs)=>wV o jb cs (cs.drop o) K k ()
 |_=>none
def vd(o:Nat)(v:AV)(K:KS)(k:KS→Option β)(_:Lk k):Option β :=
 match v with
 |.ptr jb _ _=>xq o jb (kg K jb) K k ()
 |_=>none
def bJ:List (Nat×Nat)→Fr→KS→(k:Fr→KS→Option β)→(_:Lk k)→Option β
 |[],f,K,k,_=>k f K
 |(s,o)::l,f,K,k,_=>vd o (f s) K (λK=>bJ l f K k ()) ()
def ofz(o:Option (List Nat))(c:Option (List (Nat×Nat)))(f:Fr)(K:KS)(k:Fr→KS→Option β)(_:Lk k):Option β :=
 match o,c with
 |none,none=>k f K
 |none,some cs=>bJ cs f K k ()
 |some ss,none=>bU ss f K k ()
 |some ss,some cs=>bU ss f K (λf K=>bJ cs f K k ()) ()
def Xx(P:Program)(D:Orc)(a:Ann):(c:Code)→(Q:KT β)→(f:Fr)→KS→(_:Lk (c,Q,f))→Option β
 |.skip,Q,f,K,_=>Q .normal f K
 |.ret,Q,f,K,_=>Q .ret f K
 |.exit id,Q,f,K,_=>Q (.exit id) f K
 |.seq x y,Q,f,K,_=>Xx P D a x (dZ (λf K=>Xx P D a y Q f K ()) Q) f K ()
 |.cond c x y,Q,f,K,_=>match ev f c with
  |.b b=>cond b (Xx P D a x Q f K ()) (Xx P D a y Q f K ())
  |_=>none
 |.block id c,Q,f,K,_=>Xx P D a c (nY id Q) f K ()
 |.loop c,Q,f,K,_=>match lk a.lp (tag c)with
  |some la=>Hy a.ak la.sl la.rg f K (λf K=>ZE (D.l (tag c) f K) (λo=>Q o.1 o.2.1 o.2.2) ()) ()
  |none=>none
 |.region id ops false,Q,f,K,_=>ofz (lk a.fz id) (lk a.fc id) f K (λf K=>O2 P D a id (lk a.av id) ops Q f K ()) ()
 |.region id ops true,Q,f,K,_=>ofz (lk a.fz id) (lk a.fc id) f K (λf K=>Py P D a id (lk a.av id) ops Q f K ()) ()
 |_,_,_,_,_=>none
end
abbrev ST:=Fr×KS
def Ls(z:List Nat)(la rt:LA):KT (ST⊕(XE×ST))
 |.normal,f,K=>Hy z la.sl la.rg f K (λf K=>some (.inl (f,K))) ()
 |.ret,f,K=>Hy z rt.sl rt.rg f K (λf K=>some (.inr (.ret,f,K))) ()
 |.exit i,f,K=>Hy z la.xs la.xr f K (λf K=>some (.inr (.exit i,f,K))) ()
def Fy(f:Fr)(K:KS)(P:Program):List ResultVar→Option (List AV)
 |[]=>some []
 |.tmp t::rs=>(Fy f K P rs).map (f t::·)
 |.cell a t::rs=>(KF (tk P t) (Zv K (f a)) some ()).bind λv=>(Fy f K P rs).map (v::·)
def I3:List AV→AV
 |[v]=>v
 |vs=>.tup vs
def aG:Sh→AV→AV
 |.z k,v=>nzc k v
 |.a ns,.agg cs=>.agg (nz ns cs)
 |_,v=>v
def gu:List Sh→List AV→List AV
 |s::ss,v::vs=>aG s v::gu ss vs
 |_,vs=>vs
def Ye:List Sh→AV→AV
 |[s],v=>aG s v
 |s::ss,.tup vs=>.tup (gu (s::ss) vs)
 |_,v=>v
def fgt:List Sh→List ResultVar→Bool
 |[],_=>false
 |_::_,[]=>true
 |_::s,_::r=>fgt s r
def Nu(P:Program)(sh:List Sh)(rs:List ResultVar):KT AV
 |.exit _,_,_=>none
 |_,f,K=>ZE (Fy f K P rs) (λvs=>(D0 (fgt sh rs) K (I3 vs)).map λp=>Ye sh p.2) ()
def tkl:List Nat→KS→KS
 |_::l,e::K=>e::tkl l K
 |_,_=>[]
def th(P:Program)(m:Nat)(rs:List ResultVar)(f:Fr)(K K':KS):Option (AV×KS):=ZE (Fy f K P rs) (λvs=>VI (rok K'.length (I3 vs)&&(Nj K'&&Nat.ble m K'.length)) (some (I3 vs,K')) ()) ()
def Wg(P:Program)(z:List Nat)(S:Nat)(rs:List ResultVar)(nr:Option (List Pt))(f:Fr)(K:KS)(_:Lk f):Option (AV×KS) :=
 match nr with
 |none=>th P z.length rs f K (tkl z K)
 |some rg=>ZE (Fy f K P rs) (λvs=>Hy z [S] rg (up f S (I3 vs)) K (λf K=>VI (rok K.length (f S)&&(Nj K&&Nat.ble z.length K.length)) (some (f S,K)) ()) ()) ()
def SF(P:Program)(z:List Nat)(nr:Option (List Pt))(S:Nat)(rs:List ResultVar):KT (AV×KS)
 |.exit _,_,_=>none
 |_,f,K=>Wg P z S rs nr f K ()
def Ann.wr(a:Ann):Bool:=a.nr.isSome||!a.ak.isEmpty
structure Tld where
 P:Program
 ann:List (Nat×Ann)
 xt:Nat→List AV→Option AV:=λ_ _=>none
 st:Nat→Bool:=λ_=>false
 qt:Nat→Bool:=λ_=>false
 pz:List (Nat×List Sh):=[]
 vt:Nat→Bool:=λ_=>false
 mt:Nat→KS→List AV→Option AV:=λ_ _ _=>none
def Tld.at(T:Tld)(g:FuncId):Option Ann:=lk T.ann g
def Tld.wt(T:Tld)(g:FuncId):Bool:=match T.at g with|some a=>a.wr|none=>false
def body(P:Program)(g:FuncId):Code:=match P.funcs[g]? with|some f=>f.body.getD .skip|none=>.skip
def Te(P:Program)(g:FuncId):List ResultVar:=match P.funcs[g]? with|some f=>f.results.toList|none=>[]
def ntm(P:Program)(g:FuncId):Nat:=match P.funcs[g]? with|some f=>f.ntmps|none=>0
def orc(T:Tld):Nat→FuncId→Orc
 |0,_=>{ p:=λ_ _=>none,l:=λ_ _ _=>none,z:=λg=>(lk T.pz g).getD [] }
 |n+1,h =>
  {p:=λg args=>match T.at g with
    |some a=>cond (Nat.ble args.length (ntm T.P g)) (Xx T.P (orc T n g) a (body T.P g) (Nu T.P a.sh (Te T.P g)) (XC args) [] ()) none
    |none=>T.xt g args
   l:=λt f K=>match T.at h with
    |some a=>match Vj t (body T.P h),lk a.lp t with
     |some c,some la=>run (λs=>Xx T.P (orc T n h) a c (Ls a.ak la a.rt) s.1 s.2 ()) (f,K)
     |_,_=>none
    |none=>none
   s:=T.st
   q:=T.qt
   w:=T.wt
   a:=λg K args=>match T.at g with
    |some a=>cond (a.wr&&(Nat.beq K.length a.ak.length&&Nat.ble args.length (ntm T.P g))) (Xx T.P (orc T n g) a (body T.P g) (SF T.P a.ak a.nr (ntm T.P g) (Te T.P g)) (XC args) K ()) none
    |none=>none
   z:=λg=>(lk T.pz g).getD []
   v:=T.vt
   m:=λg K args=>match T.at g with
    |some a=>cond (Nat.ble args.length (ntm T.P g)) (Xx T.P (orc T n g) a (body T.P g) (Nu T.P a.sh (Te T.P g)) (XC args) K ()) none
    |none=>T.mt g K args }
def CP(T:Tld)(n:Nat)(g:FuncId)(args:List AV):Option AV:=(orc T n 0).p g args
def CA(T:Tld)(n:Nat)(g:FuncId)(K:KS)(args:List AV):Option (AV×KS):=(orc T n 0).a g K args
def CM(T:Tld)(n:Nat)(g:FuncId)(K:KS)(args:List AV):Option AV:=(orc T n 0).m g K args
def LP(T:Tld)(n:Nat)(h:FuncId)(t:Nat)(f:Fr)(K:KS):Option (XE×Fr×KS):=(orc T n h).l t f K
end Go.Proofs.YtoilkmgiofimjaaGreatDoor.Am
