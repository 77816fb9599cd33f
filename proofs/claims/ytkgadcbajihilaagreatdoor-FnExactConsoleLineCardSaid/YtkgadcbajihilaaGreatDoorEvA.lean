import Derived.Test.YtkgadcbajihilaaGreatDoorAmD
set_option linter.unusedVariables false
set_option linter.unusedSimpArgs false
noncomputable section
namespace Go.Proofs.YtkgadcbajihilaaGreatDoor.Am
open Go
section
variable{β:Type}
def UB(v:AV)(k:AV→Option β)(_:Lk k):Option β:=k v
def Jp(K:KS)(k:KS→Option β)(_:Lk k):Option β:=k K
def Ad{α:Type}(o:Option α)(k:α→Option β)(_:Lk k):Option β:=o.bind k
def Qd6(te:Option (List CK))(xs ys:List AV)(k:Bool→Option β)(_:Lk k):Option β :=
 match te with
 |some ks=>match VS ks xs ys with|some b=>k b|none=>none
 |none=>none
def Pr(t:TI)(x:AV)(lo hi:Option AV)(k:AV→Option β)(_:Lk k):Option β :=
 match t,x with
 |.sl _ m,.imm n rows=>if m=n then match bd 0 lo,bd rows.length hi with
   |some l,some h=>V9 (Ff l h rows.length) (k (.imm n (cut rows l h))) ()
   |_,_=>none
  else none
 |.str,.s x=>match bd 0 lo,bd x.length hi with
   |some l,some h=>V9 (Ff l h x.length) (k (.s (cut x l h))) ()
   |_,_=>none
 |_,_=>none
def xS(t:TI)(x i:AV)(k:AV→Option β)(_:Lk k):Option β :=
 match t,x,i with
 |.str,.s x,.i _ i=>V9 (Q1 x i) (k (.i .u8 ((gt x i).toNat:Int))) ()
 |_,_,_=>none
def Bb(te:Option (List CK))(op:BinOp)(x y:AV)(k:AV→Option β)(_:Lk k):Option β :=
 match x,y with
 |.agg xs,.agg ys=>match op with
  |.eql=>Qd6 te xs ys (λb=>k (.b b)) ()
  |.neq=>Qd6 te xs ys (λb=>k (.b (!b))) ()
  |_=>none
 |.b a,.b b=>match te,op with
  |some [.t],.eql=>k (.b (decide (a=b)))
  |some [.t],.neq=>k (.b (!decide (a=b)))
  |_,_=>none
 |.i c a,.i d b=>if Nd op=true then V9 (decide (0≤b)) (k (.i c (shI op c a b))) ()else if c=d then match op with
  |.add=>k (.i c (c.wrap (a+b)))|.sub=>k (.i c (c.wrap (a-b)))|.mul=>k (.i c (c.wrap (a*b)))
  |.and=>k (.i c (em .and c a b))|.or=>k (.i c (em .or c a b))|.xor=>k (.i c (em .xor c a b))
  |.quo=>V9 (!decide (b=0)) (k (.i c (c.wrap (a.tdiv b)))) ()|.rem=>V9 (!decide (b=0)) (k (.i c (a.tmod b))) ()
  |.eql=>k (.b (decide (a=b)))|.neq=>k (.b (!decide (a=b)))|.lss=>k (.b (decide (a<b)))|.leq=>k (.b (decide (a≤b)))
  |.gtr=>k (.b (decide (b<a)))|.geq=>k (.b (decide (b≤a)))
  |_=>none
  else none
 |.s a,.s b=>match op with
  |.add=>V9 (decide (a.length+b.length≤9223372036854775807)) (k (.s (a++b))) ()|.eql=>k (.b (decide (a=b)))|.neq=>k (.b (!decide (a=b)))
  |_=>none
 |_,_=>none
open Classical in
def tt(a b:Option β):Option β:=if a=b then a else none
def Yj(b:Bool)(x y:Option β):Option β:=cond b (tt x y) y
def Uz(op:BinOp)(x:AV)(k:AV→Option β)(_:Lk k):Option β :=
 match op,x with
 |.eql,.imm _ rows=>Yj rows.isEmpty (k (.b true)) (k (.b false))
 |.neq,.imm _ rows=>Yj rows.isEmpty (k (.b false)) (k (.b true))
 |_,_=>none
def qw(e:Option QE)(x:AV)(k:AV→Option β)(_:Lk k):Option β :=
 match e with
 |some _=>k x
 |none=>none
def yo(K:KS)(x:AV)(k:AV→Option β)(_:Lk k):Option β :=
 match x with
 |.ptr j i o=>qw (kg K j) (.ptr j i o) k ()
 |.iptr n r i o=>k (.iptr n r i o)
 |_=>none
def oun(op:UnOp)(x:AV)(k:AV→Option β)(_:Lk k):Option β :=
 match op,x with
 |.not,.b x=>k (.b (!x))
 |.neg,.i c a=>k (.i c (c.wrap (-a)))
 |_,_=>none
def bQ(c x y:AV)(k:AV→Option β)(_:Lk k):Option β :=
 match c with
 |.b c=>cond c (k x) (k y)
 |_=>none
def jB(K:KS)(t:TI)(x:AV)(k:AV→Option β)(_:Lk k):Option β :=
 match t,x with
 |.sl _ _,.nil=>k (.i .i64 0)
 |.sl _ _,.imm _ rows=>k (.i .i64 rows.length)
 |.sl _ _,.sl j=>match kg K j with|some e=>k (.i .i64 e.rows.length)|none=>none
 |.str,.s x=>k (.i .i64 x.length)
 |.arr n _ _,_=>k (.i .i64 n)
 |_,_=>none
def tU(K:KS)(x:AV)(o:Option (Nat×TK))(k:AV→Option β)(_:Lk k):Option β :=
 match x,o with
 |.ptr j i p,some (o,_)=>match kg K j with|some _=>k (.ptr j i (p+o))|none=>none
 |.iptr n rows i p,some (o,_)=>k (.iptr n rows i (p+o))
 |_,_=>none
def kU(K:KS)(t:TI)(x i:AV)(k:AV→Option β)(_:Lk k):Option β :=
 match t,x,i with
 |.sl _ m,.imm n rows,.i _ i=>if m=n then V9 (Q1 rows i) (k (.iptr n rows i.toNat 0)) ()else none
 |.sl _ m,.sl j,.i _ i=>match kg K j with
  |some e=>if m=e.n then V9 (Q1 e.rows i) (k (.ptr j i.toNat 0)) ()else none
  |none=>none
 |.arr len _ m,.ptr j r o,.i _ i=>match kg K j with
  |some e=>V9 (gB len i) (k (.ptr j r (o+i.toNat*m))) ()
  |none=>none
 |_,_,_=>none
def MG(t:TK)(cs:List AV)(k:AV→Option β)(_:Lk k):Option β :=
 match t with
 |.one=>match cs with|c::_=>k c|[]=>none
 |.agg m=>if 0<m∧m≤cs.length then k (.agg (cs.take m))else none
 |.bad=>none
def wz(o:Option (Nat×TK))(x:AV)(k:AV→Option β)(_:Lk k):Option β :=
 match o,x with
 |some (o,t),.agg cs=>MG t (cs.drop o) k ()
 |_,_=>none
def Pp(cs:List AV)(o:Nat)(t:TK)(v:AV)(ok:AV→Bool)(k:List AV→Option β)(_:Lk k):Option β :=
 match t,v with
 |.agg m,.agg ds=>if m=ds.length∧o+m≤cs.length∧ds.all ok=true then k (putCells cs o ds)else none
 |.one,v=>if o<cs.length∧ok v=true then k (cs.set o v)else none
 |_,_=>none
def Ui(K:KS)(t:TK)(p v:AV)(k:KS→Option β)(_:Lk k):Option β :=
 match p with
 |.ptr j i o=>match kg K j with
  |some (.box cs)=>if i=0 then Pp cs o t v (B3 K) (λcs=>Jp (K.set j (some (.box cs))) k ()) ()else none
  |some (.lst n rows)=>if i<rows.length then Pp (VI rows i) o t v AV.closed (λr=>Jp (K.set j (some (.lst n (rows.set i r)))) k ()) ()else none
  |none=>none
 |_=>none
def TY(ns:List Nat)(K:KS)(t:TK)(j i o n:Nat)(rows:List (List AV))(v:AV)(k:KS→Option β)(_:Lk k):Option β :=
 if i<rows.length then match Xv K (Du v)with
  |some (K1,ds)=>if(kg K1 j).isSome=true∧ir t v ds.length=true∧o+ds.length≤(VI rows i).length then Jp (K1.set j (some (.lst n (rows.set i (putCells (VI rows i) o (nz ns ds)))))) k ()else none
  |none=>none
 else none
def Su(fl:Bool)(ns:List Nat)(K:KS)(t:TK)(p v:AV)(k:KS→Option β)(_:Lk k):Option β :=
 match p with
 |.ptr j i o=>match kg K j with
  |some (.lst n rows)=>if(Du v).all ud=true then Ui K t p v k ()else if fl=false then TY ns K t j i o n rows v k ()else none
  |_=>Ui K t p v k ()
 |_=>none
def nB(K:KS)(v:AV)(k:AV→KS→Option β)(_:Lk k):Option β :=
 match v with
 |.agg cs=>if cs.all (B3 K)=true then Jp (K++[some (.box cs)]) (λK'=>k (.ptr K.length 0 0) K') ()else none
 |v=>if B3 K v=true then Jp (K++[some (.box [v])]) (λK'=>k (.ptr K.length 0 0) K') ()else none
def aC(K:KS)(z:Option (List AV))(k:AV→KS→Option β)(_:Lk k):Option β :=
 match z with
 |some cs=>Jp (K++[some (.box cs)]) (λK'=>k (.ptr K.length 0 0) K') ()
 |none=>none
def Ur(K:KS)(t:TB)(parts:List (Nat×AV))(k:AV→Option β)(_:Lk k):Option β :=
 match t with
 |.st z p=>match EB K (p[·]?) z parts with|some cs=>k (.agg cs)|none=>none
 |.arr z m=>match EB K (λi=>some (i*m,m)) z parts with|some cs=>k (.agg cs)|none=>none
 |.bad=>none
def yB:Bool→List AV→Bool
 |false,_=>true
 |true,cs=>iv cs
def OF(fl:Bool)(ns:List Nat)(K:KS)(t:Option (TypeId×Nat×List AV))(len:Nat)(parts:List (Nat×AV))(k:AV→KS→Option β)(_:Lk k):Option β :=
 match t with
 |some (_,m,z)=>if len=0 then(match parts with|[]=>Jp (K++[some (.lst m [])]) (λK'=>k (.sl K.length) K') ()|_=>none)
  else if len*m≤16777216 then match EB K (λi=>some (i*m,m)) (Iz len z) parts with
  |some cs=>cond (yB fl cs) (match Xv K cs with
   |some (K1,cs)=>Jp (K1++[some (.lst m ((Fv m len cs).map (nz ns)))]) (λK'=>k (.sl K.length) K') ()
   |none=>none) none
  |none=>none
  else none
 |none=>none
def u0(v:AV)(i:Nat)(k:AV→Option β)(_:Lk k):Option β :=
 match v with
 |.tup cs=>match cs[i]? with|some c=>k c|none=>none
 |_=>none
def YV(K:KS)(t:Option (TypeId×Nat×List AV))(bytes:Option Nat)(s x:AV)(k:AV→KS→Option β)(_:Lk k):Option β :=
 match t,bytes with
 |some (_,m,_),some (b+1)=>match Hw K m x with
  |some (rows',K1)=>match s with
   |.sl j=>match kg K1 j with
    |some (.lst n rows)=>if n=m then V9 (decide ((rows.length+rows'.length)*(b+1)≤140737488355328)) (Jp (K1.set j none++[some (.lst m (rows++rows'))]) (λK'=>k (.sl K.length) K') ()) ()else none
    |_=>none
   |.nil=>V9 (decide (rows'.length*(b+1)≤140737488355328)) (Jp (K1++[some (.lst m rows')]) (λK'=>k (.sl K.length) K') ()) ()
   |_=>none
  |none=>none
 |_,_=>none
def zo(x y:AV)(k:AV→Option β)(_:Lk k):Option β :=
 match x,y with
 |.i c a,.i _ b=>k (.i c (if b<a then b else a))
 |_,_=>none
def xy(x y:AV)(k:AV→Option β)(_:Lk k):Option β :=
 match x,y with
 |.i c a,.i _ b=>k (.i c (if a<b then b else a))
 |_,_=>none
def ls(t:TI)(x:AV)(k:AV→Option β)(_:Lk k):Option β :=
 match t,x with
 |.int c,.i _ a=>k (.i c (c.wrap a))
 |_,_=>none
def jT(K:KS)(t:TI)(x:AV)(k:AV→Option β)(_:Lk k):Option β :=
 match t,x with
 |.str,.sl j=>match kg K j with
  |some (.lst 1 rows)=>match GN rows with|some s=>k (.s s)|none=>none
  |_=>none
 |_,_=>none
def nX(v:AV)(k:FuncId→List AV→Option β)(_:Lk k):Option β :=
 match v with
 |.clo g caps=>k g caps
 |_=>none
def pG(ns:List Nat)(K:KS)(t:Option (TypeId×Nat×List AV))(bytes:Option Nat)(l c:AV)(k:AV→KS→Option β)(_:Lk k):Option β :=
 match t,bytes,l,c with
 |some (_,m,z),some (b+1),.i .i64 l,.i .i64 c =>
  V9 (decide (l=c)) (V9 (sO l (b+1)) (Jp (K++[some (.lst m (List.replicate l.toNat (nz ns z)))]) (λK'=>k (.sl K.length) K') ()) ()) ()
 |_,_,_,_=>none
structure Orc where
 p:FuncId→List AV→Option AV
 l:Nat→Fr→KS→Option (XE×Fr×KS)
 s:FuncId→Bool:=λ_=>false
 q:FuncId→Bool:=λ_=>false
 w:FuncId→Bool:=λ_=>false
 a:FuncId→KS→List AV→Option (AV×KS):=λ_ _ _=>none
 z:FuncId→List Sh:=λ_=>[]
 v:FuncId→Bool:=λ_=>false
 m:FuncId→KS→List AV→Option AV:=λ_ _ _=>none
def cI(x:Int):List AV:=[.i .i64 x]
def Hr:List (List AV)→Option (List Int)
 |[]=>some []
 |[.i .i64 x]::r=>(Hr r).map (x::·)
 |_=>none
def eK(K:KS)(vs:List AV)(k:AV→KS→Option β)(_:Lk k):Option β :=
 match vs with
 |[.sl j]=>match kg K j with
  |some (.lst 1 rows)=>match Hr rows with
   |some xs=>V9 (decide (xs.length<4611686018427387904)) (Jp (K.set j (some (.lst 1 ((Al xs).map cI)))) (λK=>k (.tup []) K) ()) ()
   |none=>none
  |_=>none
 |_=>none
def MO(D:Orc)(g:FuncId)(K:KS)(vs:List AV)(k:AV→KS→Option β)(_:Lk k):Option β :=
 Ad (D.p g (dA (D.z g) (If K vs))) (λx=>k (XH K.length x).1 (K++(XH K.length x).2)) ()
def ER(P:Program)(D:Orc)(o:Op)(f:Fr)(K:KS)(k:AV→KS→Option β)(_:Lk (o,f,k)):Option β :=
 match o with
 |.move x|.assign x=>k (ev f x) K
 |.pick c x y=>bQ (ev f c) (ev f x) (ev f y) (λv=>k v K) ()
 |.alloc t=>aC K (WA P t) k ()
 |.box _ v=>nB K (ev f v) k ()
 |.build t ps=>Ur K (YN P t) (ps.toList.map λp=>(p.1,ev f p.2)) (λv=>k v K) ()
 |.buildSlice t len ps=>OF (zB (IY P t)) (IY P t) K (LQ P t) len (ps.toList.map λp=>(p.1,ev f p.2)) k ()
 |.load t x=>MG (tk P t) (Z7 K (ev f x)) (λv=>k v K) ()
 |.store t p v=>Su (flT P t) (slz P 9 t) K (tk P t) (ev f p) (ev f v) (λK=>k .u K) ()
 |.binOp op t x y _=>if Gn y=true then(if K5 P t=true then Uz op (ev f x) (λv=>k v K) ()else none)else Bb (Yt P t) op (ev f x) (ev f y) (λv=>k v K) ()
 |.unOp op _ x=>oun op (ev f x) (λv=>k v K) ()
 |.convert s t x=>if bsl P s=true then jT K (ti P t) (ev f x) (λv=>k v K) ()else if tok P s=true then ls (ti P t) (ev f x) (λv=>k v K) ()else none
 |.makeFunc (.func g) first caps=>if first.size=0 then k (.clo g (caps.toList.map (ev f))) K else none
 |.fieldAddr t x i=>tU K (ev f x) (Zb P t i) (λv=>k v K) ()
 |.indexAddr t x i=>kU K (ti P t) (ev f x) (ev f i) (λv=>k v K) ()
 |.extract x i=>u0 (ev f x) i (λv=>k v K) ()
 |.call { callee:=.builtin .len,args,argTypes }=>match args.toList,argTypes.toList with
  |[x],t::_=>jB K (ti P t) (ev f x) (λv=>k v K) ()
  |_,_=>none
 |.call { callee:=.builtin .append,args,argTypes }=>match args.toList,argTypes.toList with
  |[s,x],t::tx::_=>if E4 P tx=true∧(Gn s&&LN (ev f x))=false then YV K (LQ P t) ((LQ P t).bind λq=>tb P q.1) (ev f s) (ev f x) k ()else none
  |_,_=>none
 |.call { callee:=.builtin .min,args,.. }=>match args.toList with
  |[x,y]=>zo (ev f x) (ev f y) (λv=>k v K) ()
  |_=>none
 |.call { callee:=.builtin .max,args,.. }=>match args.toList with
  |[x,y]=>xy (ev f x) (ev f y) (λv=>k v K) ()
  |_=>none
 |.call { callee:=.value x,args,.. }=>nX (ev f x) (λg caps=>MO D g K (args.toList.map (ev f)++caps) k ()) ()
 |.makeSlice t l c=>pG (IY P t) K (LQ P t) ((LQ P t).bind λq=>tb P q.1) (ev f l) (ev f c) k ()
 |.slice t x lo hi none=>Pr (ti P t) (ev f x) (lo.map (ev f)) (hi.map (ev f)) (λv=>k v K) ()
 |.index t x i=>xS (ti P t) (ev f x) (ev f i) (λv=>k v K) ()
 |.nilCheck x=>yo K (ev f x) (λv=>k v K) ()
 |.field t x i=>wz (Zb P t i) (ev f x) (λv=>k v K) ()
 |_=>none
def ogd(s:Option Tmp)(want:Bool)(f:Fr)(yes no:Fr→Option β)(_:Lk (f,yes,no)):Option β :=
 match s with
 |some d=>match f d with
  |.b x=>cond x (if want=true then yes (up f d (.b true))else no (up f d (.b true))) (if want=true then no (up f d (.b false))else yes (up f d (.b false)))
  |.tup []=>no f
  |_=>none
 |none=>none
def L0(d:Option Tmp)(v:AV)(f:Fr)(k:Fr→Option β)(_:Lk (f,k)):Option β :=
 match d with
 |some d=>UB v (λv=>k (up f d v)) ()
 |none=>k f
def Im(P:Program)(D:Orc)(ops:Array Oper):(l:List Oper)→(f:Fr)→(K:KS)→(k:Fr→KS→Option β)→(_:Lk (l,f,k))→Option β
 |[],f,K,k,_=>k f K
 |o::r,f,K,k,_=>match o.guard with
  |none=>ER P D o.op f K (λv K'=>L0 o.dst v f (λf=>Im P D ops r f K' k ()) ()) ()
  |some (j,want)=>ogd ((ops[j]?).bind (·.dst)) want f (λf=>ER P D o.op f K (λv K'=>L0 o.dst v f (λf=>Im P D ops r f K' k ()) ()) ()) (λf=>L0 o.dst (.tup []) f (λf=>Im P D ops r f K k ()) ()) ()
def cl(K:KS)(vs:List AV)(k:AV→KS→Option β)(_:Lk k):Option β :=
 match vs with
 |[.sl j]=>match kg K j with
  |some (.lst 1 rows)=>match Hr rows with
   |some xs=>V9 (decide (xs.length<4611686018427387904)) (Jp (K.set j none++[some (.lst 1 ((Zz xs).map cI))]) (λK'=>k (.sl K.length) K') ()) ()
   |none=>none
  |_=>none
 |_=>none
def tC:List Nat→Bool
 |[]=>true
 |x::l=>!l.contains x&&tC l
def mM:KS→Bool
 |[]=>true
 |some (.lst _ _)::l=>mM l
 |_::_=>false
def PU:KS→Bool
 |[]=>true
 |some (.lst _ _)::l=>PU l
 |some (.box cs)::l=>iz cs&&PU l
 |none::_=>false
def Y6(D:Orc)(g:FuncId)(K:KS)(js:List Nat)(cs:Option (List AV))(k:AV→KS→Option β)(_:Lk k):Option β :=
 match cs with
 |some cs=>V9 (PU (Z4 K js)) (Ad (D.a g (Z4 K js) cs) (λr=>k (Ft js K.length r.1) (I2 K js r.2)) ()) ()
 |none=>none
def YP(D:Orc)(g:FuncId)(K:KS)(js:List Nat)(vs:List AV)(k:AV→KS→Option β)(_:Lk (vs,k)):Option β :=
 V9 (tC js) (Y6 D g K js (Hb js vs) k ()) ()
def Uv(D:Orc)(g:FuncId)(K:KS)(vs:List AV)(k:AV→KS→Option β)(_:Lk k):Option β:=YP D g K (K6 vs) vs k ()
def YS(D:Orc)(g:FuncId)(K:KS)(js:List Nat)(cs:Option (List AV))(k:AV→KS→Option β)(_:Lk k):Option β :=
 match cs with
 |some cs=>V9 (mM (Z4 K js)) (Ad (D.m g (Z4 K js) cs) (λx=>k (XH K.length x).1 (Bz K js (Eg js)++(XH K.length x).2)) ()) ()
 |none=>none
def YL(D:Orc)(g:FuncId)(K:KS)(js:List Nat)(vs:List AV)(k:AV→KS→Option β)(_:Lk (vs,k)):Option β :=
 V9 (tC js) (YS D g K js (Hb js vs) k ()) ()
def PV(D:Orc)(g:FuncId)(K:KS)(vs:List AV)(k:AV→KS→Option β)(_:Lk k):Option β:=YL D g K (K6 vs) vs k ()
def HQ(P:Program)(D:Orc)(o:Op)(f:Fr)(K:KS)(k:AV→KS→Option β)(_:Lk (o,f,k)):Option β :=
 match o with
 |.call { callee:=.value x,args,.. }=>nX (ev f x) (λg caps=>cond (D.s g) (eK K (args.toList.map (ev f)++caps) k ()) (cond (D.q g) (cl K (args.toList.map (ev f)++caps) k ()) (cond (D.w g) (Uv D g K (args.toList.map (ev f)++caps) k ()) (cond (D.v g) (PV D g K (args.toList.map (ev f)++caps) k ()) (MO D g K (args.toList.map (ev f)++caps) k ()))))) ()
 |o=>ER P D o f K k ()
def MY(P:Program)(D:Orc)(ops:Array Oper):(l:List Oper)→(f:Fr)→(K:KS)→(k:Fr→KS→Option β)→(_:Lk (l,f,k))→Option β
 |[],f,K,k,_=>k f K
 |o::r,f,K,k,_=>match o.guard with
  |none=>HQ P D o.op f K (λv K'=>L0 o.dst v f (λf=>MY P D ops r f K' k ()) ()) ()
  |some _=>none
def YE(vs:List Nat)(P:Program)(D:Orc)(o:Op)(f:Fr)(K:KS)(k:AV→KS→Option β)(_:Lk (o,f,k)):Option β :=
 match o with
 |.call { callee:=.value (.func g),args,argTypes }=>cond (vs.contains g) (HQ P D (.call { callee:=.value (.func g),args,argTypes }) f K k ()) (ER P D (.call { callee:=.value (.func g),args,argTypes }) f K k ())
 |o=>ER P D o f K k ()
def C1(vs:List Nat)(P:Program)(D:Orc)(ops:Array Oper):(l:List Oper)→(f:Fr)→(K:KS)→(k:Fr→KS→Option β)→(_:Lk (l,f,k))→Option β
 |[],f,K,k,_=>k f K
 |o::r,f,K,k,_=>match o.guard with
  |none=>YE vs P D o.op f K (λv K'=>L0 o.dst v f (λf=>C1 vs P D ops r f K' k ()) ()) ()
  |some (j,want)=>ogd ((ops[j]?).bind (·.dst)) want f (λf=>YE vs P D o.op f K (λv K'=>L0 o.dst v f (λf=>C1 vs P D ops r f K' k ()) ()) ()) (λf=>L0 o.dst (.tup []) f (λf=>C1 vs P D ops r f K k ()) ()) ()
def onr(D:Orc)(f:Fr)(K:KS)(j i o q:Nat)(rows:List (List AV))(r:AV×KS)(k:AV→KS→Option β)(_:Lk k):Option β :=
 match r.2 with
 |[some (.lst m rs')]=>V9 (r.1.flat&&Nat.blt i rows.length) (Jp (ff K j i o q m rows rs') (λK'=>k r.1 K') ()) ()
 |_=>none
def onx(D:Orc)(f:Fr)(K:KS)(x:AV)(g:FuncId)(j i o q:Nat)(rows:List (List AV))(cs:List AV)(k:AV→KS→Option β)(_:Lk k):Option β :=
 match cs with
 |.own m rs::_=>V9 x.scal (Ad (D.a g [some (.lst m rs)] [.sl 0,x]) (λr=>onr D f K j i o q rows r k ()) ()) ()
 |_=>none
def onj(D:Orc)(f:Fr)(K:KS)(x:AV)(g:FuncId)(j i o:Nat)(e:Option QE)(k:AV→KS→Option β)(_:Lk k):Option β :=
 match e with
 |some (.lst q rows)=>onx D f K x g j i o q rows ((VI rows i).drop o) k ()
 |_=>none
def onp(D:Orc)(f:Fr)(K:KS)(p x:AV)(g:FuncId)(k:AV→KS→Option β)(_:Lk k):Option β :=
 match p with
 |.ptr j i o=>onj D f K x g j i o (kg K j) k ()
 |_=>none
def xW:TK→Bool
 |.one=>true
 |_=>false
def PA(P:Program)(D:Orc)(ops:Array Oper):(us:List Nat)→(l:List Oper)→(f:Fr)→(K:KS)→(k:Fr→KS→Option β)→(_:Lk (l,f,k))→Option β
 |_::us,o::r,f,K,k,_=>match o.guard with
  |none=>ER P D o.op f K (λv K'=>L0 o.dst v f (λf=>PA P D ops us r f K' k ()) ()) ()
  |some _=>none
 |[],⟨some d,.load t p,_,_,_,none⟩::⟨some e,.move x,_,_,_,none⟩::⟨dst,.call ⟨.value (.func g),args,_⟩,_,_,_,none⟩::r,f,K,k,_=>match args.toList with
  |[.tmp d',.tmp e']=>V9 (xW (tk P t)&&(Nat.beq d d'&&(Nat.beq e e'&&!Nat.beq d e))) (onp D f K (ev f p) (ev (up f d (.sl K.length)) x) g (λv K'=>L0 dst v (up (up f d (.sl K.length)) e (ev (up f d (.sl K.length)) x)) (λf=>MY P D ops r f K' k ()) ()) ()) ()
  |_=>none
 |_,_,_,_,_,_=>none
inductive Pt where
 |r (i:Nat)|s (t n:Nat)|c (q o n:Nat)|g (t o n:Nat)
structure LA where
 sl:List Nat
 rg:List Pt
 xs:List Nat
 xr:List Pt
structure Ann where
 ord:List (Nat×List Nat):=[]
 ot:List (Nat×OT):=[]
 ac:List (Nat×Nat):=[]
 av:List (Nat×List Nat):=[]
 an:List (Nat×List Nat):=[]
 eb:List (Nat×List Nat):=[]
 ak:List Nat:=[]
 jn:List (Nat×(Nat×Nat×Nat)):=[]
 lp:List (Nat×LA):=[]
 rt:LA:=⟨[],[],[],[]⟩
 sh:List Sh:=[]
 fz:List (Nat×List Nat):=[]
 fc:List (Nat×List (Nat×Nat)):=[]
 nr:Option (List Pt):=none
def lk{α:Type}:List (Nat×α)→Nat→Option α
 |[],_=>none
 |(i,x)::l,j=>cond (i==j) (some x) (lk l j)
def mtI(tb:List (Nat×(Nat×Nat)))(g:Nat)(K:KS)(args:List AV):Option AV:=match K,args with
 |[some (.lst n R),some (.lst m V)],[.sl 0,.i .i64 i,.sl 1]=>match lk tb g with
  |some (k,b)=>if n=k∧m=k∧Vd R=true∧Vd V=true then V9 (IK R i V b) (some (.own k (VY R i V))) ()else none
  |none=>none
 |_,_=>none
def XD:(l:List Pt)→(f:Fr)→(K:KS)→(π:List Nat)→(k:Fr→KS→List Nat→Option β)→(_:Lk (f,k))→Option β
 |[],f,K,π,k,_=>k f K π
 |.r i::l,f,K,π,k,_=>XD l f K (π++[i]) k ()
 |.s t n::l,f,K,π,k,_=>match f t with
  |.sl j=>XD l f K (π++[j]) k ()
  |.ptr j _ _=>XD l f K (π++[j]) k ()
  |.nil=>XD l (up f t (.sl K.length)) (K++[some (.lst n [])]) (π++[K.length]) k ()
  |_=>none
 |.c q o n::l,f,K,π,k,_=>match π[q]? with
  |some j=>match kg K j with
   |some (.box cs)=>match cs[o]? with
    |some (.sl i)=>XD l f K (π++[i]) k ()
    |some (.ptr i _ _)=>XD l f K (π++[i]) k ()
    |some .nil=>XD l f ((K++[some (QE.lst n [])]).set j (some (QE.box (cs.set o (.sl K.length))))) (π++[K.length]) k ()
    |_=>none
   |_=>none
  |none=>none
 |.g t o n::l,f,K,π,k,_=>match f t with
  |.agg cs=>match cs[o]? with
   |some (.sl j)=>XD l f K (π++[j]) k ()
   |some .nil=>XD l (up f t (.agg (cs.set o (.sl K.length)))) (K++[some (.lst n [])]) (π++[K.length]) k ()
   |_=>none
  |_=>none
def QbA(K:KS)(π:List Nat):KS:=π.map λj=>(kg K j).map (RB π)
def frl(f:Fr)(π:List Nat):List Nat→List (Nat×AV)
 |[]=>[]
 |t::l=>(t,ren π (f t))::frl f π l
def Qes(f:Fr)(π:List Nat)(l:List Nat):Fr:=Q7 (frl f π l)
def pfx:List Nat→List Nat→Bool
 |[],_=>true
 |x::l,y::m=>Nat.beq x y&&pfx l m
 |_::_,[]=>false
def onz(z π:List Nat)(q:Option β)(_:Lk q):Option β :=
 match z with
 |[]=>q
 |x::l=>V9 (pfx (x::l) π) q ()
def Lg(z:List Nat)(sl:List Nat)(rg:List Pt)(f:Fr)(K:KS)(k:Fr→KS→Option β)(_:Lk (f,k)):Option β :=
 XD rg f K [] (λf K π=>V9 (tC π) (onz z π (Jp (QbA K π) (λK'=>k (Qes f π sl) K') ()) ()) ()) ()
def MR:Code→Nat
 |.region id _ _=>id
 |.seq a _=>MR a
 |.cond _ a _=>MR a
 |.block _ c=>MR c
 |.loop c=>MR c
 |_=>0
def VQ(t:Nat):Code→Option Code
 |.seq a b=>(VQ t a).or (VQ t b)
 |.cond _ a b=>(VQ t a).or (VQ t b)
 |.block _ c=>VQ t c
 |.loop c=>cond (MR c==t) (some c) (VQ t c)
 |_=>none
def fZ(o:Option Bool)(k:Bool→Option β)(_:Lk k):Option β:=o.bind k
def WL(b:Bool):Option Bool:=some b
def asB:AV→Option Bool
 |.b x=>WL x
 |_=>none
def tH(lo hi:Nat)(f:Fr):Fr:=λt=>cond (Nat.ble lo t&&Nat.blt t hi) .u (f t)
abbrev KT(β:Type):=XE→Fr→KS→Option β
def lh(k:Fr→KS→Option β)(Q:KT β):KT β
 |.normal,f,K=>k f K
 |e,f,K=>Q e f K
def sx(id:Nat)(Q:KT β):KT β
 |.exit id',f,K=>cond (id'==id) (Q .normal f K) (Q (.exit id') f K)
 |e,f,K=>Q e f K
def bY(P:Program)(D:Orc)(a:Ann)(id:Nat)(ops:Array Oper)(l:List Oper)(Q:KT β)(f:Fr)(K:KS)(_:Lk (l,Q,f)):Option β :=
 match lk a.jn id with
 |none=>Im P D ops l f K (λf K=>Q .normal f K) ()
 |some (s,lo,hi)=>fZ (Im P D ops l f K (λf _=>asB (f s)) ()) (λc=>Q .normal (up (tH lo hi f) s (.b c)) K) ()
def lc(ops:Array Oper):Option (List Nat)→List Oper
 |none=>ops.toList
 |some is=>is.filterMap (ops[·]?)
def I9(P:Program)(D:Orc)(ops:Array Oper):(t:OT)→(f:Fr)→(K:KS)→(k:Fr→KS→Option β)→(_:Lk (f,k))→Option β
 |.done,f,K,k,_=>k f K
 |.one i t,f,K,k,_=>match ops[i]? with
  |some o=>Im P D ops [o] f K (λf K=>I9 P D ops t f K k ()) ()
  |none=>none
 |.alt a b,f,K,k,_=>tt (I9 P D ops a f K k ()) (I9 P D ops b f K k ())
def NC(P:Program)(D:Orc)(a:Ann)(id:Nat)(ops:Array Oper)(t:Option OT)(Q:KT β)(f:Fr)(K:KS)(_:Lk (ops,Q,f)):Option β :=
 match t with
 |some t=>I9 P D ops t f K (λf K=>Q .normal f K) ()
 |none=>bY P D a id ops (lc ops (lk a.ord id)) Q f K ()
def jE(P:Program)(D:Orc)(a:Ann)(id:Nat)(c:Option Nat)(ops:Array Oper)(l:List Oper)(Q:KT β)(f:Fr)(K:KS)(_:Lk (l,Q,f)):Option β :=
 match c with
 |none=>bY P D a id ops l Q f K ()
 |some _=>MY P D ops l f K (λf K=>Q .normal f K) ()
def jz(P:Program)(D:Orc)(a:Ann)(id:Nat)(ds:Option (List Nat))(ops:Array Oper)(Q:KT β)(f:Fr)(K:KS)(_:Lk (ops,Q,f)):Option β :=
 match ds with
 |none=>NC P D a id ops (lk a.ot id) Q f K ()
 |some ds=>NC P D a id (ops.map (ZA ds)) (lk a.ot id) Q f K ()
def kX(P:Program)(D:Orc)(a:Ann)(id:Nat)(us:Option (List Nat))(ops:Array Oper)(l:List Oper)(Q:KT β)(f:Fr)(K:KS)(_:Lk (l,Q,f)):Option β :=
 match us with
 |none=>jE P D a id (lk a.ac id) ops l Q f K ()
 |some us=>PA P D ops us l f K (λf K=>Q .normal f K) ()
def Gp(vs:List Nat)(P:Program)(D:Orc)(ops:Array Oper):(t:OT)→(f:Fr)→(K:KS)→(k:Fr→KS→Option β)→(_:Lk (f,k))→Option β
 |.done,f,K,k,_=>k f K
 |.one i t,f,K,k,_=>match ops[i]? with
  |some o=>C1 vs P D ops [o] f K (λf K=>Gp vs P D ops t f K k ()) ()
  |none=>none
 |.alt a b,f,K,k,_=>tt (Gp vs P D ops a f K k ()) (Gp vs P D ops b f K k ())
def qI(vs:List Nat)(P:Program)(D:Orc)(ops:Array Oper)(o:Option (List Nat))(Q:KT β)(f:Fr)(K:KS)(_:Lk (ops,Q,f)):Option β:=C1 vs P D ops (lc ops o) f K (λf K=>Q .normal f K) ()
def lK(vs:List Nat)(P:Program)(D:Orc)(a:Ann)(id:Nat)(t:Option OT)(ops:Array Oper)(Q:KT β)(f:Fr)(K:KS)(_:Lk (ops,Q,f)):Option β :=
 match t with
 |some t=>Gp vs P D ops t f K (λf K=>Q .normal f K) ()
 |none=>qI vs P D ops (lk a.ord id) Q f K ()
def S1(P:Program)(D:Orc)(a:Ann)(id:Nat)(vs:Option (List Nat))(ops:Array Oper)(Q:KT β)(f:Fr)(K:KS)(_:Lk (ops,Q,f)):Option β :=
 match vs with
 |none=>kX P D a id (lk a.an id) ops ops.toList Q f K ()
 |some vs=>C1 vs P D ops ops.toList f K (λf K=>Q .normal f K) ()
def SX(P:Program)(D:Orc)(a:Ann)(id:Nat)(vs:Option (List Nat))(ops:Array Oper)(Q:KT β)(f:Fr)(K:KS)(_:Lk (ops,Q,f)):Option β :=
 match vs with
 |none=>jz P D a id (lk a.eb id) ops Q f K ()
 |some vs=>lK vs P D a id (lk a.ot id) ops Q f K ()
def QbY(s j:Nat)(e:Option QE)(f:Fr)(K:KS)(k:Fr→KS→Option β)(_:Lk k):Option β :=
 match e with
 |some (.lst m rows)=>k (up f s (.imm m (Vf rows))) (K.set j none)
 |_=>none
def Qdd(s:Nat)(v:AV)(f:Fr)(K:KS)(k:Fr→KS→Option β)(_:Lk k):Option β :=
 match v with
 |.sl j=>QbY s j (kg K j) f K k ()
 |_=>none
def gN:List Nat→Fr→KS→(k:Fr→KS→Option β)→(_:Lk k)→Option β
 |[],f,K,k,_=>k f K
 |s::ss,f,K,k,_=>Qdd s (f s) f K (λf K=>gN ss f K k ()) ()
def QbE(o jb j:Nat)(cs:List AV)(e:Option QE)(K:KS)(k:KS→Option β)(_:Lk k):Option β :=
 match e with
 |some (.lst m rows)=>k ((K.set j none).set jb (some (.box (cs.set o (.imm m (Vf rows))))))
 |_=>none
def Qd8(o jb:Nat)(cs ds:List AV)(K:KS)(k:KS→Option β)(_:Lk k):Option β :=
 match ds with
 |.sl j::_=>QbE o jb j cs (kg K j) K k ()
 |_=>none
def Qdk(o jb:Nat)(e:Option QE)(K:KS)(k:KS→Option β)(_:Lk k):Option β :=
 match e with
 |some (.box cs)=>Qd8 o jb cs (cs.drop o) K k ()
 |_=>none
def Qbz(o:Nat)(v:AV)(K:KS)(k:KS→Option β)(_:Lk k):Option β :=
 match v with
 |.ptr jb _ _=>Qdk o jb (kg K jb) K k ()
 |_=>none
def iO:List (Nat×Nat)→Fr→KS→(k:Fr→KS→Option β)→(_:Lk k)→Option β
 |[],f,K,k,_=>k f K
 |(s,o)::l,f,K,k,_=>Qbz o (f s) K (λK=>iO l f K k ()) ()
def ofz(o:Option (List Nat))(c:Option (List (Nat×Nat)))(f:Fr)(K:KS)(k:Fr→KS→Option β)(_:Lk k):Option β :=
 match o,c with
 |none,none=>k f K
 |none,some cs=>iO cs f K k ()
 |some ss,none=>gN ss f K k ()
 |some ss,some cs=>gN ss f K (λf K=>iO cs f K k ()) ()
def XY(P:Program)(D:Orc)(a:Ann):(c:Code)→(Q:KT β)→(f:Fr)→KS→(_:Lk (c,Q,f))→Option β
 |.skip,Q,f,K,_=>Q .normal f K
 |.ret,Q,f,K,_=>Q .ret f K
 |.exit id,Q,f,K,_=>Q (.exit id) f K
 |.seq x y,Q,f,K,_=>XY P D a x (lh (λf K=>XY P D a y Q f K ()) Q) f K ()
 |.cond c x y,Q,f,K,_=>match ev f c with
  |.b b=>cond b (XY P D a x Q f K ()) (XY P D a y Q f K ())
  |_=>none
 |.block id c,Q,f,K,_=>XY P D a c (sx id Q) f K ()
 |.loop c,Q,f,K,_=>match lk a.lp (MR c)with
  |some la=>Lg a.ak la.sl la.rg f K (λf K=>Ad (D.l (MR c) f K) (λo=>Q o.1 o.2.1 o.2.2) ()) ()
  |none=>none
 |.region id ops false,Q,f,K,_=>ofz (lk a.fz id) (lk a.fc id) f K (λf K=>S1 P D a id (lk a.av id) ops Q f K ()) ()
 |.region id ops true,Q,f,K,_=>ofz (lk a.fz id) (lk a.fc id) f K (λf K=>SX P D a id (lk a.av id) ops Q f K ()) ()
 |_,_,_,_,_=>none
end
abbrev ST:=Fr×KS
def Ny(z:List Nat)(la rt:LA):KT (ST⊕(XE×ST))
 |.normal,f,K=>Lg z la.sl la.rg f K (λf K=>some (.inl (f,K))) ()
 |.ret,f,K=>Lg z rt.sl rt.rg f K (λf K=>some (.inr (.ret,f,K))) ()
 |.exit i,f,K=>Lg z la.xs la.xr f K (λf K=>some (.inr (.exit i,f,K))) ()
def Hc(f:Fr)(K:KS)(P:Program):List ResultVar→Option (List AV)
 |[]=>some []
 |.tmp t::rs=>(Hc f K P rs).map (f t::·)
 |.cell a t::rs=>(MG (tk P t) (Z7 K (f a)) some ()).bind λv=>(Hc f K P rs).map (v::·)
def Ma:List AV→AV
 |[v]=>v
 |vs=>.tup vs
def gP:Sh→AV→AV
 |.z k,v=>ug k v
 |.a ns,.agg cs=>.agg (nz ns cs)
 |_,v=>v
def kw:List Sh→List AV→List AV
 |s::ss,v::vs=>gP s v::kw ss vs
 |_,vs=>vs
def ee:List Sh→AV→AV
 |[s],v=>gP s v
 |s::ss,.tup vs=>.tup (kw (s::ss) vs)
 |_,v=>v
def fgt:List Sh→List ResultVar→Bool
 |[],_=>false
 |_::_,[]=>true
 |_::s,_::r=>fgt s r
def Rh(P:Program)(sh:List Sh)(rs:List ResultVar):KT AV
 |.exit _,_,_=>none
 |_,f,K=>Ad (Hc f K P rs) (λvs=>(Fd (fgt sh rs) K (Ma vs)).map λp=>ee sh p.2) ()
def i8:List Nat→KS→KS
 |_::l,e::K=>e::i8 l K
 |_,_=>[]
def zb(P:Program)(m:Nat)(rs:List ResultVar)(f:Fr)(K K':KS):Option (AV×KS):=Ad (Hc f K P rs) (λvs=>V9 (WH K'.length (Ma vs)&&(PU K'&&Nat.ble m K'.length)) (some (Ma vs,K')) ()) ()
def bU(P:Program)(z:List Nat)(S:Nat)(rs:List ResultVar)(nr:Option (List Pt))(f:Fr)(K:KS)(_:Lk f):Option (AV×KS) :=
 match nr with
 |none=>zb P z.length rs f K (i8 z K)
 |some rg=>Ad (Hc f K P rs) (λvs=>Lg z [S] rg (up f S (Ma vs)) K (λf K=>V9 (WH K.length (f S)&&(PU K&&Nat.ble z.length K.length)) (some (f S,K)) ()) ()) ()
def WK(P:Program)(z:List Nat)(nr:Option (List Pt))(S:Nat)(rs:List ResultVar):KT (AV×KS)
 |.exit _,_,_=>none
 |_,f,K=>bU P z S rs nr f K ()
def Ann.wr(a:Ann):Bool:=a.nr.isSome||!a.ak.isEmpty
structure Tld where
 P:Program
 ann:List (Nat×Ann)
 xt:Nat→List AV→Option AV:=λ_ _=>none
 st:Nat→Bool:=λ_=>false
 qt:Nat→Bool:=λ_=>false
 pz:List (Nat×List Sh):=[]
 vt:Nat→Bool:=λ_=>false
 mt:Nat→KS→List AV→Option AV:=λ_ _ _=>none
def Tld.at(T:Tld)(g:FuncId):Option Ann:=lk T.ann g
def Tld.wt(T:Tld)(g:FuncId):Bool:=match T.at g with|some a=>a.wr|none=>false
def body(P:Program)(g:FuncId):Code:=match P.funcs[g]? with|some f=>f.body.getD .skip|none=>.skip
def Yp(P:Program)(g:FuncId):List ResultVar:=match P.funcs[g]? with|some f=>f.results.toList|none=>[]
def lP(P:Program)(g:FuncId):Nat:=match P.funcs[g]? with|some f=>f.ntmps|none=>0
def L5(T:Tld):Nat→FuncId→Orc
 |0,_=>{ p:=λ_ _=>none,l:=λ_ _ _=>none,z:=λg=>(lk T.pz g).getD [] }
 |n+1,h =>
  {p:=λg args=>match T.at g with
    |some a=>cond (Nat.ble args.length (lP T.P g)) (XY T.P (L5 T n g) a (body T.P g) (Rh T.P a.sh (Yp T.P g)) (X0 args) [] ()) none
    |none=>T.xt g args
   l:=λt f K=>match T.at h with
    |some a=>match VQ t (body T.P h),lk a.lp t with
     |some c,some la=>run (λs=>XY T.P (L5 T n h) a c (Ny a.ak la a.rt) s.1 s.2 ()) (f,K)
     |_,_=>none
    |none=>none
   s:=T.st
   q:=T.qt
   w:=T.wt
   a:=λg K args=>match T.at g with
    |some a=>cond (a.wr&&(Nat.beq K.length a.ak.length&&Nat.ble args.length (lP T.P g))) (XY T.P (L5 T n g) a (body T.P g) (WK T.P a.ak a.nr (lP T.P g) (Yp T.P g)) (X0 args) K ()) none
    |none=>none
   z:=λg=>(lk T.pz g).getD []
   v:=T.vt
   m:=λg K args=>match T.at g with
    |some a=>cond (Nat.ble args.length (lP T.P g)) (XY T.P (L5 T n g) a (body T.P g) (Rh T.P a.sh (Yp T.P g)) (X0 args) K ()) none
    |none=>T.mt g K args }
def CP(T:Tld)(n:Nat)(g:FuncId)(args:List AV):Option AV:=(L5 T n 0).p g args
def CA(T:Tld)(n:Nat)(g:FuncId)(K:KS)(args:List AV):Option (AV×KS):=(L5 T n 0).a g K args
def CM(T:Tld)(n:Nat)(g:FuncId)(K:KS)(args:List AV):Option AV:=(L5 T n 0).m g K args
def LP(T:Tld)(n:Nat)(h:FuncId)(t:Nat)(f:Fr)(K:KS):Option (XE×Fr×KS):=(L5 T n h).l t f K
end Go.Proofs.YtkgadcbajihilaaGreatDoor.Am
