import Derived.Test.YtfhnbabcbhgffaaGreatDoorAmD
set_option linter.unusedVariables false
set_option linter.unusedSimpArgs false
noncomputable section
namespace Go.Proofs.YtfhnbabcbhgffaaGreatDoor.Am
open Go
section
variable{β:Type}
def S7(v:AV)(k:AV→Option β)(_:Lk k):Option β:=k v
def JZ(K:KS)(k:KS→Option β)(_:Lk k):Option β:=k K
def Aj{α:Type}(o:Option α)(k:α→Option β)(_:Lk k):Option β:=o.bind k
def wW(te:Option (List CK))(xs ys:List AV)(k:Bool→Option β)(_:Lk k):Option β :=
 match te with
 |some ks=>match V1 ks xs ys with|some b=>k b|none=>none
 |none=>none
def Oz(t:TI)(x:AV)(lo hi:Option AV)(k:AV→Option β)(_:Lk k):Option β :=
 match t,x with
 |.sl _ m,.imm n rows=>if m=n then match bd 0 lo,bd rows.length hi with
   |some l,some h=>Xi (Cy l h rows.length) (k (.imm n (cut rows l h))) ()
   |_,_=>none
  else none
 |.str,.s x=>match bd 0 lo,bd x.length hi with
   |some l,some h=>Xi (Cy l h x.length) (k (.s (cut x l h))) ()
   |_,_=>none
 |_,_=>none
def vC(t:TI)(x i:AV)(k:AV→Option β)(_:Lk k):Option β :=
 match t,x,i with
 |.str,.s x,.i _ i=>Xi (Q0 x i) (k (.i .u8 ((gt x i).toNat:Int))) ()
 |_,_,_=>none
def AS(te:Option (List CK))(op:BinOp)(x y:AV)(k:AV→Option β)(_:Lk k):Option β :=
 match x,y with
 |.agg xs,.agg ys=>match op with
  |.eql=>wW te xs ys (λb=>k (.b b)) ()
  |.neq=>wW te xs ys (λb=>k (.b (!b))) ()
  |_=>none
 |.b a,.b b=>match te,op with
  |some [.t],.eql=>k (.b (decide (a=b)))
  |some [.t],.neq=>k (.b (!decide (a=b)))
  |_,_=>none
 |.i c a,.i d b=>if Mz op=true then Xi (decide (0≤b)) (k (.i c (zJ op c a b))) ()else if c=d then match op with
  |.add=>k (.i c (c.wrap (a+b)))|.sub=>k (.i c (c.wrap (a-b)))|.mul=>k (.i c (c.wrap (a*b)))
  |.and=>k (.i c (KC .and c a b))|.or=>k (.i c (KC .or c a b))|.xor=>k (.i c (KC .xor c a b))
  |.quo=>Xi (!decide (b=0)) (k (.i c (c.wrap (a.tdiv b)))) ()|.rem=>Xi (!decide (b=0)) (k (.i c (a.tmod b))) ()
  |.eql=>k (.b (decide (a=b)))|.neq=>k (.b (!decide (a=b)))|.lss=>k (.b (decide (a<b)))|.leq=>k (.b (decide (a≤b)))
  |.gtr=>k (.b (decide (b<a)))|.geq=>k (.b (decide (b≤a)))
  |_=>none
  else none
 |.s a,.s b=>match op with
  |.add=>Xi (decide (a.length+b.length≤9223372036854775807)) (k (.s (a++b))) ()|.eql=>k (.b (decide (a=b)))|.neq=>k (.b (!decide (a=b)))
  |_=>none
 |_,_=>none
open Classical in
def px(a b:Option β):Option β:=if a=b then a else none
def T8(b:Bool)(x y:Option β):Option β:=cond b (px x y) y
def S4(op:BinOp)(x:AV)(k:AV→Option β)(_:Lk k):Option β :=
 match op,x with
 |.eql,.imm _ rows=>T8 rows.isEmpty (k (.b true)) (k (.b false))
 |.neq,.imm _ rows=>T8 rows.isEmpty (k (.b false)) (k (.b true))
 |_,_=>none
def mI(e:Option QE)(x:AV)(k:AV→Option β)(_:Lk k):Option β :=
 match e with
 |some _=>k x
 |none=>none
def rK(K:KS)(x:AV)(k:AV→Option β)(_:Lk k):Option β :=
 match x with
 |.ptr j i o=>mI (kg K j) (.ptr j i o) k ()
 |.iptr n r i o=>k (.iptr n r i o)
 |_=>none
def oun(op:UnOp)(x:AV)(k:AV→Option β)(_:Lk k):Option β :=
 match op,x with
 |.not,.b x=>k (.b (!x))
 |.neg,.i c a=>k (.i c (c.wrap (-a)))
 |_,_=>none
def Wp(c x y:AV)(k:AV→Option β)(_:Lk k):Option β :=
 match c with
 |.b c=>cond c (k x) (k y)
 |_=>none
def gA(K:KS)(t:TI)(x:AV)(k:AV→Option β)(_:Lk k):Option β :=
 match t,x with
 |.sl _ _,.nil=>k (.i .i64 0)
 |.sl _ _,.imm _ rows=>k (.i .i64 rows.length)
 |.sl _ _,.sl j=>match kg K j with|some e=>k (.i .i64 e.rows.length)|none=>none
 |.str,.s x=>k (.i .i64 x.length)
 |.arr n _ _,_=>k (.i .i64 n)
 |_,_=>none
def nL(K:KS)(x:AV)(o:Option (Nat×TK))(k:AV→Option β)(_:Lk k):Option β :=
 match x,o with
 |.ptr j i p,some (o,_)=>match kg K j with|some _=>k (.ptr j i (p+o))|none=>none
 |.iptr n rows i p,some (o,_)=>k (.iptr n rows i (p+o))
 |_,_=>none
def em(K:KS)(t:TI)(x i:AV)(k:AV→Option β)(_:Lk k):Option β :=
 match t,x,i with
 |.sl _ m,.imm n rows,.i _ i=>if m=n then Xi (Q0 rows i) (k (.iptr n rows i.toNat 0)) ()else none
 |.sl _ m,.sl j,.i _ i=>match kg K j with
  |some e=>if m=e.n then Xi (Q0 e.rows i) (k (.ptr j i.toNat 0)) ()else none
  |none=>none
 |.arr len _ m,.ptr j r o,.i _ i=>match kg K j with
  |some e=>Xi (dJ len i) (k (.ptr j r (o+i.toNat*m))) ()
  |none=>none
 |_,_,_=>none
def Mi(t:TK)(cs:List AV)(k:AV→Option β)(_:Lk k):Option β :=
 match t with
 |.one=>match cs with|c::_=>k c|[]=>none
 |.agg m=>if 0<m∧m≤cs.length then k (.agg (cs.take m))else none
 |.bad=>none
def sg(o:Option (Nat×TK))(x:AV)(k:AV→Option β)(_:Lk k):Option β :=
 match o,x with
 |some (o,t),.agg cs=>Mi t (cs.drop o) k ()
 |_,_=>none
def Oc(cs:List AV)(o:Nat)(t:TK)(v:AV)(ok:AV→Bool)(k:List AV→Option β)(_:Lk k):Option β :=
 match t,v with
 |.agg m,.agg ds=>if m=ds.length∧o+m≤cs.length∧ds.all ok=true then k (putCells cs o ds)else none
 |.one,v=>if o<cs.length∧ok v=true then k (cs.set o v)else none
 |_,_=>none
def S8(K:KS)(t:TK)(p v:AV)(k:KS→Option β)(_:Lk k):Option β :=
 match p with
 |.ptr j i o=>match kg K j with
  |some (.box cs)=>if i=0 then Oc cs o t v (BI K) (λcs=>JZ (K.set j (some (.box cs))) k ()) ()else none
  |some (.lst n rows)=>if i<rows.length then Oc (VJ rows i) o t v AV.closed (λr=>JZ (K.set j (some (.lst n (rows.set i r)))) k ()) ()else none
  |none=>none
 |_=>none
def PY(ns:List Nat)(K:KS)(t:TK)(j i o n:Nat)(rows:List (List AV))(v:AV)(k:KS→Option β)(_:Lk k):Option β :=
 if i<rows.length then match XJ K (C2 v)with
  |some (K1,ds)=>if(kg K1 j).isSome=true∧dh t v ds.length=true∧o+ds.length≤(VJ rows i).length then JZ (K1.set j (some (.lst n (rows.set i (putCells (VJ rows i) o (nz ns ds)))))) k ()else none
  |none=>none
 else none
def PR(fl:Bool)(ns:List Nat)(K:KS)(t:TK)(p v:AV)(k:KS→Option β)(_:Lk k):Option β :=
 match p with
 |.ptr j i o=>match kg K j with
  |some (.lst n rows)=>if(C2 v).all pC=true then S8 K t p v k ()else if fl=false then PY ns K t j i o n rows v k ()else none
  |_=>S8 K t p v k ()
 |_=>none
def io(K:KS)(v:AV)(k:AV→KS→Option β)(_:Lk k):Option β :=
 match v with
 |.agg cs=>if cs.all (BI K)=true then JZ (K++[some (.box cs)]) (λK'=>k (.ptr K.length 0 0) K') ()else none
 |v=>if BI K v=true then JZ (K++[some (.box [v])]) (λK'=>k (.ptr K.length 0 0) K') ()else none
def WM(K:KS)(z:Option (List AV))(k:AV→KS→Option β)(_:Lk k):Option β :=
 match z with
 |some cs=>JZ (K++[some (.box cs)]) (λK'=>k (.ptr K.length 0 0) K') ()
 |none=>none
def Ty(K:KS)(t:TB)(parts:List (Nat×AV))(k:AV→Option β)(_:Lk k):Option β :=
 match t with
 |.st z p=>match DU K (p[·]?) z parts with|some cs=>k (.agg cs)|none=>none
 |.arr z m=>match DU K (λi=>some (i*m,m)) z parts with|some cs=>k (.agg cs)|none=>none
 |.bad=>none
def yB:Bool→List AV→Bool
 |false,_=>true
 |true,cs=>dQ cs
def NQ(fl:Bool)(ns:List Nat)(K:KS)(t:Option (TypeId×Nat×List AV))(len:Nat)(parts:List (Nat×AV))(k:AV→KS→Option β)(_:Lk k):Option β :=
 match t with
 |some (_,m,z)=>if len=0 then(match parts with|[]=>JZ (K++[some (.lst m [])]) (λK'=>k (.sl K.length) K') ()|_=>none)
  else if len*m≤16777216 then match DU K (λi=>some (i*m,m)) (HF len z) parts with
  |some cs=>cond (yB fl cs) (match XJ K cs with
   |some (K1,cs)=>JZ (K1++[some (.lst m ((EO m len cs).map (nz ns)))]) (λK'=>k (.sl K.length) K') ()
   |none=>none) none
  |none=>none
  else none
 |none=>none
def qZ(v:AV)(i:Nat)(k:AV→Option β)(_:Lk k):Option β :=
 match v with
 |.tup cs=>match cs[i]? with|some c=>k c|none=>none
 |_=>none
def U0(K:KS)(t:Option (TypeId×Nat×List AV))(bytes:Option Nat)(s x:AV)(k:AV→KS→Option β)(_:Lk k):Option β :=
 match t,bytes with
 |some (_,m,_),some (b+1)=>match GN K m x with
  |some (rows',K1)=>match s with
   |.sl j=>match kg K1 j with
    |some (.lst n rows)=>if n=m then Xi (decide ((rows.length+rows'.length)*(b+1)≤140737488355328)) (JZ (K1.set j none++[some (.lst m (rows++rows'))]) (λK'=>k (.sl K.length) K') ()) ()else none
    |_=>none
   |.nil=>Xi (decide (rows'.length*(b+1)≤140737488355328)) (JZ (K1++[some (.lst m rows')]) (λK'=>k (.sl K.length) K') ()) ()
   |_=>none
  |none=>none
 |_,_=>none
def vD(x y:AV)(k:AV→Option β)(_:Lk k):Option β :=
 match x,y with
 |.i c a,.i _ b=>k (.i c (if b<a then b else a))
 |_,_=>none
def tZ(x y:AV)(k:AV→Option β)(_:Lk k):Option β :=
 match x,y with
 |.i c a,.i _ b=>k (.i c (if a<b then b else a))
 |_,_=>none
def fj(t:TI)(x:AV)(k:AV→Option β)(_:Lk k):Option β :=
 match t,x with
 |.int c,.i _ a=>k (.i c (c.wrap a))
 |_,_=>none
def gh(K:KS)(t:TI)(x:AV)(k:AV→Option β)(_:Lk k):Option β :=
 match t,x with
 |.str,.sl j=>match kg K j with
  |some (.lst 1 rows)=>match FZ rows with|some s=>k (.s s)|none=>none
  |_=>none
 |_,_=>none
def iU(v:AV)(k:FuncId→List AV→Option β)(_:Lk k):Option β :=
 match v with
 |.clo g caps=>k g caps
 |_=>none
def me(ns:List Nat)(K:KS)(t:Option (TypeId×Nat×List AV))(bytes:Option Nat)(l c:AV)(k:AV→KS→Option β)(_:Lk k):Option β :=
 match t,bytes,l,c with
 |some (_,m,z),some (b+1),.i .i64 l,.i .i64 c =>
  Xi (decide (l=c)) (Xi (mkB l (b+1)) (JZ (K++[some (.lst m (List.replicate l.toNat (nz ns z)))]) (λK'=>k (.sl K.length) K') ()) ()) ()
 |_,_,_,_=>none
structure Orc where
 p:FuncId→List AV→Option AV
 l:Nat→Fr→KS→Option (XE×Fr×KS)
 s:FuncId→Bool:=λ_=>false
 q:FuncId→Bool:=λ_=>false
 w:FuncId→Bool:=λ_=>false
 a:FuncId→KS→List AV→Option (AV×KS):=λ_ _ _=>none
 z:FuncId→List Sh:=λ_=>[]
 v:FuncId→Bool:=λ_=>false
 m:FuncId→KS→List AV→Option AV:=λ_ _ _=>none
def cI(x:Int):List AV:=[.i .i64 x]
def GI:List (List AV)→Option (List Int)
 |[]=>some []
 |[.i .i64 x]::r=>(GI r).map (x::·)
 |_=>none
def bM(K:KS)(vs:List AV)(k:AV→KS→Option β)(_:Lk k):Option β :=
 match vs with
 |[.sl j]=>match kg K j with
  |some (.lst 1 rows)=>match GI rows with
   |some xs=>Xi (decide (xs.length<4611686018427387904)) (JZ (K.set j (some (.lst 1 ((Aw xs).map cI)))) (λK=>k (.tup []) K) ()) ()
   |none=>none
  |_=>none
 |_=>none
def Mc(D:Orc)(g:FuncId)(K:KS)(vs:List AV)(k:AV→KS→Option β)(_:Lk k):Option β :=
 Aj (D.p g (aL (D.z g) (G9 K vs))) (λx=>k (X2 K.length x).1 (K++(X2 K.length x).2)) ()
def Eo(P:Program)(D:Orc)(o:Op)(f:Fr)(K:KS)(k:AV→KS→Option β)(_:Lk (o,f,k)):Option β :=
 match o with
 |.move x|.assign x=>k (ev f x) K
 |.pick c x y=>Wp (ev f c) (ev f x) (ev f y) (λv=>k v K) ()
 |.alloc t=>WM K (Uw P t) k ()
 |.box _ v=>io K (ev f v) k ()
 |.build t ps=>Ty K (UX P t) (ps.toList.map λp=>(p.1,ev f p.2)) (λv=>k v K) ()
 |.buildSlice t len ps=>NQ (zB (Is P t)) (Is P t) K (Lr P t) len (ps.toList.map λp=>(p.1,ev f p.2)) k ()
 |.load t x=>Mi (tk P t) (Z9 K (ev f x)) (λv=>k v K) ()
 |.store t p v=>PR (flT P t) (slz P 9 t) K (tk P t) (ev f p) (ev f v) (λK=>k .u K) ()
 |.binOp op t x y _=>if FL y=true then(if Kt P t=true then S4 op (ev f x) (λv=>k v K) ()else none)else AS (L5 P t) op (ev f x) (ev f y) (λv=>k v K) ()
 |.unOp op _ x=>oun op (ev f x) (λv=>k v K) ()
 |.convert s t x=>if bsl P s=true then gh K (ti P t) (ev f x) (λv=>k v K) ()else if tok P s=true then fj (ti P t) (ev f x) (λv=>k v K) ()else none
 |.makeFunc (.func g) first caps=>if first.size=0 then k (.clo g (caps.toList.map (ev f))) K else none
 |.fieldAddr t x i=>nL K (ev f x) (E7 P t i) (λv=>k v K) ()
 |.indexAddr t x i=>em K (ti P t) (ev f x) (ev f i) (λv=>k v K) ()
 |.extract x i=>qZ (ev f x) i (λv=>k v K) ()
 |.call { callee:=.builtin .len,args,argTypes }=>match args.toList,argTypes.toList with
  |[x],t::_=>gA K (ti P t) (ev f x) (λv=>k v K) ()
  |_,_=>none
 |.call { callee:=.builtin .append,args,argTypes }=>match args.toList,argTypes.toList with
  |[s,x],t::tx::_=>if Et P tx=true∧(FL s&&KV (ev f x))=false then U0 K (Lr P t) ((Lr P t).bind λq=>tb P q.1) (ev f s) (ev f x) k ()else none
  |_,_=>none
 |.call { callee:=.builtin .min,args,.. }=>match args.toList with
  |[x,y]=>vD (ev f x) (ev f y) (λv=>k v K) ()
  |_=>none
 |.call { callee:=.builtin .max,args,.. }=>match args.toList with
  |[x,y]=>tZ (ev f x) (ev f y) (λv=>k v K) ()
  |_=>none
 |.call { callee:=.value x,args,.. }=>iU (ev f x) (λg caps=>Mc D g K (args.toList.map (ev f)++caps) k ()) ()
 |.makeSlice t l c=>me (Is P t) K (Lr P t) ((Lr P t).bind λq=>tb P q.1) (ev f l) (ev f c) k ()
 |.slice t x lo hi none=>Oz (ti P t) (ev f x) (lo.map (ev f)) (hi.map (ev f)) (λv=>k v K) ()
 |.index t x i=>vC (ti P t) (ev f x) (ev f i) (λv=>k v K) ()
 |.nilCheck x=>rK K (ev f x) (λv=>k v K) ()
 |.field t x i=>sg (E7 P t i) (ev f x) (λv=>k v K) ()
 |_=>none
def yi(s:Option Tmp)(want:Bool)(f:Fr)(yes no:Fr→Option β)(_:Lk (f,yes,no)):Option β :=
 match s with
 |some d=>match f d with
  |.b x=>cond x (if want=true then yes (up f d (.b true))else no (up f d (.b true))) (if want=true then no (up f d (.b false))else yes (up f d (.b false)))
  |.tup []=>no f
  |_=>none
 |none=>none
def Ln(d:Option Tmp)(v:AV)(f:Fr)(k:Fr→Option β)(_:Lk (f,k)):Option β :=
 match d with
 |some d=>S7 v (λv=>k (up f d v)) ()
 |none=>k f
def Hj(P:Program)(D:Orc)(ops:Array Oper):(l:List Oper)→(f:Fr)→(K:KS)→(k:Fr→KS→Option β)→(_:Lk (l,f,k))→Option β
 |[],f,K,k,_=>k f K
 |o::r,f,K,k,_=>match o.guard with
  |none=>Eo P D o.op f K (λv K'=>Ln o.dst v f (λf=>Hj P D ops r f K' k ()) ()) ()
  |some (j,want)=>yi ((ops[j]?).bind (·.dst)) want f (λf=>Eo P D o.op f K (λv K'=>Ln o.dst v f (λf=>Hj P D ops r f K' k ()) ()) ()) (λf=>Ln o.dst (.tup []) f (λf=>Hj P D ops r f K k ()) ()) ()
def YI(K:KS)(vs:List AV)(k:AV→KS→Option β)(_:Lk k):Option β :=
 match vs with
 |[.sl j]=>match kg K j with
  |some (.lst 1 rows)=>match GI rows with
   |some xs=>Xi (decide (xs.length<4611686018427387904)) (JZ (K.set j none++[some (.lst 1 ((ZR xs).map cI))]) (λK'=>k (.sl K.length) K') ()) ()
   |none=>none
  |_=>none
 |_=>none
def pl:List Nat→Bool
 |[]=>true
 |x::l=>!l.contains x&&pl l
def jz:KS→Bool
 |[]=>true
 |some (.lst _ _)::l=>jz l
 |_::_=>false
def PA:KS→Bool
 |[]=>true
 |some (.lst _ _)::l=>PA l
 |some (.box cs)::l=>dy cs&&PA l
 |none::_=>false
def UL(D:Orc)(g:FuncId)(K:KS)(js:List Nat)(cs:Option (List AV))(k:AV→KS→Option β)(_:Lk k):Option β :=
 match cs with
 |some cs=>Xi (PA (Z4 K js)) (Aj (D.a g (Z4 K js) cs) (λr=>k (EZ js K.length r.1) (HP K js r.2)) ()) ()
 |none=>none
def US(D:Orc)(g:FuncId)(K:KS)(js:List Nat)(vs:List AV)(k:AV→KS→Option β)(_:Lk (vs,k)):Option β :=
 Xi (pl js) (UL D g K js (Gy js vs) k ()) ()
def Tb(D:Orc)(g:FuncId)(K:KS)(vs:List AV)(k:AV→KS→Option β)(_:Lk k):Option β:=US D g K (Kl vs) vs k ()
def UI(D:Orc)(g:FuncId)(K:KS)(js:List Nat)(cs:Option (List AV))(k:AV→KS→Option β)(_:Lk k):Option β :=
 match cs with
 |some cs=>Xi (jz (Z4 K js)) (Aj (D.m g (Z4 K js) cs) (λx=>k (X2 K.length x).1 (Bs K js (D5 js)++(X2 K.length x).2)) ()) ()
 |none=>none
def UM(D:Orc)(g:FuncId)(K:KS)(js:List Nat)(vs:List AV)(k:AV→KS→Option β)(_:Lk (vs,k)):Option β :=
 Xi (pl js) (UI D g K js (Gy js vs) k ()) ()
def O1(D:Orc)(g:FuncId)(K:KS)(vs:List AV)(k:AV→KS→Option β)(_:Lk k):Option β:=UM D g K (Kl vs) vs k ()
def G6(P:Program)(D:Orc)(o:Op)(f:Fr)(K:KS)(k:AV→KS→Option β)(_:Lk (o,f,k)):Option β :=
 match o with
 |.call { callee:=.value x,args,.. }=>iU (ev f x) (λg caps=>cond (D.s g) (bM K (args.toList.map (ev f)++caps) k ()) (cond (D.q g) (YI K (args.toList.map (ev f)++caps) k ()) (cond (D.w g) (Tb D g K (args.toList.map (ev f)++caps) k ()) (cond (D.v g) (O1 D g K (args.toList.map (ev f)++caps) k ()) (Mc D g K (args.toList.map (ev f)++caps) k ()))))) ()
 |o=>Eo P D o f K k ()
def Ml(P:Program)(D:Orc)(ops:Array Oper):(l:List Oper)→(f:Fr)→(K:KS)→(k:Fr→KS→Option β)→(_:Lk (l,f,k))→Option β
 |[],f,K,k,_=>k f K
 |o::r,f,K,k,_=>match o.guard with
  |none=>G6 P D o.op f K (λv K'=>Ln o.dst v f (λf=>Ml P D ops r f K' k ()) ()) ()
  |some _=>none
def Ut(vs:List Nat)(P:Program)(D:Orc)(o:Op)(f:Fr)(K:KS)(k:AV→KS→Option β)(_:Lk (o,f,k)):Option β :=
 match o with
 |.call { callee:=.value (.func g),args,argTypes }=>cond (vs.contains g) (G6 P D (.call { callee:=.value (.func g),args,argTypes }) f K k ()) (Eo P D (.call { callee:=.value (.func g),args,argTypes }) f K k ())
 |o=>Eo P D o f K k ()
def Cx(vs:List Nat)(P:Program)(D:Orc)(ops:Array Oper):(l:List Oper)→(f:Fr)→(K:KS)→(k:Fr→KS→Option β)→(_:Lk (l,f,k))→Option β
 |[],f,K,k,_=>k f K
 |o::r,f,K,k,_=>match o.guard with
  |none=>Ut vs P D o.op f K (λv K'=>Ln o.dst v f (λf=>Cx vs P D ops r f K' k ()) ()) ()
  |some (j,want)=>yi ((ops[j]?).bind (·.dst)) want f (λf=>Ut vs P D o.op f K (λv K'=>Ln o.dst v f (λf=>Cx vs P D ops r f K' k ()) ()) ()) (λf=>Ln o.dst (.tup []) f (λf=>Cx vs P D ops r f K k ()) ()) ()
def onr(D:Orc)(f:Fr)(K:KS)(j i o q:Nat)(rows:List (List AV))(r:AV×KS)(k:AV→KS→Option β)(_:Lk k):Option β :=
 match r.2 with
 |[some (.lst m rs')]=>Xi (r.1.flat&&Nat.blt i rows.length) (JZ (bF K j i o q m rows rs') (λK'=>k r.1 K') ()) ()
 |_=>none
def onx(D:Orc)(f:Fr)(K:KS)(x:AV)(g:FuncId)(j i o q:Nat)(rows:List (List AV))(cs:List AV)(k:AV→KS→Option β)(_:Lk k):Option β :=
 match cs with
 |.own m rs::_=>Xi x.scal (Aj (D.a g [some (.lst m rs)] [.sl 0,x]) (λr=>onr D f K j i o q rows r k ()) ()) ()
 |_=>none
def onj(D:Orc)(f:Fr)(K:KS)(x:AV)(g:FuncId)(j i o:Nat)(e:Option QE)(k:AV→KS→Option β)(_:Lk k):Option β :=
 match e with
 |some (.lst q rows)=>onx D f K x g j i o q rows ((VJ rows i).drop o) k ()
 |_=>none
def onp(D:Orc)(f:Fr)(K:KS)(p x:AV)(g:FuncId)(k:AV→KS→Option β)(_:Lk k):Option β :=
 match p with
 |.ptr j i o=>onj D f K x g j i o (kg K j) k ()
 |_=>none
def qM:TK→Bool
 |.one=>true
 |_=>false
def ON(P:Program)(D:Orc)(ops:Array Oper):(us:List Nat)→(l:List Oper)→(f:Fr)→(K:KS)→(k:Fr→KS→Option β)→(_:Lk (l,f,k))→Option β
 |_::us,o::r,f,K,k,_=>match o.guard with
  |none=>Eo P D o.op f K (λv K'=>Ln o.dst v f (λf=>ON P D ops us r f K' k ()) ()) ()
  |some _=>none
 |[],⟨some d,.load t p,_,_,_,none⟩::⟨some e,.move x,_,_,_,none⟩::⟨dst,.call ⟨.value (.func g),args,_⟩,_,_,_,none⟩::r,f,K,k,_=>match args.toList with
  |[.tmp d',.tmp e']=>Xi (qM (tk P t)&&(Nat.beq d d'&&(Nat.beq e e'&&!Nat.beq d e))) (onp D f K (ev f p) (ev (up f d (.sl K.length)) x) g (λv K'=>Ln dst v (up (up f d (.sl K.length)) e (ev (up f d (.sl K.length)) x)) (λf=>Ml P D ops r f K' k ()) ()) ()) ()
  |_=>none
 |_,_,_,_,_,_=>none
inductive Pt where
 |r (i:Nat)|s (t n:Nat)|c (q o n:Nat)|g (t o n:Nat)
structure LA where
 sl:List Nat
 rg:List Pt
 xs:List Nat
 xr:List Pt
structure Ann where
 ord:List (Nat×List Nat):=[]
 ot:List (Nat×OT):=[]
 ac:List (Nat×Nat):=[]
 av:List (Nat×List Nat):=[]
 an:List (Nat×List Nat):=[]
 eb:List (Nat×List Nat):=[]
 ak:List Nat:=[]
 jn:List (Nat×(Nat×Nat×Nat)):=[]
 lp:List (Nat×LA):=[]
 rt:LA:=⟨[],[],[],[]⟩
 sh:List Sh:=[]
 fz:List (Nat×List Nat):=[]
 fc:List (Nat×List (Nat×Nat)):=[]
 nr:Option (List Pt):=none
def lk{α:Type}:List (Nat×α)→Nat→Option α
 |[],_=>none
 |(i,x)::l,j=>cond (i==j) (some x) (lk l j)
def mtI(tb:List (Nat×(Nat×Nat)))(g:Nat)(K:KS)(args:List AV):Option AV:=match K,args with
 |[some (.lst n R),some (.lst m V)],[.sl 0,.i .i64 i,.sl 1]=>match lk tb g with
  |some (k,b)=>if n=k∧m=k∧Va R=true∧Va V=true then Xi (HL R i V b) (some (.own k (V5 R i V))) ()else none
  |none=>none
 |_,_=>none
def XN:(l:List Pt)→(f:Fr)→(K:KS)→(π:List Nat)→(k:Fr→KS→List Nat→Option β)→(_:Lk (f,k))→Option β
 |[],f,K,π,k,_=>k f K π
 |.r i::l,f,K,π,k,_=>XN l f K (π++[i]) k ()
 |.s t n::l,f,K,π,k,_=>match f t with
  |.sl j=>XN l f K (π++[j]) k ()
  |.ptr j _ _=>XN l f K (π++[j]) k ()
  |.nil=>XN l (up f t (.sl K.length)) (K++[some (.lst n [])]) (π++[K.length]) k ()
  |_=>none
 |.c q o n::l,f,K,π,k,_=>match π[q]? with
  |some j=>match kg K j with
   |some (.box cs)=>match cs[o]? with
    |some (.sl i)=>XN l f K (π++[i]) k ()
    |some (.ptr i _ _)=>XN l f K (π++[i]) k ()
    |some .nil=>XN l f ((K++[some (QE.lst n [])]).set j (some (QE.box (cs.set o (.sl K.length))))) (π++[K.length]) k ()
    |_=>none
   |_=>none
  |none=>none
 |.g t o n::l,f,K,π,k,_=>match f t with
  |.agg cs=>match cs[o]? with
   |some (.sl j)=>XN l f K (π++[j]) k ()
   |some .nil=>XN l (up f t (.agg (cs.set o (.sl K.length)))) (K++[some (.lst n [])]) (π++[K.length]) k ()
   |_=>none
  |_=>none
def wH(K:KS)(π:List Nat):KS:=π.map λj=>(kg K j).map (Pl π)
def frl(f:Fr)(π:List Nat):List Nat→List (Nat×AV)
 |[]=>[]
 |t::l=>(t,ren π (f t))::frl f π l
def zd(f:Fr)(π:List Nat)(l:List Nat):Fr:=Vm (frl f π l)
def xy:List Nat→List Nat→Bool
 |[],_=>true
 |x::l,y::m=>Nat.beq x y&&xy l m
 |_::_,[]=>false
def onz(z π:List Nat)(q:Option β)(_:Lk q):Option β :=
 match z with
 |[]=>q
 |x::l=>Xi (xy (x::l) π) q ()
def Kj(z:List Nat)(sl:List Nat)(rg:List Pt)(f:Fr)(K:KS)(k:Fr→KS→Option β)(_:Lk (f,k)):Option β :=
 XN rg f K [] (λf K π=>Xi (pl π) (onz z π (JZ (wH K π) (λK'=>k (zd f π sl) K') ()) ()) ()) ()
def Ma:Code→Nat
 |.region id _ _=>id
 |.seq a _=>Ma a
 |.cond _ a _=>Ma a
 |.block _ c=>Ma c
 |.loop c=>Ma c
 |_=>0
def VW(t:Nat):Code→Option Code
 |.seq a b=>(VW t a).or (VW t b)
 |.cond _ a b=>(VW t a).or (VW t b)
 |.block _ c=>VW t c
 |.loop c=>cond (Ma c==t) (some c) (VW t c)
 |_=>none
def bS(o:Option Bool)(k:Bool→Option β)(_:Lk k):Option β:=o.bind k
def T0(b:Bool):Option Bool:=some b
def asB:AV→Option Bool
 |.b x=>T0 x
 |_=>none
def oD(lo hi:Nat)(f:Fr):Fr:=λt=>cond (Nat.ble lo t&&Nat.blt t hi) .u (f t)
abbrev KT(β:Type):=XE→Fr→KS→Option β
def ga(k:Fr→KS→Option β)(Q:KT β):KT β
 |.normal,f,K=>k f K
 |e,f,K=>Q e f K
def pp(id:Nat)(Q:KT β):KT β
 |.exit id',f,K=>cond (id'==id) (Q .normal f K) (Q (.exit id') f K)
 |e,f,K=>Q e f K
def WN(P:Program)(D:Orc)(a:Ann)(id:Nat)(ops:Array Oper)(l:List Oper)(Q:KT β)(f:Fr)(K:KS)(_:Lk (l,Q,f)):Option β :=
 match lk a.jn id with
 |none=>Hj P D ops l f K (λf K=>Q .normal f K) ()
 |some (s,lo,hi)=>bS (Hj P D ops l f K (λf _=>asB (f s)) ()) (λc=>Q .normal (up (oD lo hi f) s (.b c)) K) ()
def fJ(ops:Array Oper):Option (List Nat)→List Oper
 |none=>ops.toList
 |some is=>is.filterMap (ops[·]?)
def Ic(P:Program)(D:Orc)(ops:Array Oper):(t:OT)→(f:Fr)→(K:KS)→(k:Fr→KS→Option β)→(_:Lk (f,k))→Option β
 |.done,f,K,k,_=>k f K
 |.one i t,f,K,k,_=>match ops[i]? with
  |some o=>Hj P D ops [o] f K (λf K=>Ic P D ops t f K k ()) ()
  |none=>none
 |.alt a b,f,K,k,_=>px (Ic P D ops a f K k ()) (Ic P D ops b f K k ())
def Ns(P:Program)(D:Orc)(a:Ann)(id:Nat)(ops:Array Oper)(t:Option OT)(Q:KT β)(f:Fr)(K:KS)(_:Lk (ops,Q,f)):Option β :=
 match t with
 |some t=>Ic P D ops t f K (λf K=>Q .normal f K) ()
 |none=>WN P D a id ops (fJ ops (lk a.ord id)) Q f K ()
def fA(P:Program)(D:Orc)(a:Ann)(id:Nat)(c:Option Nat)(ops:Array Oper)(l:List Oper)(Q:KT β)(f:Fr)(K:KS)(_:Lk (l,Q,f)):Option β :=
 match c with
 |none=>WN P D a id ops l Q f K ()
 |some _=>Ml P D ops l f K (λf K=>Q .normal f K) ()
def fe(P:Program)(D:Orc)(a:Ann)(id:Nat)(ds:Option (List Nat))(ops:Array Oper)(Q:KT β)(f:Fr)(K:KS)(_:Lk (ops,Q,f)):Option β :=
 match ds with
 |none=>Ns P D a id ops (lk a.ot id) Q f K ()
 |some ds=>Ns P D a id (ops.map (ZS ds)) (lk a.ot id) Q f K ()
def ex(P:Program)(D:Orc)(a:Ann)(id:Nat)(us:Option (List Nat))(ops:Array Oper)(l:List Oper)(Q:KT β)(f:Fr)(K:KS)(_:Lk (l,Q,f)):Option β :=
 match us with
 |none=>fA P D a id (lk a.ac id) ops l Q f K ()
 |some us=>ON P D ops us l f K (λf K=>Q .normal f K) ()
def FK(vs:List Nat)(P:Program)(D:Orc)(ops:Array Oper):(t:OT)→(f:Fr)→(K:KS)→(k:Fr→KS→Option β)→(_:Lk (f,k))→Option β
 |.done,f,K,k,_=>k f K
 |.one i t,f,K,k,_=>match ops[i]? with
  |some o=>Cx vs P D ops [o] f K (λf K=>FK vs P D ops t f K k ()) ()
  |none=>none
 |.alt a b,f,K,k,_=>px (FK vs P D ops a f K k ()) (FK vs P D ops b f K k ())
def md(vs:List Nat)(P:Program)(D:Orc)(ops:Array Oper)(o:Option (List Nat))(Q:KT β)(f:Fr)(K:KS)(_:Lk (ops,Q,f)):Option β:=Cx vs P D ops (fJ ops o) f K (λf K=>Q .normal f K) ()
def eU(vs:List Nat)(P:Program)(D:Orc)(a:Ann)(id:Nat)(t:Option OT)(ops:Array Oper)(Q:KT β)(f:Fr)(K:KS)(_:Lk (ops,Q,f)):Option β :=
 match t with
 |some t=>FK vs P D ops t f K (λf K=>Q .normal f K) ()
 |none=>md vs P D ops (lk a.ord id) Q f K ()
def RO(P:Program)(D:Orc)(a:Ann)(id:Nat)(vs:Option (List Nat))(ops:Array Oper)(Q:KT β)(f:Fr)(K:KS)(_:Lk (ops,Q,f)):Option β :=
 match vs with
 |none=>ex P D a id (lk a.an id) ops ops.toList Q f K ()
 |some vs=>Cx vs P D ops ops.toList f K (λf K=>Q .normal f K) ()
def Sc(P:Program)(D:Orc)(a:Ann)(id:Nat)(vs:Option (List Nat))(ops:Array Oper)(Q:KT β)(f:Fr)(K:KS)(_:Lk (ops,Q,f)):Option β :=
 match vs with
 |none=>fe P D a id (lk a.eb id) ops Q f K ()
 |some vs=>eU vs P D a id (lk a.ot id) ops Q f K ()
def Qan(s j:Nat)(e:Option QE)(f:Fr)(K:KS)(k:Fr→KS→Option β)(_:Lk k):Option β :=
 match e with
 |some (.lst m rows)=>k (up f s (.imm m (Vc rows))) (K.set j none)
 |_=>none
def wE(s:Nat)(v:AV)(f:Fr)(K:KS)(k:Fr→KS→Option β)(_:Lk k):Option β :=
 match v with
 |.sl j=>Qan s j (kg K j) f K k ()
 |_=>none
def dL:List Nat→Fr→KS→(k:Fr→KS→Option β)→(_:Lk k)→Option β
 |[],f,K,k,_=>k f K
 |s::ss,f,K,k,_=>wE s (f s) f K (λf K=>dL ss f K k ()) ()
def w5(o jb j:Nat)(cs:List AV)(e:Option QE)(K:KS)(k:KS→Option β)(_:Lk k):Option β :=
 match e with
 |some (.lst m rows)=>k ((K.set j none).set jb (some (.box (cs.set o (.imm m (Vc rows))))))
 |_=>none
def wZ(o jb:Nat)(cs ds:List AV)(K:KS)(k:KS→Option β)(_:Lk k):Option β :=
 match ds with
 |.sl j::_=>w5 o jb j cs (kg K j) K k ()
 |_=>none
def xp(o jb:Nat)(e:Option QE)(K:KS)(k:KS→Option β)(_:Lk k):Option β :=
 match e with
 |some (.box cs)=>wZ o jb cs (cs.drop o) K k ()
 |_=>none
def yL(o:Nat)(v:AV)(K:KS)(k:KS→Option β)(_:Lk k):Option β :=
 match v with
 |.ptr jb _ _=>xp o jb (kg K jb) K k ()
 |_=>none
def cH:List (Nat×Nat)→Fr→KS→(k:Fr→KS→Option β)→(_:Lk k)→Option β
 |[],f,K,k,_=>k f K
 |(s,o)::l,f,K,k,_=>yL o (f s) K (λK=>cH l f K k ()) ()
def xY(o:Option (List Nat))(c:Option (List (Nat×Nat)))(f:Fr)(K:KS)(k:Fr→KS→Option β)(_:Lk k):Option β :=
 match o,c with
 |none,none=>k f K
 |none,some cs=>cH cs f K k ()
 |some ss,none=>dL ss f K k ()
 |some ss,some cs=>dL ss f K (λf K=>cH cs f K k ()) ()
def Jl(P:Program)(D:Orc)(a:Ann):(c:Code)→(Q:KT β)→(f:Fr)→KS→(_:Lk (c,Q,f))→Option β
 |.skip,Q,f,K,_=>Q .normal f K
 |.ret,Q,f,K,_=>Q .ret f K
 |.exit id,Q,f,K,_=>Q (.exit id) f K
 |.seq x y,Q,f,K,_=>Jl P D a x (ga (λf K=>Jl P D a y Q f K ()) Q) f K ()
 |.cond c x y,Q,f,K,_=>match ev f c with
  |.b b=>cond b (Jl P D a x Q f K ()) (Jl P D a y Q f K ())
  |_=>none
 |.block id c,Q,f,K,_=>Jl P D a c (pp id Q) f K ()
 |.loop c,Q,f,K,_=>match lk a.lp (Ma c)with
  |some la=>Kj a.ak la.sl la.rg f K (λf K=>Aj (D.l (Ma c) f K) (λo=>Q o.1 o.2.1 o.2.2) ()) ()
  |none=>none
 |.region id ops false,Q,f,K,_=>xY (lk a.fz id) (lk a.fc id) f K (λf K=>RO P D a id (lk a.av id) ops Q f K ()) ()
 |.region id ops true,Q,f,K,_=>xY (lk a.fz id) (lk a.fc id) f K (λf K=>Sc P D a id (lk a.av id) ops Q f K ()) ()
 |_,_,_,_,_=>none
end
abbrev ST:=Fr×KS
def Nf(z:List Nat)(la rt:LA):KT (ST⊕(XE×ST))
 |.normal,f,K=>Kj z la.sl la.rg f K (λf K=>some (.inl (f,K))) ()
 |.ret,f,K=>Kj z rt.sl rt.rg f K (λf K=>some (.inr (.ret,f,K))) ()
 |.exit i,f,K=>Kj z la.xs la.xr f K (λf K=>some (.inr (.exit i,f,K))) ()
def Gt(f:Fr)(K:KS)(P:Program):List ResultVar→Option (List AV)
 |[]=>some []
 |.tmp t::rs=>(Gt f K P rs).map (f t::·)
 |.cell a t::rs=>(Mi (tk P t) (Z9 K (f a)) some ()).bind λv=>(Gt f K P rs).map (v::·)
def LF:List AV→AV
 |[v]=>v
 |vs=>.tup vs
def dt:Sh→AV→AV
 |.z k,v=>pB k v
 |.a ns,.agg cs=>.agg (nz ns cs)
 |_,v=>v
def gE:List Sh→List AV→List AV
 |s::ss,v::vs=>dt s v::gE ss vs
 |_,vs=>vs
def aD:List Sh→AV→AV
 |[s],v=>dt s v
 |s::ss,.tup vs=>.tup (gE (s::ss) vs)
 |_,v=>v
def fgt:List Sh→List ResultVar→Bool
 |[],_=>false
 |_::_,[]=>true
 |_::s,_::r=>fgt s r
def PF(P:Program)(sh:List Sh)(rs:List ResultVar):KT AV
 |.exit _,_,_=>none
 |_,f,K=>Aj (Gt f K P rs) (λvs=>(EL (fgt sh rs) K (LF vs)).map λp=>aD sh p.2) ()
def eh:List Nat→KS→KS
 |_::l,e::K=>e::eh l K
 |_,_=>[]
def uy(P:Program)(m:Nat)(rs:List ResultVar)(f:Fr)(K K':KS):Option (AV×KS):=Aj (Gt f K P rs) (λvs=>Xi (TN K'.length (LF vs)&&(PA K'&&Nat.ble m K'.length)) (some (LF vs,K')) ()) ()
def Wa(P:Program)(z:List Nat)(S:Nat)(rs:List ResultVar)(nr:Option (List Pt))(f:Fr)(K:KS)(_:Lk f):Option (AV×KS) :=
 match nr with
 |none=>uy P z.length rs f K (eh z K)
 |some rg=>Aj (Gt f K P rs) (λvs=>Kj z [S] rg (up f S (LF vs)) K (λf K=>Xi (TN K.length (f S)&&(PA K&&Nat.ble z.length K.length)) (some (f S,K)) ()) ()) ()
def T2(P:Program)(z:List Nat)(nr:Option (List Pt))(S:Nat)(rs:List ResultVar):KT (AV×KS)
 |.exit _,_,_=>none
 |_,f,K=>Wa P z S rs nr f K ()
def Ann.wr(a:Ann):Bool:=a.nr.isSome||!a.ak.isEmpty
structure Tld where
 P:Program
 ann:List (Nat×Ann)
 xt:Nat→List AV→Option AV:=λ_ _=>none
 st:Nat→Bool:=λ_=>false
 qt:Nat→Bool:=λ_=>false
 pz:List (Nat×List Sh):=[]
 vt:Nat→Bool:=λ_=>false
 mt:Nat→KS→List AV→Option AV:=λ_ _ _=>none
def Tld.at(T:Tld)(g:FuncId):Option Ann:=lk T.ann g
def Tld.wt(T:Tld)(g:FuncId):Bool:=match T.at g with|some a=>a.wr|none=>false
def body(P:Program)(g:FuncId):Code:=match P.funcs[g]? with|some f=>f.body.getD .skip|none=>.skip
def UA(P:Program)(g:FuncId):List ResultVar:=match P.funcs[g]? with|some f=>f.results.toList|none=>[]
def ie(P:Program)(g:FuncId):Nat:=match P.funcs[g]? with|some f=>f.ntmps|none=>0
def Lq(T:Tld):Nat→FuncId→Orc
 |0,_=>{ p:=λ_ _=>none,l:=λ_ _ _=>none,z:=λg=>(lk T.pz g).getD [] }
 |n+1,h =>
  {p:=λg args=>match T.at g with
    |some a=>cond (Nat.ble args.length (ie T.P g)) (Jl T.P (Lq T n g) a (body T.P g) (PF T.P a.sh (UA T.P g)) (Jy args) [] ()) none
    |none=>T.xt g args
   l:=λt f K=>match T.at h with
    |some a=>match VW t (body T.P h),lk a.lp t with
     |some c,some la=>run (λs=>Jl T.P (Lq T n h) a c (Nf a.ak la a.rt) s.1 s.2 ()) (f,K)
     |_,_=>none
    |none=>none
   s:=T.st
   q:=T.qt
   w:=T.wt
   a:=λg K args=>match T.at g with
    |some a=>cond (a.wr&&(Nat.beq K.length a.ak.length&&Nat.ble args.length (ie T.P g))) (Jl T.P (Lq T n g) a (body T.P g) (T2 T.P a.ak a.nr (ie T.P g) (UA T.P g)) (Jy args) K ()) none
    |none=>none
   z:=λg=>(lk T.pz g).getD []
   v:=T.vt
   m:=λg K args=>match T.at g with
    |some a=>cond (Nat.ble args.length (ie T.P g)) (Jl T.P (Lq T n g) a (body T.P g) (PF T.P a.sh (UA T.P g)) (Jy args) K ()) none
    |none=>T.mt g K args }
def CP(T:Tld)(n:Nat)(g:FuncId)(args:List AV):Option AV:=(Lq T n 0).p g args
def CA(T:Tld)(n:Nat)(g:FuncId)(K:KS)(args:List AV):Option (AV×KS):=(Lq T n 0).a g K args
def CM(T:Tld)(n:Nat)(g:FuncId)(K:KS)(args:List AV):Option AV:=(Lq T n 0).m g K args
def LP(T:Tld)(n:Nat)(h:FuncId)(t:Nat)(f:Fr)(K:KS):Option (XE×Fr×KS):=(Lq T n h).l t f K
end Go.Proofs.YtfhnbabcbhgffaaGreatDoor.Am
