import Derived.Test.YtonidbheohhgdaaGreatPz3
import Derived.Test.YtonidbheohhgdaaGreatPz5
import Derived.Test.YtonidbheohhgdaaGreatPz4
namespace Go.Proofs.YtonidbheohhgdaaGreat
open Go
set_option linter.unusedVariables false
set_option linter.unusedSimpArgs false
theorem QhE(c:l1Cur)(i:Int)(h:okC c):∃c' x,Qab c i=some (c',x)∧okC c'∧Z5 x∧x.Kind=1:=by
 obtain⟨c1,x1,e1,k1⟩:=Qun c i h;obtain⟨c2,x2,e2,k2,_⟩:=Ql c1 12 k1;obtain⟨c3,x3,e3,k3,_⟩:=QaR c2 [0,900,5000,5001,60000] k2 (by simp)
 obtain⟨c4,x4,e4,k4,_⟩:=Ql c3 3 k3;obtain⟨c5,x5,e5,k5,_⟩:=Ql c4 3 k4;exact⟨c5,_,by unfold Qab;simp only[e1,e2,e3,e4,e5,Option.bind_some];rfl,k5,by simp[Z5],rfl⟩
theorem Qvi(c:l1Cur)(h:okC c):∃c' x,QcY c=some (c',x)∧okC c'∧Z5 x:=by
 obtain⟨c1,x1,e1,k1,_⟩:=QaR c [1,2,2,3,3,3,3,4,4,5,6,7] h (by simp)
 obtain⟨c2,x2,e2,k2,_⟩:=Ql c1 4 k1;obtain⟨c3,x3,e3,k3,_⟩:=Ql c2 5 k2;obtain⟨c4,x4,e4,k4,_⟩:=Ql c3 3 k3;obtain⟨c5,x5,e5,k5,_⟩:=Ql c4 6 k4;obtain⟨c6,x6,e6,k6,s6,_⟩:=QhE c5 (w64 (2*(w64 (1+x5)))) k5;obtain⟨c7,x7,e7,k7,_⟩:=Ql c4 3 k4;obtain⟨c8,x8,e8,k8,n8⟩:=Quh c4 k4;obtain⟨c9,x9,e9,k9,_⟩:=QaR c4 [1,24,2160,4320] k4 (by simp)
 unfold QcY;simp only[e1,e2,e3,e4,e5,e6,e7,e8,e9,Option.bind_some];cases decide (x1=1)with
 |true=>exact⟨_,_,rfl,k6,s6⟩
 |false =>
 cases decide (x1=3)with
 |true=>exact⟨_,_,rfl,k7,by simp[Z5]⟩
 |false =>
 cases decide (x1=5)with
 |true=>exact⟨_,_,rfl,k8,by simp[Z5];omega⟩
 |false =>
 cases decide (x1=7)with
 |true=>exact⟨_,_,rfl,k9,by simp[Z5]⟩
 |false=>exact⟨_,_,rfl,k4,by simp[Z5]⟩
theorem Qmp(c:l1Cur)(n:Int)(h:okC c)(hn:n≤1000):∃c' l,Qa1 c n=some (c',l)∧okC c'∧l.length≤2000∧(∀x∈l,Z5 x)∧∃a b t,l=a::b::t∧a.Kind=1∧b.Kind=1:=by
 have key:∀(m:Nat) (c:l1Cur) (l:List Event),okC c→l.length+m≤2000→(∀x∈l,Z5 x)→∃c' l',run Zj (c,l,(m:Int))=some (c',l')∧okC c'∧l'.length≤2000∧(∀x∈l',Z5 x)∧∃t,l'=l++t:=by
  intro m
  induction m with
  |zero =>
   intro c l hc hl hx;exact⟨c,l,by rw[Qg];simp only[Zj,show decide ((0:Int)<((0:Nat):Int))=false from rfl,cond_false,Option.bind_some],hc,by omega,hx,[],by simp⟩
  |succ m ih =>
   intro c l hc hl hx;obtain⟨c1,x1,e1,k1,s1⟩:=Qvi c hc;obtain⟨c',l',r1,r2,r3,r4,t,r5⟩:=ih c1 (l++[x1]) k1 (by simp;omega) (fun x hx'=>by
    rcases List.mem_append.1 hx' with hx'|hx'
    ·exact hx x hx'
    ·rw[List.mem_singleton.1 hx'];exact s1)
   refine⟨c',l',?_,r2,r3,r4,x1::t,by rw[r5];simp⟩
   rw[Qg];simp only[Zj,decide_eq_true (show(0:Int)<((m+1:Nat):Int)by omega),e1,cond_true,Option.bind_some,QR (show l.length+1≤2000000 by omega) (show 144≤1024 by omega),Qa,show w64 (((m+1:Nat):Int)-1)=(m:Int)from by rw[QS]<;>omega]
   exact r1
 obtain⟨c1,x1,e1,k1,s1,q1⟩:=QhE c 2 h;obtain⟨c2,x2,e2,k2,s2,q2⟩:=QhE c1 4 k1;obtain⟨c3,x3,e3,k3,l3,u3⟩:=Ql c2 n k2;have hx3:x3<1000:=by
  by_cases h0:0<n
  ·have:=u3 h0;omega
  ·unfold Qf at e3
   rw[decide_eq_true (show n≤0 by omega)]at e3
   injection e3 with e3;injection e3 with _ e3
   omega
 obtain⟨k,rfl⟩:∃k:Nat,x3=(k:Int):=⟨x3.toNat,by omega⟩
 obtain⟨c',l',r1,r2,r3,r4,t,r5⟩:=key k c3 [x1,x2,(⟨7,⟨⟨0,0,0,0,0⟩,0,0,0⟩,[],0,0,5,[]⟩:Event)] k3 (by simp;omega) (by
  intro x hx;simp only[List.mem_cons,List.not_mem_nil,or_false]at hx
  rcases hx with rfl|rfl|rfl
  ·exact s1
  ·exact s2
  ·simp[Z5])
 exact⟨c',l',by unfold Qa1;simp only[e1,e2,e3,Option.bind_some];rw[r1];rfl,r2,r3,r4,x1,x2,(⟨7,⟨⟨0,0,0,0,0⟩,0,0,0⟩,[],0,0,5,[]⟩:Event)::t,r5,q1,q2⟩
end Go.Proofs.YtonidbheohhgdaaGreat
namespace Go.Proofs.YtonidbheohhgdaaGreat
open Go
set_option linter.unusedVariables false
set_option linter.unusedSimpArgs false
def Q(a:House)(r:House×Bool):Prop:=(r.2=true→QJ a=some true∧QJ r.1=some true)∧(r.2=false→r.1=a)
def Qd(a:House)(x:Option (House×Bool)):Prop:=∀r,x=some r→Q a r
theorem Qd.bind{A:Type}{a:House}{o:Option A}{k:A→Option (House×Bool)}(h:∀y,Qd a (k y)):Qd a (o.bind k):=fun r hr=>by
 obtain⟨y,_,hy⟩:=Option.bind_eq_some_iff.1 hr;exact h y r hy
theorem Qd.cond{a:House}{b:Bool}{x y:Option (House×Bool)}(hx:Qd a x)(hy:Qd a y):Qd a (bif b then x else y):=by
 cases b with
 |true=>exact hx
 |false=>exact hy
theorem Qd.nd{a:House}{b:Bool}{x:Option (House×Bool)}(hx:Qd a x):Qd a (nd b<|x):=by
 cases b with
 |true=>exact hx
 |false=>intro r hr;cases hr
theorem Qd.none{a:House}:Qd a none:=fun r hr=>by cases hr
theorem Qd.self{a:House}:Qd a (some (a,false)):=fun r hr=>by
 injection hr with hr;subst hr
 exact⟨fun h=>(by cases h),fun _=>rfl⟩
theorem Qd.done{a o:House}{o2:Bool}(hm:Qi a):Qd a ((Qk a o o2).bind fun r=>some (r.1,r.2)):=fun r hr=>by
 obtain⟨y,hy,e⟩:=Option.bind_eq_some_iff.1 hr;injection e with e;subst e
 unfold Qk at hy;obtain⟨b,hb,hy⟩:=Option.bind_eq_some_iff.1 hy;cases b with
 |true =>
  rw[XA a hm]at hy;simp only[cond_true,Option.bind_some]at hy;injection hy with hy;subst hy
  exact⟨fun h=>(by cases h),fun _=>rfl⟩
 |false =>
  simp only[cond_false]at hy;injection hy with hy;subst hy
  refine⟨fun _=>?_,fun h=>(by cases h)⟩
  cases o2 with
  |false=>cases hb
  |true =>
   simp only[Bool.not_true,cond_false]at hb;obtain⟨r1,h1,hb⟩:=Option.bind_eq_some_iff.1 hb;cases r1 with
   |false=>cases hb
   |true =>
    simp only[Bool.not_true,cond_false]at hb;obtain⟨r2,h2,hb⟩:=Option.bind_eq_some_iff.1 hb;cases r2 with
    |false=>cases hb
    |true=>exact⟨h1,h2⟩
theorem QuG(a:House)(f:Find)(m:List Mark)(s:Int)(hm:Qi a):Qd a (ZG a f m s):=by
 unfold ZG;simp only[XA a hm,Option.bind_some]
 repeat (first|exact Qd.done hm|exact Qd.self|refine Qd.bind fun _=>?_|refine Qd.nd ?_|refine Qd.cond ?_ ?_|exact Qd.none)
theorem QrC(a:House)(x y z:Int)(hm:Qi a):Qd a (Jf a x y z):=by
 unfold Jf;simp only[XA a hm,Option.bind_some]
 repeat (first|exact Qd.done hm|exact Qd.self|refine Qd.bind fun _=>?_|refine Qd.nd ?_|refine Qd.cond ?_ ?_|exact Qd.none)
theorem QpW(a:House)(x y:Int)(hm:Qi a):Qd a (JD a x y):=by
 unfold JD;simp only[XA a hm,Option.bind_some]
 repeat (first|exact Qd.done hm|exact Qd.self|refine Qd.bind fun _=>?_|refine Qd.nd ?_|refine Qd.cond ?_ ?_|exact Qd.none)
theorem QrX(a:House)(x:Int)(hm:Qi a):Qd a (Zc a x):=by
 unfold Zc;simp only[XA a hm,Option.bind_some]
 repeat (first|exact Qd.done hm|exact Qd.self|refine Qd.bind fun _=>?_|refine Qd.nd ?_|refine Qd.cond ?_ ?_|exact Qd.none)
theorem Quz(a:House)(x:Int)(l:List Bid)(hm:Qi a):Qd a (ZM a x l):=by
 unfold ZM;simp only[XA a hm,Option.bind_some]
 repeat (first|exact Qd.done hm|exact Qd.self|refine Qd.bind fun _=>?_|refine Qd.nd ?_|refine Qd.cond ?_ ?_|exact Qd.none)
theorem Qro(a:House)(x:Int)(hm:Qi a):Qd a (J7 a x):=by
 unfold J7;simp only[XA a hm,Option.bind_some]
 repeat (first|exact Qd.done hm|exact Qd.self|refine Qd.bind fun _=>?_|refine Qd.nd ?_|refine Qd.cond ?_ ?_|exact Qd.none)
theorem Qvj(a:House)(x:Int)(hm:Qi a):Qd a (ZL a x):=by
 unfold ZL;simp only[XA a hm,Option.bind_some]
 repeat (first|exact Qd.done hm|exact Qd.self|refine Qd.bind fun _=>?_|refine Qd.nd ?_|refine Qd.cond ?_ ?_|exact Qd.none)
end Go.Proofs.YtonidbheohhgdaaGreat
namespace Go.Proofs.YtonidbheohhgdaaGreat
open Go
set_option linter.unusedVariables false
set_option linter.unusedSimpArgs false
theorem Qd.pair{a:House}{o:Option (House×Bool)}(h:Qd a o):Qd a (o.bind fun r=>some (r.1,r.2)):=fun r hr=>by
 obtain⟨y,hy,e⟩:=Option.bind_eq_some_iff.1 hr;injection e with e;subst e
 exact h y hy
theorem Qpw(a:House)(e:Event)(hm:Qi a):Qd a (XN a e):=by
 unfold XN;simp only[XA a hm,Option.bind_some];exact Qd.cond (QuG a _ _ _ hm).pair (Qd.cond (QrC a _ _ _ hm).pair (Qd.cond (QpW a _ _ hm).pair (Qd.cond (QrX a _ hm).pair (Qd.cond (Quz a _ _ hm).pair (Qd.cond (Qro a _ hm).pair (Qd.cond (Qvj a _ hm).pair Qd.self))))))
theorem Qpe(a:House)(e:Event)(hm:Qi a)(hv:QJ a=some true){r:House×Bool}(h:XN a e=some r):QJ r.1=some true:=by
 obtain⟨h1,h2⟩:=Qpw a e hm r h;cases hb:r.2 with
 |true=>exact(h1 hb).2
 |false=>rw[h2 hb];exact hv
end Go.Proofs.YtonidbheohhgdaaGreat
namespace Go.Proofs.YtonidbheohhgdaaGreat
open Go
set_option linter.unusedVariables false
set_option linter.unusedSimpArgs false
theorem QnT(c:l1Cur)(a:Int)(h:okC c):∃c' b,XS c a=some (c',b)∧okC c':=by
 obtain⟨c1,x1,e1,k1,_⟩:=Ql c a h;exact⟨c1,_,by unfold XS;rw[e1];rfl,k1⟩
theorem QB2(c:l1Cur)(h:okC c):∃c' x,QbI c=some (c',x)∧okC c':=by
 obtain⟨c1,x1,e1,k1,_⟩:=QaR c [(-1),0,8,50,51,1000,9223372036854775807,(-9223372036854775808)] h (by simp)
 exact⟨c1,x1,by unfold QbI;rw[e1];rfl,k1⟩
theorem Qw0(c:l1Cur)(l a r:Int)(h:okC c)(h1:0≤l)(h2:a≤100):∃c' o,QbR c l a r=some (c',o)∧okC c'∧o.length≤1000:=by
 have key:∀(m:Nat) (c:l1Cur) (o:List Int) (i:Int),okC c→(i+(m:Int)=a+1∨m=0∧a<i)→0≤i→o.length+m≤1000→∃c' o',run (ZR a r) (c,o,i)=some (c',o')∧okC c'∧o'.length≤1000:=by
  intro m
  induction m with
  |zero =>
   intro c o i hc hi h0 hl;refine⟨c,o,?_,hc,by omega⟩
   rw[Qg];simp only[ZR,decide_eq_false (show ¬i≤a by omega),cond_false];rfl
  |succ m ih =>
   intro c o i hc hi h0 hl;obtain⟨c1,b,e1,k1⟩:=QnT c r hc;rw[Qg];simp only[ZR,decide_eq_true (show i≤a by omega),cond_true,e1,Option.bind_some,QR (show o.length+1≤2000000 by omega) (show 8≤1024 by omega),Qa,show w64 (i+1)=i+1 from QS (by omega) (by omega)]
   cases b with
   |true=>exact ih c1 _ (i+1) k1 (by omega) (by omega) (by simp;omega)
   |false=>exact ih c1 _ (i+1) k1 (by omega) (by omega) (by omega)
 obtain⟨c',o,q1,q2,q3⟩:=key (a+1-l).toNat c [] l h (by omega) h1 (by simp;omega)
 exact⟨c',o,by unfold QbR;rw[q1];rfl,q2,q3⟩
theorem Qwt(c:l1Cur)(h:okC c):∃c' x,QbY c=some (c',x)∧okC c':=by
 obtain⟨c1,x1,e1,k1,_⟩:=Ql c 60 h;obtain⟨c2,x2,e2,k2,_⟩:=Ql c1 30 k1;exact⟨c2,_,by unfold QbY;simp only[e1,e2,Option.bind_some];rfl,k2⟩
theorem QuH(c:l1Cur)(h:okC c):∃c' x,QdJ c=some (c',x)∧okC c':=by
 obtain⟨c1,x1,e1,k1⟩:=Qwt c h;obtain⟨c2,x2,e2,k2,_⟩:=Ql c1 10 k1;obtain⟨c3,x3,e3,k3⟩:=QB2 c2 k2;obtain⟨c4,x4,e4,k4,_⟩:=QaR c2 [(-1),0,100000,100001] k2 (by simp)
 unfold QdJ;simp only[e1,e2,e3,e4,Option.bind_some];cases decide (x2=0)with
 |true=>exact⟨_,_,rfl,k3⟩
 |false =>
 cases decide (x2=1)with
 |true=>exact⟨_,_,rfl,k4⟩
 |false=>exact⟨_,_,rfl,k2⟩
theorem Qqq(c:l1Cur)(i:Int)(h:okC c):∃c' r,QbX c i=some (c',r)∧okC c'∧Vs r:=by
 obtain⟨c1,x1,e1,k1,_⟩:=Ql c 12 h;obtain⟨c2,x2,e2,k2,_⟩:=Ql c1 8 k1;obtain⟨c3,x3,e3,k3,n3⟩:=Qw0 c2 0 7 3 k2 (by omega) (by omega)
 obtain⟨c4,x4,e4,k4,_⟩:=Ql c3 15 k3;obtain⟨c5,x5,e5,k5,n5⟩:=Qw0 c4 1 6 2 k4 (by omega) (by omega)
 obtain⟨c6,x6,e6,k6⟩:=Qwt c5 k5;exact⟨c6,_,by unfold QbX;simp only[e1,e2,e3,e4,e5,e6,Option.bind_some];rfl,k6,by simp only;omega,by simp only;omega⟩
theorem QpH(c:l1Cur)(h:okC c):∃c' r,QdO c=some (c',r)∧okC c'∧Vs r:=by
 obtain⟨c1,x1,e1,k1,_⟩:=Ql c 9 h;obtain⟨c2,r,e2,k2,m1,m2⟩:=Qqq c1 (w64 (1+x1)) k1;obtain⟨c3,x3,e3,k3,_⟩:=Ql c2 14 k2;obtain⟨c4,x4,e4,k4,_⟩:=QaR c3 [0,999,1000] k3 (by simp)
 obtain⟨c5,x5,e5,k5,_⟩:=QaR c3 [0,8,9] k3 (by simp)
 obtain⟨c6,x6,e6,k6,_⟩:=QaR c3 [(-1),3,8] k3 (by simp)
 obtain⟨c7,x7,e7,k7⟩:=QB2 c3 k3;obtain⟨c9,x9,e9,k9,_⟩:=QaR c3 [0,30,31] k3 (by simp)
 obtain⟨c10,x10,e10,k10⟩:=QuH c3 k3;unfold QdO;simp only[e1,e2,e3,e4,e5,e6,e7,e9,e10,Option.bind_some];cases decide (x3=0)with
 |true=>exact⟨_,_,rfl,k4,m1,m2⟩
 |false =>
 cases decide (x3=1)with
 |true=>exact⟨_,_,rfl,k5,m1,m2⟩
 |false =>
 cases decide (x3=2)with
 |true=>exact⟨_,_,rfl,k6,by simp,m2⟩
 |false =>
 cases decide (x3=3)with
 |true=>exact⟨_,_,rfl,k7,m1,m2⟩
 |false =>
 cases decide (x3=4)with
 |true=>exact⟨_,_,rfl,k7,m1,m2⟩
 |false =>
 cases decide (x3=5)with
 |true=>exact⟨_,_,rfl,k9,m1,by simp⟩
 |false =>
 cases decide (x3=6)with
 |true=>exact⟨_,_,rfl,k10,m1,m2⟩
 |false =>
 cases decide (x3=7)with
 |true=>exact⟨_,_,rfl,k3,by simp,by simp⟩
 |false=>exact⟨_,_,rfl,k3,m1,m2⟩
theorem QH0(a b:Int):∃x,Qc0 a b=some x:=by unfold Qc0;cases decide (a<b)<;>exact⟨_,rfl⟩
theorem QNl(a b:Int):∃x,Qbr a b=some x:=by unfold Qbr;cases decide (b<a)<;>exact⟨_,rfl⟩
def Rp(o:Option (l1Cur×Report)):Prop:=∃c r,o=some (c,r)∧okC c∧Vs r
theorem Rp.some{c:l1Cur}{r:Report}(h:okC c)(h2:Vs r):Rp (some (c,r)):=⟨c,r,rfl,h,h2⟩
theorem Rp.cond{b:Bool}{x y:Option (l1Cur×Report)}(hx:Rp x)(hy:Rp y):Rp (bif b then x else y):=by cases b<;>assumption
theorem Rp.once{c:l1Cur}{a:Int}{k:l1Cur×Bool→Option (l1Cur×Report)}(h:okC c)(hk:∀c' b,okC c'→Rp (k (c',b))):Rp ((XS c a).bind k):=by
 obtain⟨c1,b,e1,k1⟩:=QnT c a h;rw[e1];exact hk c1 b k1
theorem Rp.below{c:l1Cur}{a:Int}{k:l1Cur×Int→Option (l1Cur×Report)}(h:okC c)(hk:∀c' b,okC c'→Rp (k (c',b))):Rp ((Qf c a).bind k):=by
 obtain⟨c1,b,e1,k1,_⟩:=Ql c a h;rw[e1];exact hk c1 b k1
theorem Rp.max{a b:Int}{k:Int→Option (l1Cur×Report)}(hk:∀x,Rp (k x)):Rp ((Qc0 a b).bind k):=by
 obtain⟨x,e⟩:=QH0 a b;rw[e];exact hk x
theorem Rp.min{a b:Int}{k:Int→Option (l1Cur×Report)}(hk:∀x,Rp (k x)):Rp ((Qbr a b).bind k):=by
 obtain⟨x,e⟩:=QNl a b;rw[e];exact hk x
theorem QIm(c:l1Cur)(f:Find)(i:Int)(h:okC c):∃c' r,QcK c f i=some (c',r)∧okC c'∧Vs r:=by
 obtain⟨c1,r,e1,k1,m1,m2⟩:=Qqq c i h;have m3:([f.Thing.Colour]:List Int).length≤1048576:=by simp
 have m4:([f.Place]:List Int).length≤1048576:=by simp
 show Rp (QcK c f i);unfold QcK;rw[e1,Option.bind_some];have j10:∀(c:l1Cur) (d k:Int) (co:List Int) (lo hi:Int) (pl:List Int) (fr un:Int),okC c→co.length≤1048576→pl.length≤1048576→Rp (Vy c f d k co lo hi pl fr un):=fun c d k co lo hi pl fr un hc h1 h2=>by
  unfold Vy;exact Rp.once hc fun _ _ q1=>Rp.cond (Rp.below q1 fun _ _ q2=>Rp.max fun _=>Rp.max fun _=>Rp.some q2 ⟨h1,h2⟩) (Rp.some q1 ⟨h1,h2⟩)
 have j8:∀(c:l1Cur) (d k:Int) (co:List Int) (lo hi:Int) (pl:List Int) (fr un:Int),okC c→co.length≤1048576→pl.length≤1048576→Rp (JO c f d k co lo hi pl fr un):=fun c d k co lo hi pl fr un hc h1 h2=>by
  unfold JO;exact Rp.once hc fun _ _ q1=>Rp.cond (j10 _ _ _ _ _ _ _ _ _ q1 h1 m4) (j10 _ _ _ _ _ _ _ _ _ q1 h1 h2)
 have j5:∀(c:l1Cur) (d k:Int) (co:List Int) (lo hi:Int) (pl:List Int) (fr un:Int),okC c→co.length≤1048576→pl.length≤1048576→Rp (JR c f d k co lo hi pl fr un):=fun c d k co lo hi pl fr un hc h1 h2=>by
  unfold JR;exact Rp.once hc fun _ _ q1=>Rp.cond (Rp.below q1 fun _ _ q2=>Rp.max fun _=>Rp.below q2 fun _ _ q3=>Rp.min fun _=>j8 _ _ _ _ _ _ _ _ _ q3 h1 h2) (j8 _ _ _ _ _ _ _ _ _ q1 h1 h2)
 exact Rp.once k1 fun _ _ q1=>Rp.cond (j5 _ _ _ _ _ _ _ _ _ q1 m3 m2) (j5 _ _ _ _ _ _ _ _ _ q1 m1 m2)
def VH(a:House):Prop:=Qi a∧QJ a=some true
theorem QCH(h:House)(l:List Event)(hm:VH h)(hl:l.length≤1048576)(he:∀e∈l,Z5 e):∃r,Z4 h l=some r∧VH r:=by
 have key:∀(m i:Nat) (x:House),i+m=l.length→VH x→∃r,run (VY l) (x,(i:Int))=some r∧VH r:=by
  intro m
  induction m with
  |zero =>
   intro i x hi hx;refine⟨x,?_,hx⟩;rw[Qg];simp only[VY,Qv (show l.length≤i by omega),cond_false];rfl
  |succ m ih =>
   intro i x hi hx;have hlt:i<l.length:=by omega
   obtain⟨y,y1,_,y3⟩:=Qr5 x l[i] hx.1 (he _ (List.getElem_mem hlt));obtain⟨r,r1,r3⟩:=ih (i+1) y.1 (by omega) ⟨y3,Qpe x _ hx.1 hx.2 y1⟩
   refine⟨r,?_,r3⟩;rw[Qg];simp only[VY,Qr hlt,Qe hlt,Qn hlt,cond_true,Qa,y1,Option.bind_some,Qy (show(i:Int)<9223372036854775807 by omega)]
   exact r1
 obtain⟨r,r1,r3⟩:=key l.length 0 h (by omega) hm
 refine⟨r,?_,r3⟩;unfold Z4;rw[XA h hm.1];show(run (VY l) (h,0)).bind _=_;rw[show run (VY l) (h,0)=some r from r1];rfl
theorem Qx7(c:l1Cur)(h:okC c):∃c' a,Qb7 c=some (c',a)∧okC c'∧a.Finds.length≤1048576∧a.Slots.length≤1048576:=by
 obtain⟨c1,a1,e1,k1,s1,v1⟩:=Qkj c h;obtain⟨c2,l,e2,k2,n2,hx,_⟩:=Qmp c1 12 k1 (by omega)
 obtain⟨a,e3,⟨m1,m2,m3,m4,m5,m6,m7⟩,_⟩:=QCH a1 l ⟨s1,v1⟩ (by omega) hx
 obtain⟨c4,x4,e4,k4,_⟩:=Ql c2 10 k2;obtain⟨c5,x5,e5,k5,_⟩:=Ql c4 3 k4;obtain⟨r6,e6,_,q6⟩:=QnM a.Chain (⟨2,w64 (3+x5),9,a.Now,0⟩:Hand) m6;obtain⟨r7,e7,_,q7,_⟩:=QsA a.Slots 2 m3;obtain⟨r8,e8,_,q8⟩:=QlM a.Book (⟨0,3,99999,a.Now⟩:Entry) m7;unfold Qb7;simp only[e1,e2,e3,e4,e5,e6,e7,e8,Option.bind_some];cases decide (x4=0)with
 |true=>exact⟨_,_,rfl,k4,m1,m3⟩
 |false =>
 cases decide (x4=1)with
 |true=>exact⟨_,_,rfl,k4,m1,by simp⟩
 |false =>
 cases decide (x4=2)with
 |true=>exact⟨_,_,rfl,k5,m1,by simp only;omega⟩
 |false =>
 cases decide (x4=3)with
 |true=>exact⟨_,_,rfl,k4,m1,m3⟩
 |false=>exact⟨_,_,rfl,k4,m1,m3⟩
theorem QoZ(c:List Int)(h:c.length≤1048576):∃a s,JG c=some (a,s)∧a.Finds.length≤1048576∧a.Slots.length≤1048576:=by
 obtain⟨c1,e1,k1⟩:=Qlx c h;obtain⟨c2,a,e2,k2,m1,m2⟩:=Qx7 c1 k1;obtain⟨c3,x3,e3,_,_⟩:=Ql c2 9 k2;exact⟨a,x3,by unfold JG;simp only[e1,e2,e3,Option.bind_some],m1,m2⟩
theorem Qld(c:List Int)(h:c.length≤1048576):∃r l s,JZ c=some (r,l,s)∧Vs r∧0<l.length∧l.length≤10∧∀a∈l,VH a:=by
 obtain⟨c1,e1,k1⟩:=Qlx c h;obtain⟨c2,x2,e2,k2,l2,u2⟩:=Ql c1 2 k1;have u2:=u2 (by omega)
 have key:∀(m:Nat) (c':l1Cur) (l:List House),okC c'→l.length+m≤10→(∀a∈l,VH a)→∃c2 l',run (XH c) (c',l,(m:Int))=some (c2,l')∧okC c2∧l'.length=l.length+m∧∀a∈l',VH a:=by
  intro m
  induction m with
  |zero =>
   intro c' l hc hl hv;refine⟨c',l,?_,hc,rfl,hv⟩;rw[Qg];simp only[XH,decide_eq_false (show ¬(0:Int)<((0:Nat):Int)by omega),cond_false];rfl
  |succ m ih =>
   intro c' l hc hl hv;obtain⟨d1,a1,f1,j1,s1,v1⟩:=Qkj c' hc;obtain⟨d2,es,f2,j2,n2,hx,_⟩:=Qmp d1 4 j1 (by omega)
   obtain⟨a,f3,v3⟩:=QCH a1 es ⟨s1,v1⟩ (by omega) hx
   obtain⟨c2,l',q1,q2,q3,q4⟩:=ih d2 (l++[a]) j2 (by simp;omega) (fun x hx=>by
    rcases List.mem_append.1 hx with hx|hx
    ·exact hv x hx
    ·rw[List.mem_singleton]at hx;subst hx;exact v3)
   refine⟨c2,l',?_,q2,by rw[q3,List.length_append,List.length_singleton];omega,q4⟩
   rw[Qg];simp only[XH,decide_eq_true (show(0:Int)<((m+1:Nat):Int)by omega),cond_true,f1,f2,f3,Option.bind_some,QR (show l.length+1≤2000000 by omega) (show 184≤1024 by omega),Qa,show w64 (((m+1:Nat):Int)-1)=(m:Int)from by rw[QS]<;>omega]
   exact q1
 obtain⟨c3,l,q1,q2,q3,q4⟩:=key (1+x2).toNat c2 [] k2 (by simp;omega) (by simp)
 have ex:w64 (1+x2)=(((1+x2).toNat:Nat):Int):=by rw[QS]<;>omega
 simp only[List.length_nil]at q3;have h0:0<l.length:=by omega
 obtain⟨c4,r,e4,k4,m4⟩:=QpH c3 q2;obtain⟨c5,b5,e5,k5⟩:=QnT c4 4 k4;have i0:inb l 0=true:=Qe (i:=0) h0;unfold JZ;simp only[e1,e2,ex,q1,e4,e5,i0,Option.bind_some,Qa];obtain⟨c9,x9,e9,_,_⟩:=Ql c4 9 k4;by_cases hf:0<ln (gt l 0).Finds
 ·rw[decide_eq_true hf]
  obtain⟨c6,x6,e6,k6,l6,u6⟩:=Ql c5 (ln (gt l 0).Finds) k5;have u6:=u6 hf;have hi:inb (gt l 0).Finds x6=true:=by rw[Qb4];exact⟨l6,u6⟩
  obtain⟨c7,r7,e7,k7,m7⟩:=QIm c6 (gt (gt l 0).Finds x6) 5 k6;obtain⟨c8,x8,e8,_,_⟩:=Ql c7 9 k7;obtain⟨c10,x10,e10,_,_⟩:=Ql c5 9 k5;simp only[cond_true,e6,hi,e7,e8,e10,Qa,Option.bind_some];cases b5 with
  |false=>exact⟨r7,l,x8,rfl,m7,h0,by omega,q4⟩
  |true=>exact⟨r,l,x10,rfl,m4,h0,by omega,q4⟩
 ·rw[decide_eq_false hf]
  simp only[cond_false,e9,Option.bind_some];exact⟨r,l,x9,rfl,m4,h0,by omega,q4⟩
end Go.Proofs.YtonidbheohhgdaaGreat
