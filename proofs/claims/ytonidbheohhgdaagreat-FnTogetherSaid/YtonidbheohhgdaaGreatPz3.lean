import Derived.Test.YtonidbheohhgdaaGreatFn
import Derived.Test.YtonidbheohhgdaaGreatPl
import Derived.Test.YtonidbheohhgdaaGreatFam
import Derived.Test.YtonidbheohhgdaaGreatPz2
namespace Go.Proofs.YtonidbheohhgdaaGreat
open Go
set_option linter.unusedVariables false
set_option linter.unusedSimpArgs false
theorem QmY(a:Int)(m:Nat)(hm:m<9223372036854775808):∃x,QeC .and .i64 a (m:Int)=x∧0≤x∧x≤(m:Int):=by
 refine⟨_,rfl,?_⟩;have e:((m:Int)%2^IntKind.i64.bits).toNat=m:=by
  rw[show((2:Int)^IntKind.i64.bits)=18446744073709551616 from rfl];omega
 have h:=@Nat.and_le_right (a%2^IntKind.i64.bits).toNat m;unfold QeC;simp only[e,Qw4];rw[QS (by omega) (by omega)]
 omega
def okC(c:l1Cur):Prop:=c.b.length≤1048576∧0≤c.i∧c.i≤c.b.length
theorem Qlx(l:List Int)(hl:l.length≤1048576):∃c,QbN l=some c∧okC c:=by
 have key:∀(m k:Nat) (a:Int),k+m=l.length→∃r,run (JQ l) (a,(k:Int))=some r:=by
  intro m
  induction m with
  |zero =>
   intro k a hk;have:k=l.length:=by omega
   subst this;exact⟨a,by rw[Qg];simp only[JQ,Qv (Nat.le_refl _),Bool.false_and,cond_false,Option.bind_some]⟩
  |succ m ih =>
   intro k a hk;have hlt:k<l.length:=by omega
   cases h4:decide ((k:Int)<4000)with
   |false=>exact⟨a,by rw[Qg];simp only[JQ,h4,Bool.and_false,cond_false,Option.bind_some]⟩
   |true =>
    obtain⟨r,hr⟩:=ih (k+1) (QeC .and .i64 (w64 (w64 (w64 (a*137)+w64 (gt l (k:Int)))+11)) 1073741823) (by omega)
    exact⟨r,by rw[Qg];simp only[JQ,Qr hlt,h4,Bool.and_self,Qe hlt,cond_true,Qa,Qy (show(k:Int)<9223372036854775807 by omega),Option.bind_some];exact hr⟩
 obtain⟨r,hr⟩:=key l.length 0 (w64 (193017+ln l)) (by omega)
 refine⟨⟨l,0,r⟩,?_,hl,Int.le_refl _,by simp only;omega⟩
 unfold QbN;rw[show run (JQ l) (w64 (193017+ln l),0)=some r from hr];rfl
theorem QoM(a:Int):0≤QeC .and .i64 a 255∧QeC .and .i64 a 255≤255:=by
 obtain⟨x,e,h0,h1⟩:=QmY a 255 (by omega)
 rw[show((255:Nat):Int)=255 from rfl]at e h1;rw[e];exact⟨h0,h1⟩
theorem QgQ(c:l1Cur)(h:okC c):∃c' x,Z9 c=some (c',x)∧okC c'∧0≤x∧x≤255:=by
 obtain⟨h1,h2,h3⟩:=h;unfold Z9;by_cases hi:c.i<ln c.b
 ·have hb:inb c.b c.i=true:=by rw[Qb4];rw[VE]at hi;omega
  rw[VE]at hi;rw[decide_eq_true (show c.i<ln c.b from hi),hb];have e:w64 (c.i+1)=c.i+1:=QS (by omega) (by omega)
  refine⟨_,_,rfl,⟨h1,?_,?_⟩,(QoM _).1,(QoM _).2⟩
  ·show 0≤w64 (c.i+1)
   omega
  ·show w64 (c.i+1)≤(c.b.length:Int)
   omega
 ·rw[decide_eq_false hi]
  exact⟨_,_,rfl,⟨h1,h2,h3⟩,(QoM _).1,(QoM _).2⟩
theorem Qs7{x n:Int}(hx:0≤x)(hn:0<n):0≤x.tmod n∧x.tmod n<n:=⟨Int.tmod_nonneg _ hx,Int.tmod_lt_of_pos x hn⟩
theorem Ql(c:l1Cur)(n:Int)(h:okC c):∃c' x,Qf c n=some (c',x)∧okC c'∧0≤x∧(0<n→x<n):=by
 unfold Qf;by_cases h0:n≤0
 ·rw[decide_eq_true h0];exact⟨c,0,rfl,h,Int.le_refl _,fun hn=>by omega⟩
 ·have hz:(!decide (n=0))=true:=by simp;omega
  rw[decide_eq_false h0,hz];by_cases h1:n≤256
  ·rw[decide_eq_true h1]
   obtain⟨c1,x1,e1,k1,l1,u1⟩:=QgQ c h;have:=Qs7 l1 (show 0<n by omega)
   exact⟨c1,x1.tmod n,by simp only[e1,cond_false,cond_true,Option.bind_some,Qa],k1,this.1,fun _=>this.2⟩
  ·rw[decide_eq_false h1]
   obtain⟨c1,x1,e1,k1,l1,u1⟩:=QgQ c h;obtain⟨c2,x2,e2,k2,l2,u2⟩:=QgQ c1 k1;obtain⟨c3,x3,e3,k3,l3,u3⟩:=QgQ c2 k2;have e4:w64 (w64 (w64 (x1*65536)+w64 (x2*256))+x3)=x1*65536+x2*256+x3:=by
    rw[QS (n:=x1*65536) (by omega) (by omega),QS (n:=x2*256) (by omega) (by omega),QS (n:=x1*65536+x2*256) (by omega) (by omega),QS (by omega) (by omega)]
   have:=Qs7 (show 0≤x1*65536+x2*256+x3 by omega) (show 0<n by omega)
   exact⟨c3,(x1*65536+x2*256+x3).tmod n,by simp only[e1,e2,e3,e4,cond_false,Option.bind_some,Qa],k3,this.1,fun _=>this.2⟩
theorem QaR(c:l1Cur)(l:List Int)(h:okC c)(hl:0<l.length):∃c' x,Vh c l=some (c',x)∧okC c'∧x∈l:=by
 obtain⟨c1,x1,e1,k1,l1,u1⟩:=Ql c (ln l) h;have hlt:=u1 (by rw[VE];omega)
 rw[VE]at hlt;obtain⟨k,rfl⟩:∃k:Nat,x1=(k:Int):=⟨x1.toNat,by omega⟩
 have hi:k<l.length:=by omega
 refine⟨c1,l[k],?_,k1,List.getElem_mem hi⟩;unfold Vh;rw[e1];simp only[Option.bind_some,Qe hi,Qn hi,Qa]
end Go.Proofs.YtonidbheohhgdaaGreat
namespace Go.Proofs.YtonidbheohhgdaaGreat
open Go
set_option linter.unusedVariables false
set_option linter.unusedSimpArgs false
theorem Qu6(c:l1Cur)(i:Int)(h:okC c):∃c' x,QcZ c i=some (c',x)∧okC c'∧x.Id=i:=by
 obtain⟨c1,x1,e1,k1,_⟩:=Ql c 8 h;obtain⟨c2,x2,e2,k2,_⟩:=Ql c1 8 k1;obtain⟨c3,x3,e3,k3,_⟩:=Ql c2 20 k2;obtain⟨c4,x4,e4,k4,_⟩:=Ql c3 500 k3;exact⟨c4,_,by unfold QcZ;simp only[e1,e2,e3,e4,Option.bind_some];rfl,k4,rfl⟩
theorem Qun(c:l1Cur)(i:Int)(h:okC c):∃c' x,QcX c i=some (c',x)∧okC c':=by
 obtain⟨c1,x1,e1,k1,_⟩:=Qu6 c i h;obtain⟨c2,x2,e2,k2,_⟩:=Ql c1 6 k1;obtain⟨c3,x3,e3,k3,_⟩:=Ql c2 80 k2;obtain⟨c4,x4,e4,k4,_⟩:=Ql c3 5 k3;exact⟨c4,_,by unfold QcX;simp only[e1,e2,e3,e4,Option.bind_some];rfl,k4⟩
end Go.Proofs.YtonidbheohhgdaaGreat
namespace Go.Proofs.YtonidbheohhgdaaGreat
open Go
set_option linter.unusedVariables false
set_option linter.unusedSimpArgs false
theorem QtH{n:Nat}(p:Nat→Bool){step:Int→Option (Int⊕Int)}(h1:∀i,i<n→step (i:Int)=some (bif p i then .inl ((i+1:Nat):Int)else .inr (i:Int)))(h2:step (n:Int)=some (.inr (n:Int))):∃k:Nat,k≤n∧run step 0=some (k:Int):=by
 have key:∀(m i:Nat),i+m=n→∃k:Nat,k≤n∧run step (i:Int)=some (k:Int):=by
  intro m
  induction m with
  |zero =>
   intro i hi;have:i=n:=by omega
   subst this;exact⟨i,Nat.le_refl _,by rw[Qg,h2];rfl⟩
  |succ m ih =>
   intro i hi;cases hp:p i with
   |false=>exact⟨i,by omega,by rw[Qg,h1 i (by omega),hp];rfl⟩
   |true =>
    obtain⟨k,k1,k2⟩:=ih (i+1) (by omega)
    exact⟨k,k1,by rw[Qg,h1 i (by omega),hp];exact k2⟩
 exact key n 0 (by omega)
theorem QdG{α:Type}(l:List α)(k:Nat):cut l (k:Int) (ln l)=l.drop k:=by
 unfold cut ln;simp
theorem Qjg{k n:Nat}(h:k≤n):slB (k:Int) (n:Int) (n:Int)=true:=by unfold slB;simp;omega
theorem QiF{α:Type}(l:List α)(k:Nat)(x:α):(cut l 0 (k:Int)++[x])++cut l (k:Int) (ln l)=Vx l (k:Int) [x]:=by
 rw[Xx,QdG];simp[Vx]
theorem Qek{α:Type}(l:List α)(k:Nat)(hk:k≤l.length)(x:α):(Vx l (k:Int) [x]).length=l.length+1:=by
 simp[Vx];omega
theorem QkR{α:Type}(l:List α)(k:Nat)(hk:k≤l.length)(x:α)(b:Nat)(hl:l.length≤1048576)(hb:b≤1024):Qup l (k:Int) [x] b=true:=by
 unfold Qup;have:(l.length+1)*b≤1048577*1024:=Nat.mul_le_mul (by omega) hb
 simp;omega
theorem QrQ{α:Type}(l:List α)(k:Nat)(hk:k≤l.length)(x:α):(Vx l (k:Int) [x])[k]?=some x:=by
 simp[Vx,List.getElem?_append,Nat.min_eq_left hk]
theorem Qto{α:Type}(l:List α)(k:Nat)(hk:k≤l.length)(x:α)(j:Nat)(hj:j<l.length):(Vx l (k:Int) [x])[if j<k then j else j+1]?=some l[j]:=by
 by_cases h:j<k
 ·rw[if_pos h];simp[Vx,List.getElem?_append,Nat.min_eq_left hk,h]
 ·rw[if_neg h]
  simp only[Vx,Int.toNat_natCast,List.singleton_append];rw[List.getElem?_append_right (by simp;omega)]
  simp only[List.length_take,Nat.min_eq_left hk];rw[show j+1-k=(j-k)+1 by omega,List.getElem?_cons_succ,List.getElem?_drop,show k+(j-k)=j by omega,List.getElem?_eq_getElem hj]
theorem Qn8{α:Type}[Inhabited α](key:α→Int)(l:List α)(k:Nat)(hk:k≤l.length)(x:α)(up:∀i (hi:i<(Vx l (k:Int) [x]).length) (h0:0<i),key ((Vx l (k:Int) [x])[i-1]'(by omega))<key (Vx l (k:Int) [x])[i])(j:Nat)(hj:j<l.length)(he:key l[j]=key x):False:=by
 have hlen:=Qek l k hk x;have hu:=QtG (n:=(Vx l (k:Int) [x]).length) (fun i=>key (gt (Vx l (k:Int) [x]) (i:Int))) (fun i h1 h2=>by
  show key (gt (Vx l (k:Int) [x]) ((i-1:Nat):Int))<key (gt (Vx l (k:Int) [x]) (i:Int));rw[Qn h1,Qn (show i-1<(Vx l (k:Int) [x]).length by omega)];exact up i h1 h2)
 have g1:gt (Vx l (k:Int) [x]) (k:Int)=x:=by
  have hlt:k<(Vx l (k:Int) [x]).length:=by omega
  rw[Qn hlt];have:=QrQ l k hk x;rw[List.getElem?_eq_getElem hlt]at this;exact Option.some.inj this
 have hidx:(if j<k then j else j+1)<(Vx l (k:Int) [x]).length:=by split<;>omega
 have g2:gt (Vx l (k:Int) [x]) ((if j<k then j else j+1:Nat):Int)=l[j]:=by
  rw[Qn hidx];have:=Qto l k hk x j hj;rw[List.getElem?_eq_getElem hidx]at this;exact Option.some.inj this
 by_cases h:j<k
 ·have:=hu k (if j<k then j else j+1) (by rw[if_pos h];exact h) (by omega)
  simp only[g1,g2]at this;omega
 ·have:=hu (if j<k then j else j+1) k (by rw[if_neg h];omega) hidx
  simp only[g1,g2]at this;omega
end Go.Proofs.YtonidbheohhgdaaGreat
namespace Go.Proofs.YtonidbheohhgdaaGreat
open Go
set_option linter.unusedVariables false
set_option linter.unusedSimpArgs false
def QdW(out:List Bid)(c:Int):Nat→Nat
 |0=>0
 |n+1=>bif decide ((gt out (n:Int)).Cents<c)then QdW out c n else n+1
theorem QoF(out:List Bid)(c:Int):∀n,QdW out c n≤n
 |0=>Nat.le_refl _
 |n+1=>by
  have:=QoF out c n;unfold QdW;cases decide ((gt out (n:Int)).Cents<c)<;>simp<;>omega
def X7(l:List Bid):Nat→List Bid
 |0=>[]
 |i+1=>Vx (X7 l i) ((QdW (X7 l i) (gt l (i:Int)).Cents i:Nat):Int) [gt l (i:Int)]
theorem Qeo(l:List Bid):∀i,(X7 l i).length=i
 |0=>rfl
 |i+1=>by
  have h:=Qeo l i;unfold X7;rw[Qek _ _ (by rw[h];exact QoF _ _ _),h]
theorem Qtx{i:Nat}(h:(i:Int)<9223372036854775807):w64 (((i+1:Nat):Int)-1)=(i:Int):=by rw[QS]<;>omega
theorem Que(l:List Bid)(hl:l.length≤1048576):QaQ l=some (X7 l l.length):=by
 have inner:∀(out:List Bid) (i:Nat) (hi:i<l.length) (ho:out.length≤1048576) (n:Nat),n≤out.length→run (Ju l out (i:Int)) (n:Int)=some ((QdW out (gt l (i:Int)).Cents n:Nat):Int):=by
  intro out i hi ho n
  induction n with
  |zero =>
   intro _;rw[Qg];simp only[Ju,show decide (0<((0:Nat):Int))=false from rfl,cond_false,Option.bind_some,QdW]
  |succ n ih =>
   intro hn;rw[Qg];simp only[Ju,show decide (0<((n+1:Nat):Int))=true from decide_eq_true (by omega),cond_true,Qtx (show(n:Int)<9223372036854775807 by omega),Qe (show n<out.length by omega),Qe hi,Qa,Option.bind_some,QdW]
   cases decide ((gt out (n:Int)).Cents<(gt l (i:Int)).Cents)with
   |true=>simp only[cond_true];exact ih (by omega)
   |false=>rfl
 have hr:=Xt (step:=Xu l) (fun i=>(X7 l i,(i:Int))) (r:=X7 l l.length) l.length (fun i hi=>by
   have hlen:=Qeo l i;have hp:=QoF (X7 l i) (gt l (i:Int)).Cents i;have hin:=inner (X7 l i) i hi (by omega) (X7 l i).length (Nat.le_refl _)
   rw[hlen]at hin;have hln:ln (X7 l i)=((i:Nat):Int):=by rw[VE,hlen]
   have e1:slB 0 ((QdW (X7 l i) (gt l (i:Int)).Cents i:Nat):Int) (i:Int)=true:=Qfi hp;have e2:slB ((QdW (X7 l i) (gt l (i:Int)).Cents i:Nat):Int) (i:Int) (i:Int)=true:=Qjg hp;have c1:(cut (X7 l i) 0 ((QdW (X7 l i) (gt l (i:Int)).Cents i:Nat):Int)).length=QdW (X7 l i) (gt l (i:Int)).Cents i:=by rw[Xx,List.length_take,hlen];omega
   have c3:(cut (X7 l i) ((QdW (X7 l i) (gt l (i:Int)).Cents i:Nat):Int) (i:Int)).length=i-QdW (X7 l i) (gt l (i:Int)).Cents i:=by rw[←hln,QdG,List.length_drop,hlen]
   simp only[Xu,Qr hi,cond_true,hln,hin,Option.bind_some,e1,e2,Qa,Qe hi,QR (show 0+(cut (X7 l i) 0 ((QdW (X7 l i) (gt l (i:Int)).Cents i:Nat):Int)).length≤2000000 by omega) (show 24≤1024 by omega),QR (show(cut (X7 l i) 0 ((QdW (X7 l i) (gt l (i:Int)).Cents i:Nat):Int)).length+1≤2000000 by omega) (show 24≤1024 by omega),
    QR (show(cut (X7 l i) 0 ((QdW (X7 l i) (gt l (i:Int)).Cents i:Nat):Int)).length+1+(cut (X7 l i) ((QdW (X7 l i) (gt l (i:Int)).Cents i:Nat):Int) (i:Int)).length≤2000000 by omega) (show 24≤1024 by omega),Qy (show(i:Int)<9223372036854775807 by omega)]
   rw[←hln,QiF,hln];rfl)
  (by simp only[Xu,Qv (Nat.le_refl _),cond_false])
 unfold QaQ;rw[show run (Xu l) ([],0)=some (X7 l l.length)from hr];rfl
theorem Qwu(x y:Bid):∃c,Qcl x y=some c∧decide (c<0)=decide (y.Cents<x.Cents):=by
 unfold Qcl QfB QeA;simp only[decide_true,Bool.not_true,Option.bind_some,cond_false];by_cases h:y.Cents<x.Cents
 ·rw[decide_eq_true h];exact⟨-1,rfl,rfl⟩
 ·rw[decide_eq_false h]
  by_cases h':x.Cents<y.Cents
  ·rw[decide_eq_true h'];exact⟨1,rfl,rfl⟩
  ·rw[decide_eq_false h'];exact⟨0,rfl,rfl⟩
theorem Qwp{p q:List Bid}{x:Bid}:gt (p++x::q) (p.length:Int)=x:=by
 rw[Qn (by simp)];simp
theorem QQ7(b i:Int)(p q:List Bid)(x:Bid)(hp:p.length≤1048576):∀j,j≤p.length→run (QA 0 b i) (p.take j++x::(p.drop j++q),(j:Int))=some (Vx p ((QdW p x.Cents j:Nat):Int) [x]++q):=by
 intro j
 induction j with
 |zero =>
  intro _;rw[Qg];simp only[QA,show decide (0<((0:Nat):Int))=false from rfl,cond_false,Option.bind_some,QdW];simp[Vx]
 |succ j ih =>
  intro hj;have hlt:j<p.length:=by omega
  have hl1:(p.take (j+1)).length=j+1:=by rw[List.length_take];omega
  have hs:p.take (j+1)++x::(p.drop (j+1)++q)=p.take j++p[j]::(x::(p.drop (j+1)++q)):=by
   rw[List.take_succ_eq_append_getElem hlt,List.append_assoc];rfl
  have g1:gt (p.take (j+1)++x::(p.drop (j+1)++q)) ((j+1:Nat):Int)=x:=by
   have:=Qwp (p:=p.take (j+1)) (q:=p.drop (j+1)++q) (x:=x);rw[hl1]at this;exact this
  have hl0:(p.take j).length=j:=by rw[List.length_take];omega
  have g0:gt (p.take (j+1)++x::(p.drop (j+1)++q)) (j:Int)=p[j]:=by
   rw[hs];have:=Qwp (p:=p.take j) (q:=x::(p.drop (j+1)++q)) (x:=p[j]);rw[hl0]at this;exact this
  have hlen:(p.take (j+1)++x::(p.drop (j+1)++q)).length=p.length+1+q.length:=by simp;omega
  obtain⟨c,c1,c2⟩:=Qwu x p[j];rw[Qg];simp only[QA,show decide (0<((j+1:Nat):Int))=true from decide_eq_true (by omega),cond_true,Qtx (show(j:Int)<9223372036854775807 by omega),Qe (show j+1<(p.take (j+1)++x::(p.drop (j+1)++q)).length by omega),Qe (show j<(p.take (j+1)++x::(p.drop (j+1)++q)).length by omega),Qa,g0,g1,c1,Option.bind_some,c2,QdW,Qn hlt]
  cases decide (p[j].Cents<x.Cents)with
  |false =>
   simp only[cond_false];congr 1;simp[Vx]
  |true =>
   simp only[cond_true,Int.toNat_natCast];have he:((p.take (j+1)++x::(p.drop (j+1)++q)).set (j+1) p[j]).set j x=p.take j++x::(p.drop j++q):=by
    rw[hs,List.set_append_right _ _ (by omega),List.set_append_right _ _ (by omega),hl0]
    simp only[Nat.add_sub_cancel_left,Nat.sub_self,List.set_cons_succ,List.set_cons_zero];rw[List.drop_eq_getElem_cons hlt];rfl
   rw[he];exact ih (by omega)
theorem QnB(l:List Bid)(hl:l.length≤1048576)(h1:1≤l.length):Qp l 0 (ln l)=some (X7 l l.length):=by
 have hr:=Xt (step:=Qt 0 (ln l)) (fun i=>(X7 l (i+1)++l.drop (i+1),((i+1:Nat):Int))) (r:=X7 l l.length) (l.length-1) (fun i hi=>by
   have hlt:i+1<l.length:=by omega
   have hlen:=Qeo l (i+1);have hd:l.drop (i+1)=l[i+1]::l.drop (i+1+1):=List.drop_eq_getElem_cons hlt;have hk:=QQ7 (ln l) ((i+1:Nat):Int) (X7 l (i+1)) (l.drop (i+1+1)) l[i+1] (by omega) (i+1) (by omega)
   rw[List.take_of_length_le (by omega),List.drop_of_length_le (show(X7 l (i+1)).length≤i+1 by omega),List.nil_append]at hk
   simp only[Qt,show decide (((i+1:Nat):Int)<ln l)=true from decide_eq_true (by rw[VE];omega),cond_true,hd,hk,Option.bind_some,Qy (show((i+1:Nat):Int)<9223372036854775807 by omega)]
   rw[show X7 l (i+1+1)=Vx (X7 l (i+1)) ((QdW (X7 l (i+1)) (gt l ((i+1:Nat):Int)).Cents (i+1):Nat):Int) [gt l ((i+1:Nat):Int)]from rfl,Qn hlt])
  (by
   rw[show l.length-1+1=l.length by omega]
   simp only[Qt,show decide (((l.length:Nat):Int)<ln l)=false from decide_eq_false (by rw[VE];omega),cond_false,List.drop_length,List.append_nil])
 have h0:X7 l (0+1)++l.drop (0+1)=l:=by
  cases l with
  |nil=>simp at h1
  |cons x t=>simp[X7,Vx,QdW,gt]
 unfold Qp;simp only[h0]at hr;rw[show w64 (0+1)=1 from rfl,show run (Qt 0 (ln l)) (l,1)=some (X7 l l.length)from hr];rfl
theorem Ql2(l:List Bid):Qp l 20 20=some l:=by
 unfold Qp;rw[Qg];rfl
theorem Qrf(l:List Bid)(hl:l.length≤20)(h1:1≤l.length):Qc9 l=some (X7 l l.length):=by
 have hrm:rm (0+l.length) 24=true:=QR (by omega) (by omega)
 have h7:∀r:List Bid,run (Vg r (ln l)) 20=some ():=fun r=>by
  rw[Qg];simp only[Vg,show decide (20<ln l)=false from decide_eq_false (by rw[VE];omega),cond_false,Option.bind_some]
 unfold Qc9 QeS Xo Xr;simp only[hrm,Qa,Option.bind_some];by_cases h20:l.length=20
 ·have hln:ln l=20:=by rw[VE,h20];rfl
  have hins:=QnB l (by omega) h1
  have hr:run (Qs (ln l) 20) (l,0,20)=some (X7 l l.length,20):=by
   rw[Qg];simp only[Qs,show decide (20≤ln l)=true from decide_eq_true (by omega),cond_true]
   rw[hln]at hins;rw[hins];simp only[Option.bind_some];rw[Qg];simp only[Qs,show decide (w64 (20+20)≤ln l)=false from decide_eq_false (by rw[show w64 (20+20)=40 from rfl,hln];omega),cond_false,Option.bind_some]
  rw[hr];simp only[Option.bind_some];rw[hln,Ql2];rw[hln]at h7;simp only[Option.bind_some,h7]
 ·have hr:run (Qs (ln l) 20) (l,0,20)=some (l,0):=by
   rw[Qg];simp only[Qs,show decide (20≤ln l)=false from decide_eq_false (by rw[VE];omega),cond_false,Option.bind_some]
  rw[hr];simp only[Option.bind_some,QnB l (by omega) h1,h7]
end Go.Proofs.YtonidbheohhgdaaGreat
namespace Go.Proofs.YtonidbheohhgdaaGreat
open Go
set_option linter.unusedVariables false
set_option linter.unusedSimpArgs false
theorem QnM(l:List Hand)(x:Hand)(hl:l.length≤1048576):∃r,Qal l x=some r∧Qdv l x=some r∧r.1.length≤1048576:=by
 have hrm:rm (0+l.length) 40=true:=QR (by omega) (by omega)
 have hrm1:rm (l.length+1) 40=true:=QR (by omega) (by omega)
 unfold Qal Qdv XC;have tail:∀s:Int,∃r,((JS s x).bind fun r=>nd (rm (0+l.length) 40)<|nd (rm (l.length+1) 40)<|(Vv (l++[(⟨x.Thing,x.Holder,x.Who,x.At,r⟩:Hand)])).bind fun r2=>(bif (!r2)then nd (rm (0+l.length) 40)<|some (l,false)else some (l++[(⟨x.Thing,x.Holder,x.Who,x.At,r⟩:Hand)],true)))=some r ∧
   ((ZF s x).bind fun r=>(nd (rm (0+l.length) 40)<|some l).bind fun r2=>nd (rm (r2.length+1) 40)<|(Xy (r2++[(⟨x.Thing,x.Holder,x.Who,x.At,r⟩:Hand)])).bind fun r3=>(bif (!r3)then(nd (rm (0+l.length) 40)<|some l).bind fun r4=>some (r4,false)else some (r2++[(⟨x.Thing,x.Holder,x.Who,x.At,r⟩:Hand)],true)))=some r∧r.1.length≤1048576:=by
  intro s;obtain⟨c,c1,c2⟩:=Qmj s x;obtain⟨b,b1,b2,b3⟩:=QnR (l++[(⟨x.Thing,x.Holder,x.Who,x.At,c⟩:Hand)]);simp only[c1,c2,Option.bind_some,hrm,hrm1,Qa,b1,b2];cases b with
  |false=>exact⟨(l,false),rfl,rfl,hl⟩
  |true=>exact⟨_,rfl,rfl,by have:=(b3 rfl).1;show(l++_).length≤_;omega⟩
 by_cases h0:0<l.length
 ·simp only[show decide (0<ln l)=true from decide_eq_true (by rw[VE];omega),cond_true,show w64 (ln l-1)=((l.length-1:Nat):Int)from by rw[VE,QS]<;>omega,Qe (show l.length-1<l.length by omega),Qa]
  exact tail _
 ·simp only[show decide (0<ln l)=false from decide_eq_false (by rw[VE];omega),cond_false]
  exact tail 0
end Go.Proofs.YtonidbheohhgdaaGreat
namespace Go.Proofs.YtonidbheohhgdaaGreat
open Go
set_option linter.unusedVariables false
set_option linter.unusedSimpArgs false
theorem QvF(l:List Slot)(t:Int)(hl:l.length≤1048576):∃r,Qaf l t=some r∧Qdu l t=some r∧r.1.length=l.length∧(Zg l t=false→r.2=false)∧(r.2=true→t≠0∧V2 l=some true∧∃(k:Nat) (hk:k<l.length),l[k].Thing=t∧r.1=l.set k ⟨l[k].Id,l[k].Size,0⟩):=by
 obtain⟨c,c1,c2,c3⟩:=Qj3 l hl;have hrm:rm (0+l.length) 24=true:=QR (by omega) (by omega)
 unfold Qaf Qdu Jv Zg;simp only[hrm,Qa,c1,c2,Qjj l t hl,Qgf l t hl,Option.bind_some];cases c with
 |false=>exact⟨(l,false),rfl,rfl,rfl,fun _=>rfl,fun h=>by cases h⟩
 |true =>
  obtain⟨s1,s2,s3⟩:=c3 rfl;cases ht:decide (t=0)with
  |true=>exact⟨(l,false),rfl,rfl,rfl,fun _=>rfl,fun h=>by cases h⟩
  |false =>
   rcases QdP l t with⟨_,h2⟩|⟨k,hk,h2,h3,_⟩
   ·rw[h2];exact⟨(l,false),rfl,rfl,rfl,fun _=>rfl,fun h=>by cases h⟩
   ·rw[h2]
    have hid:1≤l[k].Id:=s2 _ (List.getElem_mem hk);simp only[Bool.false_or,Bool.not_true,cond_false,decide_eq_false (show ¬(k:Int)<0 by omega),Qn hk,Qe hk,Qa,decide_eq_false (show ¬l[k].Id=0 by omega),Int.toNat_natCast]
    have hr:=Xt (step:=V8 l[k].Id) (fun i=>(if i≤k then l else l.set k ⟨l[k].Id,l[k].Size,0⟩,(i:Int))) (r:=l.set k ⟨l[k].Id,l[k].Size,0⟩) l.length (fun i hi=>by
      have hw:=Qy (show(i:Int)<9223372036854775807 by omega)
      by_cases hik:i<k
      ·have hne:¬l[i].Id=l[k].Id:=fun e=>by have:=Qfm l s3 i k hi hk e;omega
       simp only[V8,if_pos (show i≤k by omega),if_pos (show i+1≤k by omega),Qr hi,Qe hi,Qn hi,hw,decide_eq_false hne,cond_true,cond_false,Qa]
      ·by_cases hek:i=k
       ·subst hek
        simp only[V8,if_pos (Nat.le_refl i),if_neg (show ¬i+1≤i by omega),Qr hi,Qe hi,Qn hi,hw,decide_true,cond_true,Qa,Int.toNat_natCast]
       ·have hne:¬l[i].Id=l[k].Id:=fun e=>by have:=Qfm l s3 i k hi hk e;omega
        have hi':i<(l.set k ⟨l[k].Id,l[k].Size,0⟩).length:=by rw[List.length_set];exact hi
        have hg:gt (l.set k ⟨l[k].Id,l[k].Size,0⟩) (i:Int)=l[i]:=by rw[QnS l k _ i hi,if_neg hek,Qn hi]
        simp only[V8,if_neg (show ¬i≤k by omega),if_neg (show ¬i+1≤k by omega),Qr hi',Qe hi',hg,hw,decide_eq_false hne,cond_true,cond_false,Qa])
     (by
      simp only[V8,if_neg (show ¬l.length≤k by omega)]
      rw[show decide ((l.length:Int)<ln (l.set k ⟨l[k].Id,l[k].Size,0⟩))=false from decide_eq_false (by rw[VE,List.length_set];omega)]
      rfl)
    simp only[show run (V8 l[k].Id) (l,0)=some (l.set k ⟨l[k].Id,l[k].Size,0⟩)from hr,Option.bind_some];exact⟨_,rfl,rfl,List.length_set,fun h=>(by simp at h),fun _=>⟨of_decide_eq_false ht,trivial,k,hk,h3,rfl⟩⟩
theorem QsA(l:List Slot)(t:Int)(hl:l.length≤1048576):∃r,Qaf l t=some r∧Qdu l t=some r∧r.1.length=l.length∧(Zg l t=false→r.2=false):=by
 obtain⟨r,r1,r2,r3,r4,_⟩:=QvF l t hl;exact⟨r,r1,r2,r3,r4⟩
theorem Qot(h:House)(t p w:Int)(hm:Qi h):∃r,Zy h t p w=some r∧QaO h t p w=some r∧Qi r.1∧(Zg h.Slots t=false→r.2=false)∧r.1.Book=h.Book∧r.1.Now=h.Now∧r.1.No=h.No:=by
 have hm7:=hm;obtain⟨m1,m2,m3,m4,m5,m6,m7⟩:=hm7;obtain⟨a,a1,a2,a3,a4⟩:=QsA h.Slots t m3;obtain⟨b,b1,b2,b3⟩:=QnM h.Chain ⟨t,p,w,h.Now,0⟩ m6;unfold Zy QaO;simp only[XA h hm,Jw h hm,a1,a2,b1,b2,Option.bind_some];have w1:Qi ⟨h.No,h.Finds,h.Secrets,a.1,h.Claims,h.Trials,b.1,h.Book,h.Now⟩:=smH hm m1 m2 (by omega) m4 m5 b3 m7
 cases ha:a.2 with
 |true=>exact⟨_,rfl,rfl,w1,(fun hs=>by rw[a4 hs]at ha;cases ha),rfl,rfl,rfl⟩
 |false=>exact⟨_,rfl,rfl,w1,(fun _=>rfl),rfl,rfl,rfl⟩
end Go.Proofs.YtonidbheohhgdaaGreat
namespace Go.Proofs.YtonidbheohhgdaaGreat
open Go
set_option linter.unusedVariables false
set_option linter.unusedSimpArgs false
def Xg(l:List Claim)(t:Int):Nat→Int
 |0=>-1
 |n+1=>if(gt l (n:Int)).Thing=t∧(gt l (n:Int)).State=1∧(Xg l t n<0∨(gt l (n:Int)).At<(gt l (Xg l t n)).At)then(n:Int)else Xg l t n
theorem QgH(l:List Claim)(t:Int):∀n,Xg l t n=-1∨∃j:Nat,j<n∧Xg l t n=(j:Int)
 |0=>.inl rfl
 |n+1=>by
  unfold Xg
  split
  ·exact .inr ⟨n,by omega,rfl⟩
  ·rcases QgH l t n with h|⟨j,h1,h2⟩
   ·exact .inl h
   ·exact .inr ⟨j,by omega,h2⟩
theorem Qnp(l:List Claim)(t:Int):∀(n j:Nat),Xg l t n=(j:Int)→(gt l (j:Int)).Thing=t∧(gt l (j:Int)).State=1
 |0,j,h=>by unfold Xg at h;omega
 |n+1,j,h=>by
  unfold Xg at h
  split at h
  ·rename_i hc
   have:n=j:=by omega
   subst this;exact⟨hc.1,hc.2.1⟩
  ·exact Qnp l t n j h
theorem Qoq(l:List Claim)(t:Int)(hl:l.length≤1048576):∃c,X4 l t=some c∧Z7 l t=some c∧(c=0∨∃k:Nat,∃hk:k<l.length,l[k].Id=c∧l[k].Thing=t∧l[k].State=1):=by
 have hcase:∀i:Nat,(Xg l t (i+1)=(i:Int)∧(gt l (i:Int)).Thing=t∧(gt l (i:Int)).State=1∧(Xg l t i=-1∨∃j:Nat,j<i∧Xg l t i=(j:Int)∧(gt l (i:Int)).At<(gt l (j:Int)).At)) ∨
   (Xg l t (i+1)=Xg l t i∧(¬(gt l (i:Int)).Thing=t∨¬(gt l (i:Int)).State=1∨∃j:Nat,j<i∧Xg l t i=(j:Int)∧¬(gt l (i:Int)).At<(gt l (j:Int)).At)):=by
  intro i;have e:Xg l t (i+1)=(if(gt l (i:Int)).Thing=t∧(gt l (i:Int)).State=1∧(Xg l t i<0∨(gt l (i:Int)).At<(gt l (Xg l t i)).At)then(i:Int)else Xg l t i):=rfl
  by_cases hc:(gt l (i:Int)).Thing=t∧(gt l (i:Int)).State=1∧(Xg l t i<0∨(gt l (i:Int)).At<(gt l (Xg l t i)).At)
  ·rw[if_pos hc]at e
   refine .inl ⟨e,hc.1,hc.2.1,?_⟩
   rcases QgH l t i with h|⟨j,hj,h⟩
   ·exact .inl h
   ·refine .inr ⟨j,hj,h,?_⟩
    rcases hc.2.2 with h'|h'
    ·omega
    ·rw[h]at h';exact h'
  ·rw[if_neg hc]at e
   refine .inr ⟨e,?_⟩;by_cases h1:(gt l (i:Int)).Thing=t
   ·by_cases h2:(gt l (i:Int)).State=1
    ·rcases QgH l t i with h|⟨j,hj,h⟩
     ·exact absurd ⟨h1,h2,.inl (by omega)⟩ hc
     ·refine .inr (.inr ⟨j,hj,h,fun h'=>hc ⟨h1,h2,.inr (by rw[h];exact h')⟩⟩)
    ·exact .inr (.inl h2)
   ·exact .inl h1
 have hs:=Xt (step:=QZ l t) (fun i=>(Xg l t i,(i:Int))) (r:=Xg l t l.length) l.length (fun i hi=>by
   have hw:=Qy (show(i:Int)<9223372036854775807 by omega)
   rcases hcase i with⟨e,h1,h2,h3|⟨j,hj,h3,h4⟩⟩|⟨e,h1|h2|⟨j,hj,h3,h4⟩⟩
   ·simp only[QZ,e,h3,h1,h2,Qr hi,Qe hi,hw,decide_true,cond_true,Qa];rfl
   ·simp only[QZ,e,h3,h1,h2,Qr hi,Qe hi,hw,decide_true,cond_true,Qa,Qe (show j<l.length by omega),decide_eq_false (show ¬(j:Int)<0 by omega),cond_false,decide_eq_true h4];rfl
   ·simp only[QZ,e,decide_eq_false h1,Qr hi,Qe hi,hw,cond_true,cond_false,Qa];rfl
   ·cases decide ((gt l (i:Int)).Thing=t)<;>simp only[QZ,e,decide_eq_false h2,Qr hi,Qe hi,hw,cond_true,cond_false,Qa]<;>cases decide ((gt l (i:Int)).Thing=t)<;>rfl
   ·simp only[QZ,e,h3,Qr hi,Qe hi,hw,cond_true,cond_false,Qa,Qe (show j<l.length by omega),decide_eq_false (show ¬(j:Int)<0 by omega),decide_eq_false h4]
    cases decide ((gt l (i:Int)).Thing=t)<;>cases decide ((gt l (i:Int)).State=1)<;>rfl)
  (by simp only[QZ,Qv (Nat.le_refl _),cond_false])
 have hi:=Xt (step:=Vm t l (ln l)) (fun i=>(bif decide (Xg l t i<0)then(⟨0,0,0,0,0⟩:Claim)else gt l (Xg l t i),decide (0≤Xg l t i),(i:Int))) (r:=bif decide (Xg l t l.length<0)then(⟨0,0,0,0,0⟩:Claim)else gt l (Xg l t l.length)) l.length (fun i hi=>by
   have hw:=Qy (show(i:Int)<9223372036854775807 by omega)
   have hn:decide ((i:Int)<0)=false:=decide_eq_false (by omega)
   have hn':decide (0≤(i:Int))=true:=decide_eq_true (by omega)
   rcases hcase i with⟨e,h1,h2,h3|⟨j,hj,h3,h4⟩⟩|⟨e,h1|h2|⟨j,hj,h3,h4⟩⟩
   ·simp only[Vm,e,h3,h1,h2,Qr hi,Qe hi,hw,decide_true,cond_true,Qa,hn,hn'];rfl
   ·simp only[Vm,e,h3,h1,h2,Qr hi,Qe hi,hw,decide_true,cond_true,Qa,hn,hn',decide_eq_false (show ¬(j:Int)<0 by omega),decide_eq_true (show 0≤(j:Int)by omega),cond_false,decide_eq_true h4];rfl
   ·simp only[Vm,e,decide_eq_false h1,Qr hi,Qe hi,hw,cond_true,cond_false,Qa];rfl
   ·simp only[Vm,e,decide_eq_false h2,Qr hi,Qe hi,hw,cond_true,cond_false,Qa]
    cases decide ((gt l (i:Int)).Thing=t)<;>rfl
   ·simp only[Vm,e,h3,Qr hi,Qe hi,hw,cond_true,cond_false,Qa,decide_eq_false (show ¬(j:Int)<0 by omega),decide_eq_true (show 0≤(j:Int)by omega),decide_eq_false h4]
    cases decide ((gt l (i:Int)).Thing=t)<;>cases decide ((gt l (i:Int)).State=1)<;>rfl)
  (by simp only[Vm,Qv (Nat.le_refl _),cond_false])
 have hi':run (Vm t l (ln l)) ((⟨0,0,0,0,0⟩:Claim),false,0)=some (bif decide (Xg l t l.length<0)then(⟨0,0,0,0,0⟩:Claim)else gt l (Xg l t l.length)):=hi;unfold X4 Z7;rw[show run (QZ l t) ((-1),0)=some (Xg l t l.length)from hs,hi']
 rcases QgH l t l.length with h|⟨j,hj,h⟩
 ·rw[h];exact⟨0,rfl,rfl,.inl rfl⟩
 ·rw[h]
  simp only[Option.bind_some,decide_eq_false (show ¬(j:Int)<0 by omega),cond_false,Qe hj,Qn hj,Qa]
  have hc:=Qnp l t l.length j h;rw[Qn hj]at hc;exact⟨_,rfl,rfl,.inr ⟨j,hj,rfl,hc⟩⟩
theorem Qkn(l:List Claim)(t:Int)(hl:l.length≤1048576):∃c,X4 l t=some c∧Z7 l t=some c∧(c=0∨∃k:Nat,∃hk:k<l.length,l[k].Id=c):=by
 obtain⟨c,h1,h2,h3⟩:=Qoq l t hl;exact⟨c,h1,h2,h3.imp id fun⟨k,hk,h,_⟩=>⟨k,hk,h⟩⟩
theorem Qjy(l:List Find)(id:Int):Zf l id=-1∨∃k:Nat,k<l.length∧Zf l id=(k:Int):=by
 unfold Zf;cases hf:l.findIdx? (fun x=>decide (x.Thing.Id=id))with
 |none=>exact .inl rfl
 |some i =>
  obtain⟨hi,hp⟩:=QaZ hf;exact .inr ⟨i,hi,rfl⟩
end Go.Proofs.YtonidbheohhgdaaGreat
namespace Go.Proofs.YtonidbheohhgdaaGreat
open Go
set_option linter.unusedVariables false
set_option linter.unusedSimpArgs false
theorem QpO(f:Find):∃b,Xk f=some b∧(b=true→1≤f.Thing.Kind∧f.Thing.Kind≤8):=by
 unfold Xk XB Qc;simp only[Option.bind_some];cases h1:(decide (1≤f.Thing.Id)&&decide (f.Thing.Id≤999))with
 |false=>exact⟨false,rfl,fun h=>by cases h⟩
 |true =>
  cases h2:(decide (1≤f.Thing.Kind)&&decide (f.Thing.Kind≤8))with
  |false=>exact⟨false,rfl,fun h=>by cases h⟩
  |true =>
   have hk:1≤f.Thing.Kind∧f.Thing.Kind≤8:=by simpa using h2
   simp only[cond_true];cases (decide (0≤f.Thing.Colour)&&decide (f.Thing.Colour≤7))<;>cases (decide (1≤f.Thing.Size)&&decide (f.Thing.Size≤50))<;>cases (decide (0≤f.Thing.Worth)&&decide (f.Thing.Worth≤10000000)) <;>
    cases (decide (1≤f.Place)&&decide (f.Place≤30))<;>cases (decide (0≤f.At)&&decide (f.At≤100000))<;>cases (decide (0≤f.Finder)&&decide (f.Finder≤999))<;>exact⟨_,rfl,fun _=>hk⟩
theorem QvD(k:Int)(h1:1≤k)(h2:k≤8):∃d,QcO k=some d∧Qhc k=some d:=by
 have:k=1∨k=2∨k=3∨k=4∨k=5∨k=6∨k=7∨k=8:=by omega
 rcases this with rfl|rfl|rfl|rfl|rfl|rfl|rfl|rfl<;>exact⟨_,rfl,rfl⟩
theorem QNg(f:Find)(now:Int):∃b,QdS f now=some b∧Qhx f now=some b:=by
 obtain⟨b,h1,h2⟩:=QpO f;unfold QdS Qhx Qdk Qia;rw[show Xn f=Xk f from rfl,h1];cases b with
 |false=>exact⟨false,rfl,rfl⟩
 |true =>
  obtain⟨k1,k2⟩:=h2 rfl;obtain⟨d,h3,h4⟩:=QvD f.Thing.Kind k1 k2;simp only[Option.bind_some,cond_true,cond_false,Bool.not_true,h3,h4];exact⟨_,rfl,rfl⟩
theorem Qxm(f:Find)(l:List Claim)(now:Int)(hl:l.length≤1048576):∃c,QbU f l now=some c∧Qed f l now=some c:=by
 obtain⟨p,p1,p2,_⟩:=Qkn l f.Thing.Id hl;obtain⟨d,d1,d2⟩:=QNg f now;have hs:=Qfq l (fun x=>decide (x.Thing=f.Thing.Id)&&decide (x.State=0)) (r:=(0:Int)) (step:=Z6 l now f)
  (fun i hi=>by
   simp only[Z6,Qr hi,Qe hi,Qn hi,Qy (show(i:Int)<9223372036854775807 by omega),cond_true,Qa,Option.bind_some]
   cases (decide (l[i].Thing=f.Thing.Id)&&decide (l[i].State=0))<;>rfl)
  (by simp only[Z6,Qv (Nat.le_refl _),cond_false])
 have hi:=XY l (fun x=>decide (x.Thing=f.Thing.Id)&&decide (x.State=0)) (fun i=>(i:Int)) (step:=Q8 l f.Thing (ln l))
  (fun i hi=>by
   simp only[Q8,Qhl,Qr hi,Qe hi,Qn hi,Qy (show(i:Int)<9223372036854775807 by omega),cond_true,Qa,Option.bind_some]
   cases (decide (l[i].Thing=f.Thing.Id)&&decide (l[i].State=0))<;>rfl)
  (by simp only[Q8,Qv (Nat.le_refl _),cond_false])
 have hc:VI l f.Thing=some (l.any (fun x=>decide (x.Thing=f.Thing.Id)&&decide (x.State=0))):=by
  unfold VI Jo;rw[hi];cases hf:l.findIdx? (fun x=>decide (x.Thing=f.Thing.Id)&&decide (x.State=0))with
  |none =>
   have:l.any (fun x=>decide (x.Thing=f.Thing.Id)&&decide (x.State=0))=false:=by
    rw[List.any_eq_false];intro x hx;have:=List.findIdx?_eq_none_iff.1 hf x hx;simpa using this
   rw[this];rfl
  |some i =>
   obtain⟨hi',hp⟩:=QaZ hf;rw[List.any_eq_true.2 ⟨_,List.getElem_mem hi',hp⟩];simp only[Option.bind_some,evO,decide_eq_true (show(0:Int)≤(i:Int)by omega)]
 unfold QbU Qed;rw[p1,p2,d1,d2,hs,hc];simp only[Option.bind_some];have hlt:decide (f.Thing.Worth≤5000)=!decide (5000<f.Thing.Worth):=by
  by_cases h:5000<f.Thing.Worth
  ·rw[decide_eq_true h,decide_eq_false (by omega)];rfl
  ·rw[decide_eq_false h,decide_eq_true (by omega)];rfl
 rw[hlt];generalize l.any (fun x=>decide (x.Thing=f.Thing.Id)&&decide (x.State=0))=q
 cases decide (p=0)<;>cases q<;>cases d<;>cases (decide (f.Thing.Kind=7)||decide (f.Thing.Worth=0))<;>cases decide (5000<f.Thing.Worth)<;>cases decide (f.Finder=0)<;>exact⟨_,rfl,rfl⟩
end Go.Proofs.YtonidbheohhgdaaGreat
