import Derived.Test.YtoilkmgiofimjaaGreatDoorFam
import Derived.Lib.SplitLaws
namespace Go.Proofs.YtoilkmgiofimjaaGreatDoor
open Go
set_option linter.unusedVariables false
set_option linter.unusedSimpArgs false
theorem rI{S R:Type}{step:S→Option (S⊕R)}{s s':S}(h:step s=some (.inl s')):run step s=run step s':=by rw[QS,h];rfl
theorem rR{S R:Type}{step:S→Option (S⊕R)}{s:S}{r:R}(h:step s=some (.inr r)):run step s=some r:=by rw[QS,h];rfl
def hd1(p:List UInt8):List (List UInt8)→List (List UInt8)
 |[]=>[p]
 |x::l=>(p++x)::l
def spl(c:UInt8):List UInt8→List (List UInt8)
 |[]=>[[]]
 |b::t=>if b=c then[]::spl c t else hd1 [b] (spl c t)
theorem D4(c:UInt8):∀s,∃x l,spl c s=x::l
 |[]=>⟨[],[],rfl⟩
 |b::t=>by
  obtain⟨x,l,h⟩:=D4 c t;unfold spl;by_cases hb:b=c
  ·rw[if_pos hb];exact⟨_,_,rfl⟩
  ·rw[if_neg hb,h];exact⟨_,_,rfl⟩
theorem Ki(c:UInt8):∀s,(spl c s).length≤s.length+1
 |[]=>by simp[spl]
 |b::t=>by
  obtain⟨x,l,h⟩:=D4 c t;have:=Ki c t;unfold spl;by_cases hb:b=c
  ·rw[if_pos hb];simp;omega
  ·rw[if_neg hb,h];rw[h]at this;simp[hd1]at this ⊢;omega
theorem TN(c:UInt8):∀s,∀x∈spl c s,x.length≤s.length∧c∉x
 |[],x,hx=>by simp[spl]at hx;subst hx;simp
 |b::t,y,hy=>by
  obtain⟨x,l,h⟩:=D4 c t;have ih:=TN c t;unfold spl at hy;by_cases hb:b=c
  ·rw[if_pos hb]at hy
   rcases List.mem_cons.1 hy with rfl|hy
   ·simp
   ·have:=ih y hy
    exact⟨by simp;omega,this.2⟩
  ·rw[if_neg hb,h]at hy
   rw[h]at ih
   rcases List.mem_cons.1 hy with rfl|hy
   ·have:=ih x (by simp)
    refine⟨by simp;omega,?_⟩
    simp only[List.singleton_append,List.mem_cons,not_or];exact⟨λhc=>hb hc.symm,this.2⟩
   ·have:=ih y (by simp[hy])
    exact⟨by simp;omega,this.2⟩
theorem Wp(c:UInt8):∀s,c∉s→spl c s=[s]
 |[],_=>rfl
 |b::t,h=>by
  simp only[List.mem_cons,not_or]at h;unfold spl;rw[if_neg (λhb=>h.1 hb.symm),Wp c t h.2]
  rfl
theorem gO(c:UInt8):∀a t,c∉a→spl c (a++c::t)=a::spl c t
 |[],t,_=>by simp[spl]
 |b::a,t,h=>by
  simp only[List.mem_cons,not_or]at h;rw[List.cons_append,spl,if_neg (λhb=>h.1 hb.symm),gO c a t h.2]
  rfl
theorem gx(c:UInt8):∀s,Lib.join (spl c s) [c]=s
 |[]=>rfl
 |b::t=>by
  obtain⟨x,l,h⟩:=D4 c t;have ih:=gx c t;unfold spl;by_cases hb:b=c
  ·rw[if_pos hb,h]
   rw[h]at ih;subst hb;simp only[Lib.join,Lib.joinTail]at ih ⊢;simp[ih]
  ·rw[if_neg hb,h]
   rw[h]at ih;simp only[hd1,Lib.join]at ih ⊢;simp[ih]
theorem lx(b c:UInt8)(l:List UInt8):Lib.index (b::l) [c]=if b=c then 0 else if Lib.index l [c]==-1 then -1 else Lib.index l [c]+1:=by
 rw[Lib.index];by_cases h:b=c
 ·subst h;rw[if_pos rfl,if_pos (by simp)]
 ·have:([c]:List UInt8).isPrefixOf (b::l)=false:=by
   have hc:(c==b)=false:=by rw[beq_eq_false_iff_ne];exact λe=>h e.symm
   show(c==b&&_)=false;rw[hc];rfl
  rw[this,if_neg h];rfl
theorem eu(c:UInt8):∀s,Lib.split s [c]=spl c s
 |[]=>rfl
 |b::l=>by
  have ih:=eu c l;have hi:=lx b c l;unfold Lib.split at ih ⊢;unfold spl;by_cases hb:b=c
  ·rw[if_pos hb]at hi ⊢
   rw[Lib.count_hit (i:=0) (by simp) hi,Nat.add_comm,Lib.splitK,if_neg (by rw[hi];decide),hi]
   simp only[List.length_singleton,Nat.zero_add,List.drop_one,List.tail_cons,Int.toNat_zero,Nat.add_zero,List.take_zero];rw[ih]
  ·rw[if_neg hb]at hi ⊢
   rcases Lib.index_spec l [c]with⟨h1,_⟩|⟨i,h1,h2,_⟩
   ·rw[h1]at hi
    have h3:Lib.index (b::l) [c]=-1:=by simpa using hi
    rw[Lib.count_miss h1]at ih;rw[Lib.count_miss h3,←ih];rfl
   ·rw[h1,if_neg (by simp)]at hi
    have hi':Lib.index (b::l) [c]=((i+1:Nat):Int):=by rw[hi];omega
    rw[Lib.count_hit (by simp) h1,Nat.add_comm,Lib.splitK,if_neg (by rw[h1];simp),h1]at ih
    rw[Lib.count_hit (by simp) hi',Nat.add_comm,Lib.splitK,if_neg (by rw[hi'];simp;omega),hi',←ih]
    simp[hd1]
theorem bf(s:List UInt8)(c:UInt8)(h:s.length≤4000000):strings_Split s [c]=some (spl c s):=by
 unfold strings_Split;rw[Qf (show s.length<4294967281 by omega)]
 simp[eu,Qn]
theorem Qk3(s:List UInt8)(c:UInt8)(h:s.length≤4000000):(c∉s∧strings_Cut s [c]=some (s,[],false))∨∃a t,s=a++c::t∧c∉a∧strings_Cut s [c]=some (a,t,true):=by
 have key:∀s:List UInt8,(c∉s∧Lib.index s [c]=-1)∨∃a t,s=a++c::t∧c∉a∧Lib.index s [c]=(a.length:Int):=by
  intro s
  induction s with
  |nil=>exact .inl ⟨by simp,rfl⟩
  |cons b l ih =>
   have hi:=lx b c l;by_cases hb:b=c
   ·rw[if_pos hb]at hi
    subst hb;exact .inr ⟨[],l,rfl,by simp,by rw[hi];rfl⟩
   ·rw[if_neg hb]at hi
    rcases ih with⟨h1,h2⟩|⟨a,t,h1,h2,h3⟩
    ·rw[h2]at hi
     exact .inl ⟨by rw[List.mem_cons];exact λhc=>hc.elim (λe=>hb e.symm) h1,by simpa using hi⟩
    ·rw[h3,if_neg (by simp)]at hi
     exact .inr ⟨b::a,t,by rw[h1];rfl,by rw[List.mem_cons];exact λhc=>hc.elim (λe=>hb e.symm) h2,by rw[hi];simp⟩
 unfold strings_Cut;rw[Qf (show s.length<4294967281 by omega)]
 simp only[Qn]
 rcases key s with⟨h1,h2⟩|⟨a,t,h1,h2,h3⟩
 ·exact .inl ⟨h1,by unfold Lib.cut;rw[h2];rfl⟩
 ·refine .inr ⟨a,t,h1,h2,?_⟩
  unfold Lib.cut;rw[h3];subst h1;simp
theorem Mf{l:List (List UInt8)}(h:∃x t,l=x::t):hd1 [] l=l:=by
 obtain⟨x,t,rfl⟩:=h;rfl
theorem bm(p q:List UInt8){l:List (List UInt8)}(h:∃x t,l=x::t):hd1 p (hd1 q l)=hd1 (p++q) l:=by
 obtain⟨x,t,rfl⟩:=h;simp[hd1]
theorem T6(s:List UInt8)(a i:Nat)(h:i<s.length)(ha:a≤i):cut s (a:Int) ((i+1:Nat):Int)=cut s (a:Int) (i:Int)++[s[i]]:=by
 unfold cut;simp only[Int.toNat_natCast];rw[List.take_succ_eq_append_getElem h,List.drop_append_of_le_length (by simp;omega)]
theorem IF(s:List UInt8)(i:Nat):cut s (i:Int) (i:Int)=[]:=by
 unfold cut;simp only[Int.toNat_natCast];rw[List.drop_eq_nil_iff];simp;omega
theorem bK(x c:UInt8):decide (((x.toNat:Nat):Int)=((c.toNat:Nat):Int))=decide (x=c):=by
 apply decide_eq_decide.2;constructor
 ·intro h;exact UInt8.toNat_inj.1 (by omega)
 ·rintro rfl;rfl
theorem Nt{α:Type}{l:List α}{i:Nat}(h:i≤l.length):decide ((i:Int)≤ln l)=true:=Qf (by unfold ln;omega)
theorem iK{α:Type}{l:List α}{i:Nat}(h:l.length<i):decide ((i:Int)≤ln l)=false:=Qe (by unfold ln;omega)
theorem iF{α:Type}{l:List α}:decide ((l.length:Int)=ln l)=true:=Qf rfl
theorem i8{α:Type}{l:List α}{i:Nat}(h:i<l.length):decide ((i:Int)=ln l)=false:=Qe (by unfold ln;omega)
theorem RU{α:Type}{l:List α}{a i:Nat}(h:a≤i)(h2:i≤l.length):slB (a:Int) (i:Int) (ln l)=true:=by unfold slB ln;simp;omega
theorem bS{n:Nat}(h:n≤2000000):rm n 16=true:=by unfold rm;simp;omega
theorem xm(s:List UInt8)(c:UInt8)(hl:s.length≤1048576):∀(m a i:Nat) (o:List (List UInt8)),i+m=s.length→a≤i→o.length≤i →
  run (JA s ((c.toNat:Nat):Int)) (o,(a:Int),(i:Int))=some (o++hd1 (cut s (a:Int) (i:Int)) (spl c (s.drop i))):=by
 intro m
 induction m with
 |zero =>
  intro a i o hi ha ho;have e:i=s.length:=by omega
  subst e;rw[rI (s':=(o++[cut s (a:Int) (s.length:Int)],((s.length+1:Nat):Int),((s.length+1:Nat):Int))) (by
   simp only[JA,Nt (Qg s.length),iF,Qc,Qa,QM (show(s.length:Int)<9223372036854775807 by omega),
    RU (l:=s) ha (Qg _),bS (show o.length+1≤2000000 by omega),Qn])]
  rw[rR (r:=o++[cut s (a:Int) (s.length:Int)]) (by
   simp only[JA,iK (Nat.lt_succ_self s.length),Qb])]
  simp[spl,hd1]
 |succ m ih =>
  intro a i o hi ha ho;have hlt:i<s.length:=by omega
  have hd:s.drop i=s[i]::s.drop (i+1):=List.drop_eq_getElem_cons hlt;have hstep:JA s ((c.toNat:Nat):Int) (o,(a:Int),(i:Int))=(bif decide (s[i]=c)then some (.inl (o++[cut s (a:Int) (i:Int)],((i+1:Nat):Int),((i+1:Nat):Int)))else some (.inl (o,(a:Int),((i+1:Nat):Int)))):=by
   simp only[JA,Nt (Nat.le_of_lt hlt),i8 hlt,Qs hlt,QC hlt,Qc,Qb,Qn,Qa,bK,
    QM (show(i:Int)<9223372036854775807 by omega),RU (l:=s) ha (Nat.le_of_lt hlt),bS (show o.length+1≤2000000 by omega)]
  rw[hd,spl];by_cases hc:s[i]=c
  ·rw[Qf hc,Qc]at hstep
   rw[rI hstep,ih (i+1) (i+1) _ (by omega) (by omega) (by simp;omega),if_pos hc,IF,Mf (D4 c _)]
   simp[hd1]
  ·rw[Qe hc,Qb]at hstep
   rw[rI hstep,ih a (i+1) _ (by omega) (by omega) (by omega),if_neg hc,T6 s a i hlt ha,bm _ _ (D4 c _)]
theorem Us(s:List UInt8)(c:UInt8)(hl:s.length≤1048576):JD s ((c.toNat:Nat):Int)=some (spl c s):=by
 unfold JD;rw[show(([]:List (List UInt8)),(0:Int),(0:Int))=([],((0:Nat):Int),((0:Nat):Int))from rfl,xm s c hl s.length 0 0 [] (by omega) (by omega) (by simp)]
 rw[IF,List.drop_zero,Mf (D4 c _)];rfl
def wds(l:List UInt8):List (List UInt8):=(spl 32 l).filter λx=>!decide (x=[])
theorem vO(l:List UInt8)(hl:l.length≤1048576):∀(m i:Nat) (o:List (List UInt8)) (w:List UInt8),i+m=l.length→o.length≤i→w.length≤i →
  run (XI l) (o,w,(i:Int))=some (o++(hd1 w (spl 32 (l.drop i))).filter λx=>!decide (x=[])):=by
 intro m
 induction m with
 |zero =>
  intro i o w hi ho hw;have e:i=l.length:=by omega
  subst e;have h2:∀o' w',run (XI l) (o',w',((l.length+1:Nat):Int))=some o':=λo' w'=>rR (by
   simp only[XI,iK (Nat.lt_succ_self l.length),Qb])
  rw[rI (s':=((bif !decide (w=[])then o++[w]else o),[],((l.length+1:Nat):Int))) (by
   simp only[XI,Nt (Qg l.length),QP (Qg l.length),Qc,Qb,Qa,QM (show(l.length:Int)<9223372036854775807 by omega),
    bS (show o.length+1≤2000000 by omega),Qn]
   cases decide (w=[])<;>rfl),h2]
  simp only[List.drop_length,spl,hd1,List.append_nil,List.filter_cons,List.filter_nil];cases decide (w=[])<;>simp
 |succ m ih =>
  intro i o w hi ho hw;have hlt:i<l.length:=by omega
  have hd:l.drop i=l[i]::l.drop (i+1):=List.drop_eq_getElem_cons hlt;have hc1:cut l (i:Int) ((i+1:Nat):Int)=[l[i]]:=by rw[T6 l i i hlt (Qg _),IF];rfl
  have hstep:XI l (o,w,(i:Int))=(bif decide (l[i]=32)then some (.inl ((bif !decide (w=[])then o++[w]else o),[],((i+1:Nat):Int)))else some (.inl (o,w++[l[i]],((i+1:Nat):Int)))):=by
   simp only[XI,Nt (Nat.le_of_lt hlt),Qy hlt,Qs hlt,QC hlt,Qc,Qb,Qn,Qa,
    show decide (((l[i].toNat:Nat):Int)=32)=decide (l[i]=32)from bK l[i] 32,QM (show(i:Int)<9223372036854775807 by omega),RU (l:=l) (Nat.le_succ i) hlt,hc1,
    show Vb w [l[i]]=true by unfold Vb;simp;omega,bS (show o.length+1≤2000000 by omega),Qr]
   cases decide (l[i]=32)<;>cases decide (w=[])<;>rfl
  rw[hd,spl];by_cases hc:l[i]=32
  ·rw[Qf hc,Qc]at hstep
   rw[rI hstep,ih (i+1) _ [] (by omega) (by cases decide (w=[])<;>simp<;>omega) (by simp),if_pos hc,Mf (D4 32 _)]
   simp only[hd1,List.append_nil,List.filter_cons];cases decide (w=[])<;>simp
  ·rw[Qe hc,Qb]at hstep
   rw[rI hstep,ih (i+1) o _ (by omega) (by omega) (by simp;omega),if_neg hc,bm _ _ (D4 32 _)]
theorem PV(l:List UInt8)(hl:l.length≤1048576):E4 l=some (wds l):=by
 unfold E4;rw[show(([]:List (List UInt8)),([]:List UInt8),(0:Int))=([],[],((0:Nat):Int))from rfl,vO l hl l.length 0 [] [] (by omega) (by simp) (by simp),List.drop_zero,Mf (D4 32 _)]
 rfl
def tr:List (List UInt8)→List (List UInt8)
 |[]=>[]
 |[x]=>if x=[]then[]else[x]
 |x::y::l=>x::tr (y::l)
theorem cl(x:List UInt8){l:List (List UInt8)}(h:∃y t,l=y::t):tr (x::l)=x::tr l:=by
 obtain⟨y,t,rfl⟩:=h;rfl
theorem rr:∀(l:List (List UInt8)),∀x∈tr l,x∈l
 |[],x,h=>by simp[tr]at h
 |[y],x,h=>by
  unfold tr at h
  split at h
  ·simp at h
  ·exact h
 |y::z::l,x,h=>by
  rw[cl y ⟨z,l,rfl⟩]at h
  rcases List.mem_cons.1 h with h|h
  ·simp[h]
  ·exact List.mem_cons_of_mem _ (rr (z::l) x h)
theorem j8:∀(l:List (List UInt8)) (h:l≠[]),tr l=if l.getLast h=[]then l.dropLast else l
 |[],h=>absurd rfl h
 |[x],_=>by
  unfold tr;by_cases hx:x=[]<;>simp[hx]
 |x::y::l,_=>by
  rw[cl x ⟨y,l,rfl⟩,j8 (y::l) (by simp),List.getLast_cons (a:=x) (l:=y::l) (by simp)]
  by_cases hx:(y::l).getLast (by simp)=[]
  ·rw[if_pos hx,if_pos hx];simp
  ·rw[if_neg hx,if_neg hx]
theorem SA(v:Int){m:Int}(hm:0<m):-m<v.tmod m∧v.tmod m<m:=by
 refine⟨?_,Int.tmod_lt_of_pos v hm⟩;have h:=Int.tmod_lt_of_pos (-v) hm;rw[Int.neg_tmod]at h;omega
theorem gG(v:Int):F5 v 2147483647=F2 v 2147483647:=by
 obtain⟨h1,h2⟩:=SA v (m:=2147483647) (by omega)
 unfold F5 F2 Qq Qo;simp only[Qa,show(decide ((1:Int)≤2147483647)&&decide ((2147483647:Int)≤1000000000000))=true from rfl,Qh,Qb,show(!decide ((2147483647:Int)=0))=true from rfl,Qn];generalize v.tmod 2147483647=t at h1 h2;rw[VA (by omega) (by omega)]
 by_cases ht:t<0
 ·rw[Qf ht,Qc,Int.tmod_eq_of_lt (by omega) (by omega)]
 ·rw[Qe ht,Qb,Int.tmod_eq_emod_of_nonneg (by omega)]
  congr 1;omega
theorem s7(v:Int):∃c,F2 v 2147483647=some c:=by
 unfold F2 Qo;simp only[Qa,show(decide ((1:Int)≤2147483647)&&decide ((2147483647:Int)≤1000000000000))=true from rfl,Qh,Qb,show(!decide ((2147483647:Int)=0))=true from rfl,Qn];cases decide (v.tmod 2147483647<0)<;>exact⟨_,rfl⟩
theorem j9(l:List Int):CE l=Ge l:=by
 have h:Ja l=FK l (ln l):=by
  funext ⟨d,i⟩;simp only[Ja,FK,Mo,gG];cases decide (i<ln l)with
  |false=>rfl
  |true =>
   cases inb l i with
   |false=>rfl
   |true =>
    simp only[Qc,Qn];cases F2 (gt l i) 2147483647<;>rfl
 unfold CE Ge;rw[h]
theorem nX(l:List Int)(hl:l.length≤1048576):∃c,CE l=some c:=by
 unfold CE;obtain⟨r,hr⟩:=cW (step:=Ja l) (λi s=>s.2=(i:Int)) l.length (λi s hi hs=>by
   obtain⟨d,i'⟩:=s;simp only at hs;subst hs;obtain⟨c,hc⟩:=s7 (gt l (i:Int));refine .inr ⟨((w64 (w64 (w64 (d*1000003)+c)+13)).tmod 2147483647,w64 ((i:Int)+1)),by simp only[Ja,Qy hi,Qs hi,gG,hc,Qa,Qc,Qn],?_⟩
   exact QM (by omega)) (λs hs=>by
   obtain⟨d,i'⟩:=s;simp only at hs;subst hs;exact⟨d,by simp only[Ja,QP (Qg _),Qb]⟩) l.length 0 (11,0) (by omega) rfl
 exact⟨r,by rw[hr];rfl⟩
theorem U7(s:Int)(x:Hand):∃c,Au s x=some c∧Zq s x=some c:=by
 obtain⟨c,hc⟩:=nX [s,x.Thing,x.Holder,x.Who,x.At] (by simp)
 exact⟨c,by unfold Au;rw[hc];rfl,by unfold Zq;rw[←j9,hc];rfl⟩
def XU(l:List Hand)(t:Int):Nat→Int
 |0=>-1
 |n+1=>if(gt l (n:Int)).Thing=t then(n:Int)else XU l t n
theorem Iu(l:List Hand)(t:Int):∀n,XU l t n=-1∨∃j:Nat,j<n∧XU l t n=(j:Int)
 |0=>.inl rfl
 |n+1=>by
  unfold XU
  split
  ·exact .inr ⟨n,by omega,rfl⟩
  ·rcases Iu l t n with h|⟨j,h1,h2⟩
   ·exact .inl h
   ·exact .inr ⟨j,by omega,h2⟩
theorem aU(l:List Hand)(t:Int)(n:Nat)(hn:n≤l.length)(hl:l.length≤1048576):EM l t (n:Int)=some (XU l t n):=by
 have hr:=X0 (step:=Ac l t (n:Int)) (λi=>(XU l t i,(i:Int))) (r:=XU l t n) n (λi hi=>by
   simp only[Ac,show decide ((i:Int)<(n:Int))=true from Qf (by omega),Qs (show i<l.length by omega),QM (show(i:Int)<9223372036854775807 by omega),Qc,Qn,XU]
   by_cases ht:(gt l (i:Int)).Thing=t
   ·rw[Qf ht,if_pos ht];rfl
   ·rw[Qe ht,if_neg ht];rfl) (by
   simp only[Ac,show decide ((n:Int)<(n:Int))=false from Qe (by omega),Qb])
 unfold EM;rw[show run (Ac l t (n:Int)) ((-1),0)=some (XU l t n)from hr];rfl
theorem QbC{α:Type}[Inhabited α](l:List α)(n:Nat)(i:Nat)(h:i<n):gt (cut l 0 (n:Int)) (i:Int)=gt l (i:Int):=by
 unfold gt cut;simp[List.getD_eq_getElem?_getD,List.getElem?_take,h]
theorem jO{α:Type}(l:List α)(n:Nat)(h:n≤l.length):(cut l 0 (n:Int)).length=n:=by
 unfold cut;simp;omega
theorem ay(l:List Hand)(t:Int)(n:Nat)(hn:n≤l.length)(hl:l.length≤1048576):AA (cut l 0 (n:Int)) t=some (XU l t n):=by
 have key:∀j:Nat,j≤n→run (CI (cut l 0 (n:Int)) t) ((j:Int)-1)=some (bif decide (XU l t j<0)then .brk ()else .ret (XU l t j)):=by
  intro j
  induction j with
  |zero=>intro _;rw[QS];rfl
  |succ j ih =>
   intro hj;have hlt:j<(cut l 0 (n:Int)).length:=by rw[jO l n hn];omega
   rw[show((j+1:Nat):Int)-1=(j:Int)by omega,QS]
   simp only[CI,show decide (0≤(j:Int))=true from Qf (by omega),Qs hlt,QbC l n j (by omega),Qc,Qn]
   by_cases ht:(gt l (j:Int)).Thing=t
   ·have e:XU l t (j+1)=(j:Int):=by unfold XU;rw[if_pos ht]
    rw[Qf ht,e,Qe (show ¬(j:Int)<0 by omega)];rfl
   ·have e:XU l t (j+1)=XU l t j:=by rw[XU,if_neg ht]
    rw[Qe ht,e,show w64 ((j:Int)-1)=(j:Int)-1 from VA (by omega) (by omega)]
    exact ih (by omega)
 unfold AA;rw[show w64 (ln (cut l 0 (n:Int))-1)=(n:Int)-1 from by rw[Q5,jO l n hn,VA]<;>omega,key n (Qg _)]
 rcases Iu l t n with h|⟨j,_,h⟩
 ·rw[h];rfl
 ·rw[h,Qe (show ¬(j:Int)<0 by omega)];rfl
theorem PY(l:List Hand)(hl:l.length≤100)(s:Int)(k:Nat)(hk:k≤l.length):Q1 l (s,(k:Int))=Aa l l (ln l) (s,(k:Int)):=by
 by_cases hlt:k<l.length
 ·obtain⟨c,hc1,hc2⟩:=U7 s l[k]
  have e100:decide (ln l≤100)=true:=Qf (by rw[Q5];omega)
  have hcut:slB 0 (k:Int) (ln l)=true:=by unfold slB;simp[Q5];omega
  simp only[Q1,Aa,Qy hlt,e100,Qs hlt,QC hlt,Bool.and_true,Qc,Qn,hc1,hc2,Qa,Qq,Qo,hcut,aU l _ k hk (by omega),ay l _ k hk (by omega),QM (show(k:Int)<9223372036854775807 by omega)]
  have h3:∀h:Int,decide (3≤h)=decide (2<h):=λh=>by rw[decide_eq_decide];omega
  have tail:∀(r:Int) (q:Int),(r=-1∨∃j:Nat,j<k∧r=(j:Int)) →
    ((bif (decide (r<0))then(bif (decide (2<l[k].Holder))then some true else(bif (decide (0≤r))then(bif (decide (l[k].Holder=1))then some true else nd (inb l r)<|some (decide (3≤(gt l r).Holder)))else some false))else(bif (decide (0≤r))then(bif (decide (l[k].Holder=1))then some true else nd (inb l r)<|some (decide (3≤(gt l r).Holder)))else some false)).bind λb2=>(bif b2 then some (.inr (.ret false))else some (.inl (q,((k+1:Nat):Int))):Option ((Int×Int)⊕(Fl Bool Unit)))) =
    (bif (decide (r<0))then(bif (decide (2<l[k].Holder))then some (.inr (.ret false))else some (.inl (q,((k+1:Nat):Int))))else(bif (decide (l[k].Holder=1))then some true else nd (inb l r)<|some (decide (2<(gt l r).Holder))).bind λb2=>(bif b2 then some (.inr (.ret false))else some (.inl (q,((k+1:Nat):Int))))):=by
   intro r q hr
   rcases hr with rfl|⟨j,hj,rfl⟩
   ·simp only[show decide ((-1:Int)<0)=true from rfl,show decide (0≤(-1:Int))=false from rfl,Qc,Qb]
    cases decide (2<l[k].Holder)<;>rfl
   ·simp only[show decide ((j:Int)<0)=false from Qe (by omega),show decide (0≤(j:Int))=true from Qf (by omega),Qc,Qb,Qs (show j<l.length by omega),Qn,h3]
  have ht:=Iu l l[k].Thing k;by_cases hq:l[k].Seal=c
  ·subst hq
   simp only[decide_true,Qh,Qb];by_cases h0:0<k
   ·simp only[show decide (0<(k:Int))=true from Qf (by omega),show w64 ((k:Int)-1)=((k-1:Nat):Int)from by rw[VA]<;>omega,Qs (show k-1<l.length by omega),Qc,Qn,Qa]
    cases (decide (1≤l[k].Thing)&&decide (l[k].Thing≤999))<;>cases (decide (1≤l[k].Holder)&&decide (l[k].Holder≤5))<;>cases (decide (0≤l[k].Who)&&decide (l[k].Who≤999))<;>cases (decide (0≤l[k].At)&&decide (l[k].At≤100000))<;>cases decide (l[k].At<(gt l ((k-1:Nat):Int)).At) <;>
     simp only[Qh,Qi,Qc,Qb,Qa]
    exact tail _ _ ht
   ·simp only[show decide (0<(k:Int))=false from Qe (by omega),Qb,Qa]
    cases (decide (1≤l[k].Thing)&&decide (l[k].Thing≤999))<;>cases (decide (1≤l[k].Holder)&&decide (l[k].Holder≤5))<;>cases (decide (0≤l[k].Who)&&decide (l[k].Who≤999))<;>cases (decide (0≤l[k].At)&&decide (l[k].At≤100000)) <;>
     simp only[Qh,Qi,Qc,Qb,Qa]
    exact tail _ _ ht
  ·simp only[Qe hq,Qi,Qc]
   by_cases h0:0<k
   ·simp only[show decide (0<(k:Int))=true from Qf (by omega),show w64 ((k:Int)-1)=((k-1:Nat):Int)from by rw[VA]<;>omega,Qs (show k-1<l.length by omega),Qc,Qn,Qa]
    cases (decide (1≤l[k].Thing)&&decide (l[k].Thing≤999))<;>cases (decide (1≤l[k].Holder)&&decide (l[k].Holder≤5))<;>cases (decide (0≤l[k].Who)&&decide (l[k].Who≤999))<;>cases (decide (0≤l[k].At)&&decide (l[k].At≤100000))<;>cases decide (l[k].At<(gt l ((k-1:Nat):Int)).At) <;>
     simp only[Qh,Qi,Qc,Qb,Qa]
   ·simp only[show decide (0<(k:Int))=false from Qe (by omega),Qb,Qa]
    cases (decide (1≤l[k].Thing)&&decide (l[k].Thing≤999))<;>cases (decide (1≤l[k].Holder)&&decide (l[k].Holder≤5))<;>cases (decide (0≤l[k].Who)&&decide (l[k].Who≤999))<;>cases (decide (0≤l[k].At)&&decide (l[k].At≤100000)) <;>
     simp only[Qh,Qi,Qc,Qb,Qa]
 ·have:k=l.length:=by omega
  subst this;simp only[Q1,Aa,QP (Qg _),Bool.false_and,Qb]
theorem Gs(l:List Hand)(hl:l.length≤100)(s:Int)(k:Nat)(hlt:k<l.length) :
  Q1 l (s,(k:Int))=some (.inr (.ret false))∨(∃c,Q1 l (s,(k:Int))=some (.inl (c,((k+1:Nat):Int))))∧0≤l[k].At∧l[k].At≤100000∧∀(h:0<k),(l[k-1]'(by omega)).At≤l[k].At:=by
 obtain⟨c,hc1,hc2⟩:=U7 s l[k];have e100:decide (ln l≤100)=true:=Qf (by rw[Q5];omega)
 have ht:=Iu l l[k].Thing k;simp only[Q1,Qy hlt,e100,Qs hlt,QC hlt,Bool.and_true,Qc,Qn,hc1,Qa,Qq,aU l _ k (by omega) (by omega),QM (show(k:Int)<9223372036854775807 by omega)]
 have tail:∀r:Int,(r=-1∨∃j:Nat,j<k∧r=(j:Int))→∃b,(bif (decide (r<0))then(bif (decide (2<l[k].Holder))then some true else(bif (decide (0≤r))then(bif (decide (l[k].Holder=1))then some true else nd (inb l r)<|some (decide (3≤(gt l r).Holder)))else some false))else(bif (decide (0≤r))then(bif (decide (l[k].Holder=1))then some true else nd (inb l r)<|some (decide (3≤(gt l r).Holder)))else some false))=some b:=by
  intro r hr
  rcases hr with rfl|⟨j,hj,rfl⟩
  ·simp only[show decide ((-1:Int)<0)=true from rfl,show decide (0≤(-1:Int))=false from rfl,Qc,Qb]
   cases decide (2<l[k].Holder)<;>exact⟨_,rfl⟩
  ·simp only[show decide ((j:Int)<0)=false from Qe (by omega),show decide (0≤(j:Int))=true from Qf (by omega),Qc,Qb,Qs (show j<l.length by omega),Qn]
   cases decide (l[k].Holder=1)<;>exact⟨_,rfl⟩
 obtain⟨b,hb⟩:=tail _ ht;simp only[hb,Qa];by_cases h1:(decide (1≤l[k].Thing)&&decide (l[k].Thing≤999))=false
 ·left;simp only[h1,Qh,Qi,Qc,Qb,Qa]
 rw[Bool.not_eq_false]at h1;by_cases h2:(decide (1≤l[k].Holder)&&decide (l[k].Holder≤5))=false
 ·left;simp only[h1,h2,Qh,Qi,Qc,Qb,Qa]
 rw[Bool.not_eq_false]at h2;by_cases h3:(decide (0≤l[k].Who)&&decide (l[k].Who≤999))=false
 ·left;simp only[h1,h2,h3,Qh,Qi,Qc,Qb,Qa]
 rw[Bool.not_eq_false]at h3;by_cases h4:(decide (0≤l[k].At)&&decide (l[k].At≤100000))=false
 ·left;simp only[h1,h2,h3,h4,Qh,Qi,Qc,Qb,Qa]
 rw[Bool.not_eq_false]at h4;simp only[h1,h2,h3,h4,Qh,Qb,Qa];simp only[Bool.and_eq_true,decide_eq_true_eq]at h4;cases decide (l[k].Seal=c)with
 |false=>left;simp only[Qi,Qc,Qa]
 |true =>
  simp only[Qh,Qb];by_cases h0:0<k
  ·simp only[show decide (0<(k:Int))=true from Qf (by omega),show w64 ((k:Int)-1)=((k-1:Nat):Int)from by rw[VA]<;>omega,Qs (show k-1<l.length by omega),QC (show k-1<l.length by omega),Qc,Qn,Qa]
   by_cases h5:l[k].At<(l[k-1]'(by omega)).At
   ·left;rw[Qf h5];rfl
   ·rw[Qe h5]
    simp only[Qb];cases b with
    |true=>left;rfl
    |false=>right;exact⟨⟨_,rfl⟩,h4.1,h4.2,λ_=>by omega⟩
  ·simp only[show decide (0<(k:Int))=false from Qe (by omega),Qb,Qa]
   cases b with
   |true=>left;rfl
   |false=>right;exact⟨⟨_,rfl⟩,h4.1,h4.2,λh=>absurd h h0⟩
theorem dS(l:List Hand)(hl:l.length≤100):run (Q1 l) (0,0)=some (.brk ())∨run (Q1 l) (0,0)=some (.ret false):=by
 have key:∀(m k:Nat) (s:Int),k+m=l.length→run (Q1 l) (s,(k:Int))=some (.brk ())∨run (Q1 l) (s,(k:Int))=some (.ret false):=by
  intro m
  induction m with
  |zero =>
   intro k s hk;have:k=l.length:=by omega
   subst this;left;rw[QS];simp only[Q1,QP (Qg _),Bool.false_and,Qb,Qa]
  |succ m ih =>
   intro k s hk
   rcases Gs l hl s k (by omega)with h|⟨⟨c,h⟩,_⟩
   ·right;rw[QS,h];rfl
   ·rw[QS,h];exact ih (k+1) c (by omega)
 exact key l.length 0 0 (by omega)
theorem TQ(l:List Hand):∃b,Xm l=some b∧Xu l=some b ∧
  (b=true→l.length≤100∧∀k (h:k<l.length),0≤l[k].At∧l[k].At≤100000∧∀(h':0<k),(l[k-1]'(by omega)).At≤l[k].At):=by
 by_cases hl:l.length≤100
 ·have he:run (Q1 l) (0,0)=run (Aa l l (ln l)) (0,0):=by
   refine om (λs=>∃k:Nat,k≤l.length∧s.2=(k:Int)) (λs ⟨k,hk,hs⟩=>?_) (λs s' ⟨k,hk,hs⟩ hg=>?_) ⟨0,by omega,rfl⟩
   ·obtain⟨a,i⟩:=s
    simp only at hs;subst hs;exact PY l hl a k hk
   ·obtain⟨a,i⟩:=s
    simp only at hs;subst hs;rw[←PY l hl a k hk]at hg;by_cases hlt:k<l.length
    ·rcases Gs l hl a k hlt with h|⟨⟨c,h⟩,_⟩
     ·rw[h]at hg;simp at hg
     ·rw[h]at hg
      injection hg with hg;injection hg with hg;subst hg
      exact⟨k+1,by omega,rfl⟩
    ·have:k=l.length:=by omega
     subst this;simp only[Q1,QP (Qg _),Bool.false_and,Qb]at hg;simp at hg
  have e100:decide (ln l≤100)=true:=Qf (by rw[Q5];omega)
  have e101:decide (100<ln l)=false:=Qe (by rw[Q5];omega)
  unfold Xm Xu;rw[←he,e101]
  rcases dS l hl with h|h
  ·refine⟨true,by rw[h,e100];rfl,by rw[h];rfl,λ_=>⟨hl,λk hk=>?_⟩⟩
   obtain⟨⟨s,i⟩,s',hs,hst⟩:=SN (step:=Q1 l) (λi s=>s.2=(i:Int)) l.length () (λi s hi hs=>by
    obtain⟨a,i'⟩:=s;simp only at hs;subst hs
    rcases Gs l hl a i hi with h|⟨⟨c,h⟩,_⟩
    ·exact .inl ⟨_,h⟩
    ·exact .inr ⟨_,h,rfl⟩) l.length 0 (0,0) (by omega) rfl h k (by omega) hk
   simp only at hs;subst hs
   rcases Gs l hl s k hk with h'|⟨_,h'⟩
   ·rw[h']at hst;simp at hst
   ·exact h'
  ·exact⟨false,by rw[h];rfl,by rw[h];rfl,λh=>by cases h⟩
 ·refine⟨false,?_,?_,λh=>by cases h⟩
  ·have e100:decide (ln l≤100)=false:=Qe (by rw[Q5];omega)
   unfold Xm;rw[QS];simp only[Q1,e100,Bool.and_false,Qb,Qa];rfl
  ·unfold Xu
   rw[show decide (100<ln l)=true from Qf (by rw[Q5];omega)]
   rfl
section
variable{ρ σ:Type}
theorem EZ{n:Nat}{r:ρ}{s1 s2:Int→Option (Int⊕(Fl ρ Unit))}
  (h:∀i,i<n→(∀j,j<i→s1 (j:Int)=some (.inl ((j+1:Nat):Int)))→∃b,s1 (i:Int)=some (bif b then .inr (.ret r)else .inl ((i+1:Nat):Int))∧s2 (i:Int)=some (bif b then .inr (.ret r)else .inl ((i+1:Nat):Int)))
  (e1:s1 (n:Int)=some (.inr (.brk ()))) (e2:s2 (n:Int)=some (.inr (.brk ()))) :
  ∃b,run s1 0=some (bif b then .brk ()else .ret r)∧run s2 0=some (bif b then .brk ()else .ret r)∧(b=true→∀i,i<n→s1 (i:Int)=some (.inl ((i+1:Nat):Int))∧s2 (i:Int)=some (.inl ((i+1:Nat):Int))):=by
 have key:∀(m i:Nat),i+m=n→(∀j,j<i→s1 (j:Int)=some (.inl ((j+1:Nat):Int)))→∃b,run s1 (i:Int)=some (bif b then .brk ()else .ret r)∧run s2 (i:Int)=some (bif b then .brk ()else .ret r)∧(b=true→∀j,i≤j→j<n→s1 (j:Int)=some (.inl ((j+1:Nat):Int))∧s2 (j:Int)=some (.inl ((j+1:Nat):Int))):=by
  intro m
  induction m with
  |zero =>
   intro i hi _;have:i=n:=by omega
   subst this;exact⟨true,by rw[QS,e1];rfl,by rw[QS,e2];rfl,λ_ j h1 h2=>by omega⟩
  |succ m ih =>
   intro i hi hpre;obtain⟨b,h1,h2⟩:=h i (by omega) hpre
   cases b with
   |true=>exact⟨false,by rw[QS,h1];rfl,by rw[QS,h2];rfl,λh=>by cases h⟩
   |false =>
    obtain⟨b,q1,q2,q3⟩:=ih (i+1) (by omega) (λj hj=>by
     by_cases hji:j=i
     ·subst hji;exact h1
     ·exact hpre j (by omega))
    refine⟨b,by rw[QS,h1];exact q1,by rw[QS,h2];exact q2,λhb j hij hj=>?_⟩
    by_cases hji:i=j
    ·subst hji;exact⟨h1,h2⟩
    ·exact q3 hb j (by omega) hj
 obtain⟨b,q1,q2,q3⟩:=key n 0 (by omega) (λj hj=>by omega)
 exact⟨b,q1,q2,λhb i hi=>q3 hb i (by omega) hi⟩
theorem Mq{n:Nat}{step:σ×Int→Option ((σ×Int)⊕ρ)}{fin:σ→ρ}(Q:Nat→σ→Prop)
  (h1:∀i v,i<n→Q i v→∃v',step (v,(i:Int))=some (.inl (v',((i+1:Nat):Int)))∧Q (i+1) v') (h2:∀v,Q n v→step (v,(n:Int))=some (.inr (fin v))) :
  ∀v,Q 0 v→∃v',run step (v,0)=some (fin v')∧Q n v':=by
 have key:∀(m i:Nat) (v:σ),i+m=n→Q i v→∃v',run step (v,(i:Int))=some (fin v')∧Q n v':=by
  intro m
  induction m with
  |zero =>
   intro i v hi hq;have:i=n:=by omega
   subst this;exact⟨v,by rw[QS,h2 v hq];rfl,hq⟩
  |succ m ih =>
   intro i v hi hq;obtain⟨v',q1,q2⟩:=h1 i v (by omega) hq
   rw[QS,q1];exact ih (i+1) v' (by omega) q2
 intro v hv;exact key n 0 v (by omega) hv
end
theorem C6{n:Nat}{k:Int}{b:Bool}(x:Option (Fl Bool Unit))(hx:x=some (bif b then .brk ()else .ret false)) :
  x.bind (evO (λr=>some r) λ_=>some (decide ((n:Int)≤k)))=some (b&&decide ((n:Int)≤k)) ∧
   (bif decide (k<(n:Int))then some false else x.bind (evO (λr=>some r) λ_=>some true))=some (b&&decide ((n:Int)≤k)):=by
 subst hx;by_cases h:(n:Int)≤k
 ·rw[Qf h,Qe (show ¬k<(n:Int)by omega)]
  cases b<;>exact⟨rfl,rfl⟩
 ·rw[Qe h,Qf (show k<(n:Int)by omega)]
  cases b<;>exact⟨rfl,rfl⟩
theorem CF{i:Nat}(h0:0<i)(h:(i:Int)≤9223372036854775807):w64 ((i:Int)-1)=((i-1:Nat):Int):=by rw[VA]<;>omega
theorem Sy(l:List Entry)(hl:l.length≤2097152):∃b,Jh l=some b∧Je l=some b ∧
  (b=true→l.length≤100∧∀i (h:i<l.length),∀(h':0<i),(l[i-1]'(by omega)).At≤l[i].At):=by
 obtain⟨b,h1,h2,h3⟩:=EZ (n:=l.length) (r:=false) (s1:=Jk l) (s2:=Zl l l (ln l)) (λi hi _=>by
   simp only[Jk,Zl,Qy hi,Qs hi,QC hi,QM (show(i:Int)<9223372036854775807 by omega),Qc,Qn,Qq,Qo,Qa]
   by_cases h0:0<i
   ·simp only[show decide (0<(i:Int))=true from Qf (by omega),CF h0 (by omega),Qs (show i-1<l.length by omega),Qc,Qn]
    cases (decide (0≤l[i].From)&&decide (l[i].From≤999))<;>cases (decide (0≤l[i].To)&&decide (l[i].To≤999))<;>cases decide (l[i].From=l[i].To)<;>cases (decide (1≤l[i].Cents)&&decide (l[i].Cents≤10000000))<;>cases (decide (0≤l[i].At)&&decide (l[i].At≤100000))<;>cases decide (l[i].At<(gt l ((i-1:Nat):Int)).At)<;>first|exact⟨true,rfl,rfl⟩|exact⟨false,rfl,rfl⟩
   ·simp only[show decide (0<(i:Int))=false from Qe (by omega),Qb]
    cases (decide (0≤l[i].From)&&decide (l[i].From≤999))<;>cases (decide (0≤l[i].To)&&decide (l[i].To≤999))<;>cases decide (l[i].From=l[i].To)<;>cases (decide (1≤l[i].Cents)&&decide (l[i].Cents≤10000000))<;>cases (decide (0≤l[i].At)&&decide (l[i].At≤100000))<;>first|exact⟨true,rfl,rfl⟩|exact⟨false,rfl,rfl⟩)
  (by simp only[Jk,QP (Qg _),Qb]) (by simp only[Zl,QP (Qg _),Qb])
 refine⟨b&&decide ((l.length:Int)≤100),(C6 _ h1).1,(C6 _ h2).2,λhb=>?_⟩
 simp only[Bool.and_eq_true,decide_eq_true_eq]at hb;refine⟨by omega,λi hi h0=>?_⟩
 have hstep:=(h3 hb.1 i hi).1;simp only[Jk,Qy hi,Qs hi,QC hi,Qc,Qn,Qq,Qa,show decide (0<(i:Int))=true from Qf (by omega),CF h0 (by omega),Qs (show i-1<l.length by omega),QC (show i-1<l.length by omega)]at hstep
 by_cases hlt:l[i].At<(l[i-1]'(by omega)).At
 ·rw[Qf hlt]at hstep
  exfalso;revert hstep;cases (decide (0≤l[i].From)&&decide (l[i].From≤999))<;>cases (decide (0≤l[i].To)&&decide (l[i].To≤999))<;>cases decide (l[i].From=l[i].To)<;>cases (decide (1≤l[i].Cents)&&decide (l[i].Cents≤10000000))<;>cases (decide (0≤l[i].At)&&decide (l[i].At≤100000))<;>simp
 ·omega
theorem N4(l:List Entry)(hl:l.length≤1048576):∃b,Jh l=some b∧Je l=some b ∧
  (b=true→l.length≤100∧∀i (h:i<l.length),∀(h':0<i),(l[i-1]'(by omega)).At≤l[i].At):=Sy l (by omega)
theorem Ps(x:Thing):∃b,XM x=some b∧BK x=some b∧(b=true→1≤x.Id):=by
 have e:BK x=XM x:=rfl;rw[e];unfold XM Qq;simp only[Qa];cases h1:(decide (1≤x.Id)&&decide (x.Id≤999))with
 |false=>exact⟨false,rfl,rfl,λh=>by cases h⟩
 |true =>
  have:1≤x.Id:=by simp only[Bool.and_eq_true,decide_eq_true_eq]at h1;exact h1.1
  cases (decide (1≤x.Kind)&&decide (x.Kind≤8))<;>cases (decide (0≤x.Colour)&&decide (x.Colour≤7))<;>cases (decide (1≤x.Size)&&decide (x.Size≤50))<;>exact⟨_,rfl,rfl,λ_=>this⟩
theorem Mj(f:Find):∃b,Xj f=some b∧AF f=some b∧(b=true→1≤f.Thing.Id):=by
 obtain⟨b,h1,h2,h3⟩:=Ps f.Thing;unfold Xj AF Qq Qo;rw[h1,h2];simp only[Qa];cases b with
 |false=>exact⟨false,rfl,rfl,λh=>by cases h⟩
 |true=>cases (decide (1≤f.Place)&&decide (f.Place≤30))<;>cases (decide (0≤f.At)&&decide (f.At≤100000))<;>exact⟨_,rfl,rfl,λ_=>h3 rfl⟩
theorem Y2(l:List Find)(hl:l.length≤2097152):∃b,X7 l=some b∧AB l=some b∧(b=true→l.length≤20∧(∀i (h:i<l.length),1≤l[i].Thing.Id)∧∀i (h:i<l.length) (h0:0<i),(l[i-1]'(by omega)).Thing.Id<l[i].Thing.Id):=by
 obtain⟨b,h1,h2,h3⟩:=EZ (n:=l.length) (r:=false) (s1:=Ve l) (s2:=AR l l (ln l)) (λi hi _=>by
   obtain⟨b,q1,q2,_⟩:=Mj l[i];simp only[Ve,AR,Qy hi,Qs hi,QC hi,QM (show(i:Int)<9223372036854775807 by omega),Qc,Qn,q1,q2,Qa]
   by_cases h0:0<i
   ·simp only[show decide (0<(i:Int))=true from Qf (by omega),CF h0 (by omega),Qs (show i-1<l.length by omega),Qc,Qn]
    cases b<;>cases decide (l[i].Thing.Id≤(gt l ((i-1:Nat):Int)).Thing.Id)<;>first|exact⟨true,rfl,rfl⟩|exact⟨false,rfl,rfl⟩
   ·simp only[show decide (0<(i:Int))=false from Qe (by omega),Qb]
    cases b<;>first|exact⟨true,rfl,rfl⟩|exact⟨false,rfl,rfl⟩)
  (by simp only[Ve,QP (Qg _),Qb]) (by simp only[AR,QP (Qg _),Qb])
 refine⟨b&&decide ((l.length:Int)≤20),(C6 _ h1).1,(C6 _ h2).2,λhb=>?_⟩
 simp only[Bool.and_eq_true,decide_eq_true_eq]at hb;refine⟨by omega,λi hi=>?_,λi hi h0=>?_⟩
 ·have hstep:=(h3 hb.1 i hi).1
  obtain⟨c,q1,q2,q3⟩:=Mj l[i];simp only[Ve,Qy hi,Qs hi,QC hi,Qc,Qn,q1,Qa]at hstep;cases c with
  |true=>exact q3 rfl
  |false=>simp at hstep
 ·have hstep:=(h3 hb.1 i hi).1
  obtain⟨c,q1,q2,q3⟩:=Mj l[i];simp only[Ve,Qy hi,Qs hi,QC hi,Qc,Qn,q1,Qa,show decide (0<(i:Int))=true from Qf (by omega),CF h0 (by omega),Qs (show i-1<l.length by omega),QC (show i-1<l.length by omega)]at hstep
  by_cases hlt:l[i].Thing.Id≤(l[i-1]'(by omega)).Thing.Id
  ·exfalso
   rw[Qf hlt]at hstep;cases c<;>simp at hstep
  ·omega
theorem PD(l:List Find)(hl:l.length≤1048576):∃b,X7 l=some b∧AB l=some b∧(b=true→l.length≤20∧∀i (h:i<l.length),1≤l[i].Thing.Id):=by
 obtain⟨b,h1,h2,h3⟩:=Y2 l (by omega)
 exact⟨b,h1,h2,λh=>⟨(h3 h).1,(h3 h).2.1⟩⟩
theorem Ow(l:List Mark)(hl:l.length≤9223372036854775807):∃b,Az l=some b∧BU l=some b:=by
 obtain⟨b,h1,h2,h3⟩:=EZ (n:=l.length) (r:=false) (s1:=Jz l) (s2:=AQ l l (ln l)) (λi hi _=>by
   simp only[Jz,AQ,Qy hi,Qs hi,QC hi,QM (show(i:Int)<9223372036854775807 by omega),Qc,Qn,Qq,Qo,Qa]
   by_cases h0:0<i
   ·simp only[show decide (0<(i:Int))=true from Qf (by omega),CF h0 (by omega),Qs (show i-1<l.length by omega),Qc,Qn]
    cases (decide (1≤l[i].Question)&&decide (l[i].Question≤20))<;>cases (decide (0≤l[i].Answer)&&decide (l[i].Answer≤99))<;>cases decide (l[i].Question≤(gt l ((i-1:Nat):Int)).Question)<;>first|exact⟨true,rfl,rfl⟩|exact⟨false,rfl,rfl⟩
   ·simp only[show decide (0<(i:Int))=false from Qe (by omega),Qb]
    cases (decide (1≤l[i].Question)&&decide (l[i].Question≤20))<;>cases (decide (0≤l[i].Answer)&&decide (l[i].Answer≤99))<;>first|exact⟨true,rfl,rfl⟩|exact⟨false,rfl,rfl⟩)
  (by simp only[Jz,QP (Qg _),Qb]) (by simp only[AQ,QP (Qg _),Qb])
 exact⟨_,(C6 _ h1).1,(C6 _ h2).2⟩
theorem SO(l:List Secret)(hl:l.length≤2097152)(hm:∀x∈l,x.Marks.length≤1048576):∃b,Z3 l=some b∧Z6 l=some b∧(b=true→l.length≤20∧∀i (h:i<l.length) (h0:0<i),(l[i-1]'(by omega)).Thing<l[i].Thing):=by
 obtain⟨b,h1,h2,h3⟩:=EZ (n:=l.length) (r:=false) (s1:=Jl l) (s2:=Zd l l (ln l)) (λi hi _=>by
   obtain⟨m,m1,m2⟩:=Ow l[i].Marks (Nat.le_trans (hm _ (List.getElem_mem hi)) (by omega))
   simp only[Jl,Zd,Qy hi,Qs hi,QC hi,QM (show(i:Int)<9223372036854775807 by omega),Qc,Qn,Qq,Qo,m1,m2,Qa]
   by_cases h0:0<i
   ·simp only[show decide (0<(i:Int))=true from Qf (by omega),CF h0 (by omega),Qs (show i-1<l.length by omega),Qc,Qn]
    cases (decide (1≤l[i].Thing)&&decide (l[i].Thing≤999))<;>cases m<;>cases decide (ln l[i].Marks=0)<;>cases (decide (0≤l[i].Salt)&&decide (l[i].Salt≤1000000))<;>cases decide (l[i].Thing≤(gt l ((i-1:Nat):Int)).Thing)<;>first|exact⟨true,rfl,rfl⟩|exact⟨false,rfl,rfl⟩
   ·simp only[show decide (0<(i:Int))=false from Qe (by omega),Qb]
    cases (decide (1≤l[i].Thing)&&decide (l[i].Thing≤999))<;>cases m<;>cases decide (ln l[i].Marks=0)<;>cases (decide (0≤l[i].Salt)&&decide (l[i].Salt≤1000000))<;>first|exact⟨true,rfl,rfl⟩|exact⟨false,rfl,rfl⟩)
  (by simp only[Jl,QP (Qg _),Qb]) (by simp only[Zd,QP (Qg _),Qb])
 refine⟨_,(C6 _ h1).1,(C6 _ h2).2,λhb=>?_⟩
 simp only[Bool.and_eq_true,decide_eq_true_eq]at hb;refine⟨by omega,λi hi h0=>?_⟩
 have hstep:=(h3 hb.1 i hi).1;obtain⟨m,m1,m2⟩:=Ow l[i].Marks (Nat.le_trans (hm _ (List.getElem_mem hi)) (by omega))
 simp only[Jl,Qy hi,Qs hi,QC hi,Qc,Qn,Qq,m1,Qa,show decide (0<(i:Int))=true from Qf (by omega),CF h0 (by omega),Qs (show i-1<l.length by omega),QC (show i-1<l.length by omega)]at hstep
 by_cases hlt:l[i].Thing≤(l[i-1]'(by omega)).Thing
 ·exfalso
  rw[Qf hlt]at hstep;revert hstep;cases (decide (1≤l[i].Thing)&&decide (l[i].Thing≤999))<;>cases m<;>cases decide (ln l[i].Marks=0)<;>cases (decide (0≤l[i].Salt)&&decide (l[i].Salt≤1000000))<;>simp
 ·omega
theorem NO(l:List Secret)(hl:l.length≤1048576)(hm:∀x∈l,x.Marks.length≤1048576):∃b,Z3 l=some b∧Z6 l=some b:=by
 obtain⟨b,h1,h2,_⟩:=SO l (by omega) hm
 exact⟨b,h1,h2⟩
theorem JK{α:Type}(l:List α)(i:Nat):cut l 0 (i:Int)=l.take i:=by simp[cut]
theorem Kj{i n:Nat}(h:i≤n):slB 0 (i:Int) (n:Int)=true:=by unfold slB;simp;omega
def CB(l:List Slot)(t:Int):Int:=match l.findIdx? (λx=>decide (x.Thing=t))with|some i=>(i:Int)|none=>-1
theorem IR(l:List Slot)(t:Int)(hl:l.length≤1048576):XG l t=some (bif decide (t=0)then -1 else CB l t):=by
 have hi:=X3 l (λx=>decide (x.Thing=t)) (λi=>(i:Int)) (step:=Q3 l t (ln l))
  (λi hi=>by
   simp only[Q3,Fj,Qa,Qy hi,Qs hi,QC hi,QM (show(i:Int)<9223372036854775807 by omega),Qc,Qn]
   cases decide (l[i].Thing=t)<;>rfl)
  (by simp only[Q3,QP (Qg _),Qb])
 unfold XG V0 CB;rw[hi];cases decide (t=0)with
 |true=>rfl
 |false=>cases l.findIdx? (λx=>decide (x.Thing=t))<;>rfl
theorem Gh(l:List Slot)(t:Int):(l.any (λx=>decide (x.Thing=t))=false∧CB l t=-1)∨∃k:Nat,∃hk:k<l.length,CB l t=(k:Int)∧l[k].Thing=t∧l.any (λx=>decide (x.Thing=t))=true:=by
 unfold CB;cases hf:l.findIdx? (λx=>decide (x.Thing=t))with
 |none =>
  left;refine⟨?_,rfl⟩;rw[List.any_eq_false];intro y hy;have:=List.findIdx?_eq_none_iff.1 hf y hy;simpa using this
 |some i =>
  obtain⟨hi,hp⟩:=B6 hf;right;exact⟨i,hi,rfl,by simpa using hp,List.any_eq_true.2 ⟨_,List.getElem_mem hi,hp⟩⟩
theorem vr(l:List Slot)(t:Int)(hl:l.length≤1048576)(hid:∀x∈l,1≤x.Id):∃c,Fv l t=some c∧decide (c=0)=!(!decide (t=0)&&l.any (λx=>decide (x.Thing=t))):=by
 unfold Fv;rw[IR l t hl];by_cases ht:t=0
 ·rw[Qf ht];exact⟨0,rfl,rfl⟩
 ·rw[Qe ht]
  simp only[Qb,Qa]
  rcases Gh l t with⟨h1,h2⟩|⟨k,hk,h1,h2,h3⟩
  ·rw[h1,h2];exact⟨0,rfl,rfl⟩
  ·have hpos:=hid l[k] (List.getElem_mem hk)
   rw[h1,h3,Qe (show ¬(k:Int)<0 by omega),Qs hk,QC hk]
   refine⟨l[k].Id,rfl,?_⟩;rw[Qe (by omega)];rfl
theorem IJ(l:List Slot)(i:Nat)(hi:i<l.length)(hl:l.length≤1048576) :
  run (Zm l (i:Int)) 0=some (bif (!decide (l[i].Thing=0)&&(l.take i).any (λx=>decide (x.Thing=l[i].Thing)))then .ret false else .brk ()):=by
 have hlen:(l.take i).length=i:=by simp;omega
 have hr:=Km (l.take i) (λx=>!decide (l[i].Thing=0)&&decide (x.Thing=l[i].Thing)) (r:=false) (step:=Zm l (i:Int))
  (λk hk=>by
   rw[hlen]at hk;have hkl:k<l.length:=by omega
   have e:(l.take i)[k]'(by rw[hlen];exact hk)=l[k]:=by simp
   simp only[Zm,e,show decide ((k:Int)<(i:Int))=true from Qf (by omega),Qs hi,QC hi,Qs hkl,QC hkl,QM (show(k:Int)<9223372036854775807 by omega),Qc,Qn]
   cases decide (l[i].Thing=0)<;>cases decide (l[k].Thing=l[i].Thing)<;>rfl)
  (by rw[hlen];simp only[Zm,show decide ((i:Int)<(i:Int))=false from Qe (by omega),Qb])
 rw[hr];congr 1;cases decide (l[i].Thing=0)with
 |true =>
  have:(l.take i).any (λx=>!true&&decide (x.Thing=l[i].Thing))=false:=by rw[List.any_eq_false];simp
  rw[this];rfl
 |false=>simp
theorem Rs(l:List Slot)(hl:l.length≤1048576):∃b,JC l=some b∧AD l=some b∧(b=true→l.length≤30∧(∀x∈l,1≤x.Id)∧∀i (h:i<l.length) (h0:0<i),(l[i-1]'(by omega)).Id<l[i].Id):=by
 have idOf:∀i (hi:i<l.length),Xb l (i:Int)=some (.inl ((i+1:Nat):Int))→1≤l[i].Id:=by
  intro i hi hstep;by_cases h:1≤l[i].Id
  ·exact h
  ·exfalso
   have e:(decide (1≤l[i].Id)&&decide (l[i].Id≤99))=false:=by rw[Qe h];rfl
   simp only[Xb,Qy hi,Qs hi,QC hi,Qc,Qn,Qq,Qa,e,Qi]at hstep;simp at hstep
 obtain⟨b,h1,h2,h3⟩:=EZ (n:=l.length) (r:=false) (s1:=Xb l) (s2:=A5 l l (ln l)) (λi hi hpre=>by
   have hids:∀x∈l.take i,1≤x.Id:=by
    intro x hx;obtain⟨k,hk,rfl⟩:=List.getElem_of_mem hx;have hk':k<i:=by simp at hk;omega
    simp only[List.getElem_take];exact idOf k (by omega) (hpre k hk')
   obtain⟨c,c1,c2⟩:=vr (l.take i) l[i].Thing (by simp;omega) hids
   have hsl:slB 0 (i:Int) (ln l)=true:=Kj (by omega)
   simp only[Xb,A5,Qy hi,Qs hi,QC hi,QM (show(i:Int)<9223372036854775807 by omega),Qc,Qn,Qq,Qo,Qa,IJ l i hi hl,JK,c1,c2,hsl]
   generalize (!decide (l[i].Thing=0)&&(l.take i).any (λx=>decide (x.Thing=l[i].Thing)))=q
   by_cases h0:0<i
   ·simp only[show decide (0<(i:Int))=true from Qf (by omega),CF h0 (by omega),Qs (show i-1<l.length by omega),Qc,Qn]
    cases (decide (1≤l[i].Id)&&decide (l[i].Id≤99))<;>cases (decide (1≤l[i].Size)&&decide (l[i].Size≤50))<;>cases (decide (0≤l[i].Thing)&&decide (l[i].Thing≤999))<;>cases decide (l[i].Id≤(gt l ((i-1:Nat):Int)).Id)<;>cases q<;>first|exact⟨true,rfl,rfl⟩|exact⟨false,rfl,rfl⟩
   ·simp only[show decide (0<(i:Int))=false from Qe (by omega),Qb]
    cases (decide (1≤l[i].Id)&&decide (l[i].Id≤99))<;>cases (decide (1≤l[i].Size)&&decide (l[i].Size≤50))<;>cases (decide (0≤l[i].Thing)&&decide (l[i].Thing≤999))<;>cases q<;>first|exact⟨true,rfl,rfl⟩|exact⟨false,rfl,rfl⟩)
  (by simp only[Xb,QP (Qg _),Qb]) (by simp only[A5,QP (Qg _),Qb])
 refine⟨b&&decide ((l.length:Int)≤30),(C6 _ h1).1,(C6 _ h2).2,λhb=>?_⟩
 simp only[Bool.and_eq_true,decide_eq_true_eq]at hb;refine⟨by omega,λx hx=>?_,λi hi h0=>?_⟩
 ·obtain⟨k,hk,rfl⟩:=List.getElem_of_mem hx
  exact idOf k hk (h3 hb.1 k hk).1
 ·have hstep:=(h3 hb.1 i hi).1
  simp only[Xb,Qy hi,Qs hi,QC hi,Qc,Qn,Qq,IJ l i hi hl,Qa,show decide (0<(i:Int))=true from Qf (by omega),CF h0 (by omega),Qs (show i-1<l.length by omega),QC (show i-1<l.length by omega)]at hstep
  by_cases hlt:l[i].Id≤(l[i-1]'(by omega)).Id
  ·exfalso
   rw[Qf hlt]at hstep;revert hstep;cases (decide (1≤l[i].Id)&&decide (l[i].Id≤99))<;>cases (decide (1≤l[i].Size)&&decide (l[i].Size≤50))<;>cases (decide (0≤l[i].Thing)&&decide (l[i].Thing≤999))<;>simp
  ·omega
theorem OW(l:List Slot)(hl:l.length≤1048576):∃b,JC l=some b∧AD l=some b∧(b=true→l.length≤30∧∀x∈l,1≤x.Id):=by
 obtain⟨b,h1,h2,h3⟩:=Rs l hl;exact⟨b,h1,h2,λh=>⟨(h3 h).1,(h3 h).2.1⟩⟩
def Hf(x y:Claim):Bool:=decide (x.State=3)&&(decide (y.State=3)&&decide (y.Thing=x.Thing))
theorem HM(l:List Claim)(i:Nat)(hi:i<l.length)(hl:l.length≤2097152) :
  run (JN l (i:Int) l[i]) 0=some (bif (l.take i).any (Hf l[i])then .ret false else .brk ()):=by
 have hlen:(l.take i).length=i:=by simp;omega
 exact Km (l.take i) (Hf l[i]) (r:=false) (step:=JN l (i:Int) l[i])
  (λk hk=>by
   rw[hlen]at hk;have hkl:k<l.length:=by omega
   have e:(l.take i)[k]'(by rw[hlen];exact hk)=l[k]:=by simp
   simp only[JN,Hf,e,show decide ((k:Int)<(i:Int))=true from Qf (by omega),Qs hkl,QC hkl,QM (show(k:Int)<9223372036854775807 by omega),Qc,Qn]
   cases decide (l[i].State=3)<;>cases decide (l[k].State=3)<;>cases decide (l[k].Thing=l[i].Thing)<;>rfl)
  (by rw[hlen];simp only[JN,show decide ((i:Int)<(i:Int))=false from Qe (by omega),Qb])
theorem Pl(l t:List Claim)(x:Claim)(a b:Int)(p:List Claim)(hp:p.length≤2097152) :
  run (JM l x t a b p (ln p)) 0=some (bif p.any (Hf x)then .ret false else .brk ()):=by
 exact Km p (Hf x) (r:=false) (step:=JM l x t a b p (ln p))
  (λk hk=>by
   have hc:decide (x.Thing=p[k].Thing)=decide (p[k].Thing=x.Thing):=by rw[decide_eq_decide];exact eq_comm
   simp only[JM,Hf,Qy hk,Qs hk,QC hk,hc,QM (show(k:Int)<9223372036854775807 by omega),Qc,Qn]
   cases (decide (x.State=3)&&(decide (p[k].State=3)&&decide (p[k].Thing=x.Thing)))<;>rfl)
  (by simp only[JM,QP (Qg _),Qb])
theorem NQ(l:List Claim)(hl:l.length≤2097152):∃b,Vu l=some b∧X2 l=some b∧(b=true→l.length≤20∧∀i (h:i<l.length),0≤l[i].State∧l[i].State≤3):=by
 obtain⟨b,h1,h2,h3⟩:=EZ (n:=l.length) (r:=false) (s1:=Vl l) (s2:=ZL l l (ln l)) (λi hi _=>by
   have hsl:slB 0 (i:Int) (ln l)=true:=Kj (by omega)
   simp only[Vl,ZL,Qy hi,Qs hi,QC hi,QM (show(i:Int)<9223372036854775807 by omega),Qc,Qn,Qq,Qo,Qa,HM l i hi hl,JK,hsl,Pl l l l[i] (ln l) (i:Int) (l.take i) (by simp;omega)]
   generalize (l.take i).any (Hf l[i])=q;by_cases h0:0<i
   ·simp only[show decide (0<(i:Int))=true from Qf (by omega),CF h0 (by omega),Qs (show i-1<l.length by omega),Qc,Qn]
    cases (decide (1≤l[i].Id)&&decide (l[i].Id≤999))<;>cases (decide (1≤l[i].Who)&&decide (l[i].Who≤999))<;>cases (decide (1≤l[i].Thing)&&decide (l[i].Thing≤999))<;>cases (decide (0≤l[i].At)&&decide (l[i].At≤100000))<;>cases (decide (0≤l[i].State)&&decide (l[i].State≤3))<;>cases decide (l[i].Id≤(gt l ((i-1:Nat):Int)).Id)<;>cases q<;>first|exact⟨true,rfl,rfl⟩|exact⟨false,rfl,rfl⟩
   ·simp only[show decide (0<(i:Int))=false from Qe (by omega),Qb]
    cases (decide (1≤l[i].Id)&&decide (l[i].Id≤999))<;>cases (decide (1≤l[i].Who)&&decide (l[i].Who≤999))<;>cases (decide (1≤l[i].Thing)&&decide (l[i].Thing≤999))<;>cases (decide (0≤l[i].At)&&decide (l[i].At≤100000))<;>cases (decide (0≤l[i].State)&&decide (l[i].State≤3))<;>cases q<;>first|exact⟨true,rfl,rfl⟩|exact⟨false,rfl,rfl⟩)
  (by simp only[Vl,QP (Qg _),Qb]) (by simp only[ZL,QP (Qg _),Qb])
 refine⟨b&&decide ((l.length:Int)≤20),(C6 _ h1).1,(C6 _ h2).2,λhb=>?_⟩
 simp only[Bool.and_eq_true,decide_eq_true_eq]at hb;refine⟨by omega,λi hi=>?_⟩
 have hstep:=(h3 hb.1 i hi).1;simp only[Vl,Qy hi,Qs hi,QC hi,Qc,Qn,Qq,Qa]at hstep;by_cases hst:(decide (0≤l[i].State)&&decide (l[i].State≤3))=true
 ·simpa using hst
 ·exfalso
  simp only[Bool.eq_false_iff.2 hst,Qi,Qc]at hstep;revert hstep;cases (decide (1≤l[i].Id)&&decide (l[i].Id≤999))<;>cases (decide (1≤l[i].Who)&&decide (l[i].Who≤999))<;>cases (decide (1≤l[i].Thing)&&decide (l[i].Thing≤999))<;>cases (decide (0≤l[i].At)&&decide (l[i].At≤100000))<;>simp
theorem G5(l:List Claim)(hl:l.length≤1048576):∃b,Vu l=some b∧X2 l=some b∧(b=true→l.length≤20∧∀i (h:i<l.length),0≤l[i].State∧l[i].State≤3):=NQ l (by omega)
def Xh(l:List Find)(id:Int):Int:=match l.findIdx? (λx=>decide (x.Thing.Id=id))with|some i=>(i:Int)|none=>-1
theorem Xw(l:List Find)(id:Int)(hl:l.length≤1048576):VZ l id=some (Xh l id)∧Xf l id=some (Xh l id):=by
 have hs:=X3 l (λx=>decide (x.Thing.Id=id)) (λi=>(i:Int)) (step:=ZO l id)
  (λi hi=>by
   simp only[ZO,Qy hi,Qs hi,QC hi,QM (show(i:Int)<9223372036854775807 by omega),Qc,Qn]
   cases decide (l[i].Thing.Id=id)<;>rfl)
  (by simp only[ZO,QP (Qg _),Qb])
 have hi:=X3 l (λx=>decide (x.Thing.Id=id)) (λi=>(i:Int)) (step:=QY l id (ln l))
  (λi hi=>by
   simp only[QY,Ek,Qa,Qy hi,Qs hi,QC hi,QM (show(i:Int)<9223372036854775807 by omega),Qc,Qn]
   cases decide (l[i].Thing.Id=id)<;>rfl)
  (by simp only[QY,QP (Qg _),Qb])
 unfold VZ Xf VU Xh;rw[hs,hi];cases l.findIdx? (λx=>decide (x.Thing.Id=id))<;>exact⟨rfl,rfl⟩
end Go.Proofs.YtoilkmgiofimjaaGreatDoor
