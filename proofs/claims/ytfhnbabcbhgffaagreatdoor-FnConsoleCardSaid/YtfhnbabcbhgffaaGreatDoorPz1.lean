import Derived.Test.YtfhnbabcbhgffaaGreatDoorFam
import Derived.Lib.SplitLaws
set_option linter.unusedVariables false
set_option linter.unusedSimpArgs false
set_option linter.defProp false
namespace Go.Proofs.YtfhnbabcbhgffaaGreatDoor
open Go
def rI{S R:Type}{step:S→Option (S⊕R)}{s s':S}(h:step s=some (.inl s')):run step s=run step s':=by rw[QZ,h];rfl
def rR{S R:Type}{step:S→Option (S⊕R)}{s:S}{r:R}(h:step s=some (.inr r)):run step s=some r:=by rw[QZ,h];rfl
def az(p:List UInt8):List (List UInt8)→List (List UInt8)
 |[]=>[p]
 |x::l=>(p++x)::l
def De(c:UInt8):List UInt8→List (List UInt8)
 |[]=>[[]]
 |b::t=>if b=c then[]::De c t else az [b] (De c t)
def Ev(c:UInt8):∀s,∃x l,De c s=x::l
 |[]=>⟨[],[],rfl⟩
 |b::t=>by
  obtain⟨x,l,h⟩:=Ev c t;unfold De;by_cases hb:b=c
  ·rw[if_pos hb];exact⟨_,_,rfl⟩
  ·rw[if_neg hb,h];exact⟨_,_,rfl⟩
def L2(c:UInt8):∀s,(De c s).length≤s.length+1
 |[]=>by simp[De]
 |b::t=>by
  obtain⟨x,l,h⟩:=Ev c t;have:=L2 c t;unfold De;by_cases hb:b=c
  ·rw[if_pos hb];simp;omega
  ·rw[if_neg hb,h];rw[h]at this;simp[az]at this ⊢;omega
def UD(c:UInt8):∀s,∀x∈De c s,x.length≤s.length∧c∉x
 |[],x,hx=>by simp[De]at hx;subst hx;simp
 |b::t,y,hy=>by
  obtain⟨x,l,h⟩:=Ev c t;have ih:=UD c t;unfold De at hy;by_cases hb:b=c
  ·rw[if_pos hb]at hy
   rcases List.mem_cons.1 hy with rfl|hy
   ·simp
   ·have:=ih y hy
    exact⟨by simp;omega,this.2⟩
  ·rw[if_neg hb,h]at hy
   rw[h]at ih
   rcases List.mem_cons.1 hy with rfl|hy
   ·have:=ih x (by simp)
    refine⟨by simp;omega,?_⟩
    simp only[List.singleton_append,List.mem_cons,not_or];exact⟨λhc=>hb hc.symm,this.2⟩
   ·have:=ih y (by simp[hy])
    exact⟨by simp;omega,this.2⟩
def WB(c:UInt8):∀s,c∉s→De c s=[s]
 |[],_=>rfl
 |b::t,h=>by
  simp only[List.mem_cons,not_or]at h;unfold De;rw[if_neg (λhb=>h.1 hb.symm),WB c t h.2]
  rfl
def ip(c:UInt8):∀a t,c∉a→De c (a++c::t)=a::De c t
 |[],t,_=>by simp[De]
 |b::a,t,h=>by
  simp only[List.mem_cons,not_or]at h;rw[List.cons_append,De,if_neg (λhb=>h.1 hb.symm),ip c a t h.2]
  rfl
def eQ(c:UInt8):∀s,Lib.join (De c s) [c]=s
 |[]=>rfl
 |b::t=>by
  obtain⟨x,l,h⟩:=Ev c t;have ih:=eQ c t;unfold De;by_cases hb:b=c
  ·rw[if_pos hb,h]
   rw[h]at ih;subst hb;simp only[Lib.join,Lib.joinTail]at ih ⊢;simp[ih]
  ·rw[if_neg hb,h]
   rw[h]at ih;simp only[az,Lib.join]at ih ⊢;simp[ih]
def ma(b c:UInt8)(l:List UInt8):Lib.index (b::l) [c]=if b=c then 0 else if Lib.index l [c]==-1 then -1 else Lib.index l [c]+1:=by
 rw[Lib.index];by_cases h:b=c
 ·subst h;rw[if_pos rfl,if_pos (by simp)]
 ·have:([c]:List UInt8).isPrefixOf (b::l)=false:=by
   have hc:(c==b)=false:=by rw[beq_eq_false_iff_ne];exact λe=>h e.symm
   show(c==b&&_)=false;rw[hc];rfl
  rw[this,if_neg h];rfl
def eD(c:UInt8):∀s,Lib.split s [c]=De c s
 |[]=>rfl
 |b::l=>by
  have ih:=eD c l;have hi:=ma b c l;unfold Lib.split at ih ⊢;unfold De;by_cases hb:b=c
  ·rw[if_pos hb]at hi ⊢
   rw[Lib.count_hit (i:=0) (by simp) hi,Nat.add_comm,Lib.splitK,if_neg (by rw[hi];decide),hi]
   simp only[List.length_singleton,Nat.zero_add,List.drop_one,List.tail_cons,Int.toNat_zero,Nat.add_zero,List.take_zero];rw[ih]
  ·rw[if_neg hb]at hi ⊢
   rcases Lib.index_spec l [c]with⟨h1,_⟩|⟨i,h1,h2,_⟩
   ·rw[h1]at hi
    have h3:Lib.index (b::l) [c]=-1:=by simpa using hi
    rw[Lib.count_miss h1]at ih;rw[Lib.count_miss h3,←ih];rfl
   ·rw[h1,if_neg (by simp)]at hi
    have hi':Lib.index (b::l) [c]=((i+1:Nat):Int):=by rw[hi];omega
    rw[Lib.count_hit (by simp) h1,Nat.add_comm,Lib.splitK,if_neg (by rw[h1];simp),h1]at ih
    rw[Lib.count_hit (by simp) hi',Nat.add_comm,Lib.splitK,if_neg (by rw[hi'];simp;omega),hi',←ih]
    simp[az]
def cK(s:List UInt8)(c:UInt8)(h:s.length≤4000000):strings_Split s [c]=some (De c s):=by
 unfold strings_Split;rw[Qf (show s.length<4294967281 by omega)]
 simp[eD,QL]
def Qm7(s:List UInt8)(c:UInt8)(h:s.length≤4000000):(c∉s∧strings_Cut s [c]=some (s,[],false))∨∃a t,s=a++c::t∧c∉a∧strings_Cut s [c]=some (a,t,true):=by
 have key:∀s:List UInt8,(c∉s∧Lib.index s [c]=-1)∨∃a t,s=a++c::t∧c∉a∧Lib.index s [c]=(a.length:Int):=by
  intro s
  induction s with
  |nil=>exact .inl ⟨by simp,rfl⟩
  |cons b l ih =>
   have hi:=ma b c l;by_cases hb:b=c
   ·rw[if_pos hb]at hi
    subst hb;exact .inr ⟨[],l,rfl,by simp,by rw[hi];rfl⟩
   ·rw[if_neg hb]at hi
    rcases ih with⟨h1,h2⟩|⟨a,t,h1,h2,h3⟩
    ·rw[h2]at hi
     exact .inl ⟨by rw[List.mem_cons];exact λhc=>hc.elim (λe=>hb e.symm) h1,by simpa using hi⟩
    ·rw[h3,if_neg (by simp)]at hi
     exact .inr ⟨b::a,t,by rw[h1];rfl,by rw[List.mem_cons];exact λhc=>hc.elim (λe=>hb e.symm) h2,by rw[hi];simp⟩
 unfold strings_Cut;rw[Qf (show s.length<4294967281 by omega)]
 simp only[QL]
 rcases key s with⟨h1,h2⟩|⟨a,t,h1,h2,h3⟩
 ·exact .inl ⟨h1,by unfold Lib.cut;rw[h2];rfl⟩
 ·refine .inr ⟨a,t,h1,h2,?_⟩
  unfold Lib.cut;rw[h3];subst h1;simp
def NT{l:List (List UInt8)}(h:∃x t,l=x::t):az [] l=l:=by
 obtain⟨x,t,rfl⟩:=h;rfl
def dW(p q:List UInt8){l:List (List UInt8)}(h:∃x t,l=x::t):az p (az q l)=az (p++q) l:=by
 obtain⟨x,t,rfl⟩:=h;simp[az]
def WG(s:List UInt8)(a i:Nat)(h:i<s.length)(ha:a≤i):cut s (a:Int) ((i+1:Nat):Int)=cut s (a:Int) (i:Int)++[s[i]]:=by
 unfold cut;simp only[Int.toNat_natCast];rw[List.take_succ_eq_append_getElem h,List.drop_append_of_le_length (by simp;omega)]
def Ld(s:List UInt8)(i:Nat):cut s (i:Int) (i:Int)=[]:=by
 unfold cut;simp only[Int.toNat_natCast];rw[List.drop_eq_nil_iff];simp;omega
def dz(x c:UInt8):decide (((x.toNat:Nat):Int)=((c.toNat:Nat):Int))=decide (x=c):=by
 apply decide_eq_decide.2;constructor
 ·intro h;exact UInt8.toNat_inj.1 (by omega)
 ·rintro rfl;rfl
def O8{α:Type}{l:List α}{i:Nat}(h:i≤l.length):decide ((i:Int)≤ln l)=true:=Qf (by unfold ln;omega)
def iF{α:Type}{l:List α}{i:Nat}(h:l.length<i):decide ((i:Int)≤ln l)=false:=Qe (by unfold ln;omega)
def jH{α:Type}{l:List α}:decide ((l.length:Int)=ln l)=true:=Qf rfl
def iP{α:Type}{l:List α}{i:Nat}(h:i<l.length):decide ((i:Int)=ln l)=false:=Qe (by unfold ln;omega)
def SG{α:Type}{l:List α}{a i:Nat}(h:a≤i)(h2:i≤l.length):Cy (a:Int) (i:Int) (ln l)=true:=by unfold Cy ln;simp;omega
def d5{n:Nat}(h:n≤2000000):rm n 16=true:=by unfold rm;simp;omega
def xB(s:List UInt8)(c:UInt8)(hl:s.length≤1048576):∀(m a i:Nat) (o:List (List UInt8)),i+m=s.length→a≤i→o.length≤i →
  run (Bp s ((c.toNat:Nat):Int)) (o,(a:Int),(i:Int))=some (o++az (cut s (a:Int) (i:Int)) (De c (s.drop i))):=by
 intro m
 induction m with
 |zero =>
  intro a i o hi ha ho;have e:i=s.length:=by omega
  subst e;rw[rI (s':=(o++[cut s (a:Int) (s.length:Int)],((s.length+1:Nat):Int),((s.length+1:Nat):Int))) (by
   simp only[Bp,O8 (Qg s.length),jH,Qc,Qa,Q3 (show(s.length:Int)<9223372036854775807 by omega),
    SG (l:=s) ha (Qg _),d5 (show o.length+1≤2000000 by omega),QL])]
  rw[rR (r:=o++[cut s (a:Int) (s.length:Int)]) (by
   simp only[Bp,iF (Nat.lt_succ_self s.length),Qb])]
  simp[De,az]
 |succ m ih =>
  intro a i o hi ha ho;have hlt:i<s.length:=by omega
  have hd:s.drop i=s[i]::s.drop (i+1):=List.drop_eq_getElem_cons hlt;have hstep:Bp s ((c.toNat:Nat):Int) (o,(a:Int),(i:Int))=(bif decide (s[i]=c)then some (.inl (o++[cut s (a:Int) (i:Int)],((i+1:Nat):Int),((i+1:Nat):Int)))else some (.inl (o,(a:Int),((i+1:Nat):Int)))):=by
   simp only[Bp,O8 (Nat.le_of_lt hlt),iP hlt,QR hlt,Q2 hlt,Qc,Qb,QL,Qa,dz,
    Q3 (show(i:Int)<9223372036854775807 by omega),SG (l:=s) ha (Nat.le_of_lt hlt),d5 (show o.length+1≤2000000 by omega)]
  rw[hd,De];by_cases hc:s[i]=c
  ·rw[Qf hc,Qc]at hstep
   rw[rI hstep,ih (i+1) (i+1) _ (by omega) (by omega) (by simp;omega),if_pos hc,Ld,NT (Ev c _)]
   simp[az]
  ·rw[Qe hc,Qb]at hstep
   rw[rI hstep,ih a (i+1) _ (by omega) (by omega) (by omega),if_neg hc,WG s a i hlt ha,dW _ _ (Ev c _)]
def Wn(s:List UInt8)(c:UInt8)(hl:s.length≤1048576):A9 s ((c.toNat:Nat):Int)=some (De c s):=by
 unfold A9;rw[show(([]:List (List UInt8)),(0:Int),(0:Int))=([],((0:Nat):Int),((0:Nat):Int))from rfl,xB s c hl s.length 0 0 [] (by omega) (by omega) (by simp)]
 rw[Ld,List.drop_zero,NT (Ev c _)];rfl
def jr(l:List UInt8):List (List UInt8):=(De 32 l).filter λx=>!decide (x=[])
def xc(l:List UInt8)(hl:l.length≤1048576):∀(m i:Nat) (o:List (List UInt8)) (w:List UInt8),i+m=l.length→o.length≤i→w.length≤i →
  run (Z3 l) (o,w,(i:Int))=some (o++(az w (De 32 (l.drop i))).filter λx=>!decide (x=[])):=by
 intro m
 induction m with
 |zero =>
  intro i o w hi ho hw;have e:i=l.length:=by omega
  subst e;have h2:∀o' w',run (Z3 l) (o',w',((l.length+1:Nat):Int))=some o':=λo' w'=>rR (by
   simp only[Z3,iF (Nat.lt_succ_self l.length),Qb])
  rw[rI (s':=((bif !decide (w=[])then o++[w]else o),[],((l.length+1:Nat):Int))) (by
   simp only[Z3,O8 (Qg l.length),Q6 (Qg l.length),Qc,Qb,Qa,Q3 (show(l.length:Int)<9223372036854775807 by omega),
    d5 (show o.length+1≤2000000 by omega),QL]
   cases decide (w=[])<;>rfl),h2]
  simp only[List.drop_length,De,az,List.append_nil,List.filter_cons,List.filter_nil];cases decide (w=[])<;>simp
 |succ m ih =>
  intro i o w hi ho hw;have hlt:i<l.length:=by omega
  have hd:l.drop i=l[i]::l.drop (i+1):=List.drop_eq_getElem_cons hlt;have hc1:cut l (i:Int) ((i+1:Nat):Int)=[l[i]]:=by rw[WG l i i hlt (Qg _),Ld];rfl
  have hstep:Z3 l (o,w,(i:Int))=(bif decide (l[i]=32)then some (.inl ((bif !decide (w=[])then o++[w]else o),[],((i+1:Nat):Int)))else some (.inl (o,w++[l[i]],((i+1:Nat):Int)))):=by
   simp only[Z3,O8 (Nat.le_of_lt hlt),QY hlt,QR hlt,Q2 hlt,Qc,Qb,QL,Qa,
    show decide (((l[i].toNat:Nat):Int)=32)=decide (l[i]=32)from dz l[i] 32,Q3 (show(i:Int)<9223372036854775807 by omega),SG (l:=l) (Nat.le_succ i) hlt,hc1,
    show VK w [l[i]]=true by unfold VK;simp;omega,d5 (show o.length+1≤2000000 by omega),QP]
   cases decide (l[i]=32)<;>cases decide (w=[])<;>rfl
  rw[hd,De];by_cases hc:l[i]=32
  ·rw[Qf hc,Qc]at hstep
   rw[rI hstep,ih (i+1) _ [] (by omega) (by cases decide (w=[])<;>simp<;>omega) (by simp),if_pos hc,NT (Ev 32 _)]
   simp only[az,List.append_nil,List.filter_cons];cases decide (w=[])<;>simp
  ·rw[Qe hc,Qb]at hstep
   rw[rI hstep,ih (i+1) o _ (by omega) (by omega) (by simp;omega),if_neg hc,dW _ _ (Ev 32 _)]
def Rz(l:List UInt8)(hl:l.length≤1048576):KA l=some (jr l):=by
 unfold KA;rw[show(([]:List (List UInt8)),([]:List UInt8),(0:Int))=([],[],((0:Nat):Int))from rfl,xc l hl l.length 0 [] [] (by omega) (by simp) (by simp),List.drop_zero,NT (Ev 32 _)]
 rfl
def tr:List (List UInt8)→List (List UInt8)
 |[]=>[]
 |[x]=>if x=[]then[]else[x]
 |x::y::l=>x::tr (y::l)
def dI(x:List UInt8){l:List (List UInt8)}(h:∃y t,l=y::t):tr (x::l)=x::tr l:=by
 obtain⟨y,t,rfl⟩:=h;rfl
def rk:∀(l:List (List UInt8)),∀x∈tr l,x∈l
 |[],x,h=>by simp[tr]at h
 |[y],x,h=>by
  unfold tr at h
  split at h
  ·simp at h
  ·exact h
 |y::z::l,x,h=>by
  rw[dI y ⟨z,l,rfl⟩]at h
  rcases List.mem_cons.1 h with h|h
  ·simp[h]
  ·exact List.mem_cons_of_mem _ (rk (z::l) x h)
def dq:∀(l:List (List UInt8)) (h:l≠[]),tr l=if l.getLast h=[]then l.dropLast else l
 |[],h=>absurd rfl h
 |[x],_=>by
  unfold tr;by_cases hx:x=[]<;>simp[hx]
 |x::y::l,_=>by
  rw[dI x ⟨y,l,rfl⟩,dq (y::l) (by simp),List.getLast_cons (a:=x) (l:=y::l) (by simp)]
  by_cases hx:(y::l).getLast (by simp)=[]
  ·rw[if_pos hx,if_pos hx];simp
  ·rw[if_neg hx,if_neg hx]
def TC(v:Int){m:Int}(hm:0<m):-m<v.tmod m∧v.tmod m<m:=by
 refine⟨?_,Int.tmod_lt_of_pos v hm⟩;have h:=Int.tmod_lt_of_pos (-v) hm;rw[Int.neg_tmod]at h;omega
def jZ(v:Int):GO v 2147483647=G7 v 2147483647:=by
 obtain⟨h1,h2⟩:=TC v (m:=2147483647) (by omega)
 unfold GO G7 QO QM;simp only[Qa,show(decide ((1:Int)≤2147483647)&&decide ((2147483647:Int)≤1000000000000))=true from rfl,Qh,Qb,show(!decide ((2147483647:Int)=0))=true from rfl,QL];generalize v.tmod 2147483647=t at h1 h2;rw[Vt (by omega) (by omega)]
 by_cases ht:t<0
 ·rw[Qf ht,Qc,Int.tmod_eq_of_lt (by omega) (by omega)]
 ·rw[Qe ht,Qb,Int.tmod_eq_emod_of_nonneg (by omega)]
  congr 1;omega
def rX(v:Int):∃c,G7 v 2147483647=some c:=by
 unfold G7 QM;simp only[Qa,show(decide ((1:Int)≤2147483647)&&decide ((2147483647:Int)≤1000000000000))=true from rfl,Qh,Qb,show(!decide ((2147483647:Int)=0))=true from rfl,QL];cases decide (v.tmod 2147483647<0)<;>exact⟨_,rfl⟩
def kt(l:List Int):Dd l=Hd l:=by
 have h:Za l=G0 l (ln l):=by
  funext ⟨d,i⟩;simp only[Za,G0,NP,jZ];cases decide (i<ln l)with
  |false=>rfl
  |true =>
   cases Q0 l i with
   |false=>rfl
   |true =>
    simp only[Qc,QL];cases G7 (gt l i) 2147483647<;>rfl
 unfold Dd Hd;rw[h]
def og(l:List Int)(hl:l.length≤1048576):∃c,Dd l=some c:=by
 unfold Dd;obtain⟨r,hr⟩:=ff (step:=Za l) (λi s=>s.2=(i:Int)) l.length (λi s hi hs=>by
   obtain⟨d,i'⟩:=s;simp only at hs;subst hs;obtain⟨c,hc⟩:=rX (gt l (i:Int));refine .inr ⟨((QV (QV (QV (d*1000003)+c)+13)).tmod 2147483647,QV ((i:Int)+1)),by simp only[Za,QY hi,QR hi,jZ,hc,Qa,Qc,QL],?_⟩
   exact Q3 (by omega)) (λs hs=>by
   obtain⟨d,i'⟩:=s;simp only at hs;subst hs;exact⟨d,by simp only[Za,Q6 (Qg _),Qb]⟩) l.length 0 (11,0) (by omega) rfl
 exact⟨r,by rw[hr];rfl⟩
def Y7(s:Int)(x:Hand):∃c,A4 s x=some c∧Z8 s x=some c:=by
 obtain⟨c,hc⟩:=og [s,x.Qo,x.Qx,x.QA,x.At] (by simp)
 exact⟨c,by unfold A4;rw[hc];rfl,by unfold Z8;rw[←kt,hc];rfl⟩
def JI(l:List Hand)(t:Int):Nat→Int
 |0=>-1
 |n+1=>if(gt l (n:Int)).Qo=t then(n:Int)else JI l t n
def K5(l:List Hand)(t:Int):∀n,JI l t n=-1∨∃j:Nat,j<n∧JI l t n=(j:Int)
 |0=>.inl rfl
 |n+1=>by
  unfold JI
  split
  ·exact .inr ⟨n,by omega,rfl⟩
  ·rcases K5 l t n with h|⟨j,h1,h2⟩
   ·exact .inl h
   ·exact .inr ⟨j,by omega,h2⟩
def cz(l:List Hand)(t:Int)(n:Nat)(hn:n≤l.length)(hl:l.length≤1048576):Ft l t (n:Int)=some (JI l t n):=by
 have hr:=Xe (step:=AB l t (n:Int)) (λi=>(JI l t i,(i:Int))) (r:=JI l t n) n (λi hi=>by
   simp only[AB,show decide ((i:Int)<(n:Int))=true from Qf (by omega),QR (show i<l.length by omega),Q3 (show(i:Int)<9223372036854775807 by omega),Qc,QL,JI]
   by_cases ht:(gt l (i:Int)).Qo=t
   ·rw[Qf ht,if_pos ht];rfl
   ·rw[Qe ht,if_neg ht];rfl) (by
   simp only[AB,show decide ((n:Int)<(n:Int))=false from Qe (by omega),Qb])
 unfold Ft;rw[show run (AB l t (n:Int)) ((-1),0)=some (JI l t n)from hr];rfl
def QcY{α:Type}[Inhabited α](l:List α)(n:Nat)(i:Nat)(h:i<n):gt (cut l 0 (n:Int)) (i:Int)=gt l (i:Int):=by
 unfold gt cut;simp[List.getD_eq_getElem?_getD,List.getElem?_take,h]
def lY{α:Type}(l:List α)(n:Nat)(h:n≤l.length):(cut l 0 (n:Int)).length=n:=by
 unfold cut;simp;omega
def bK(l:List Hand)(t:Int)(n:Nat)(hn:n≤l.length)(hl:l.length≤1048576):AY (cut l 0 (n:Int)) t=some (JI l t n):=by
 have key:∀j:Nat,j≤n→run (CQ (cut l 0 (n:Int)) t) ((j:Int)-1)=some (bif decide (JI l t j<0)then .brk ()else .ret (JI l t j)):=by
  intro j
  induction j with
  |zero=>intro _;rw[QZ];rfl
  |succ j ih =>
   intro hj;have hlt:j<(cut l 0 (n:Int)).length:=by rw[lY l n hn];omega
   rw[show((j+1:Nat):Int)-1=(j:Int)by omega,QZ]
   simp only[CQ,show decide (0≤(j:Int))=true from Qf (by omega),QR hlt,QcY l n j (by omega),Qc,QL]
   by_cases ht:(gt l (j:Int)).Qo=t
   ·have e:JI l t (j+1)=(j:Int):=by unfold JI;rw[if_pos ht]
    rw[Qf ht,e,Qe (show ¬(j:Int)<0 by omega)];rfl
   ·have e:JI l t (j+1)=JI l t j:=by rw[JI,if_neg ht]
    rw[Qe ht,e,show QV ((j:Int)-1)=(j:Int)-1 from Vt (by omega) (by omega)]
    exact ih (by omega)
 unfold AY;rw[show QV (ln (cut l 0 (n:Int))-1)=(n:Int)-1 from by rw[Vq,lY l n hn,Vt]<;>omega,key n (Qg _)]
 rcases K5 l t n with h|⟨j,_,h⟩
 ·rw[h];rfl
 ·rw[h,Qe (show ¬(j:Int)<0 by omega)];rfl
def PL(l:List Hand)(hl:l.length≤100)(s:Int)(k:Nat)(hk:k≤l.length):Vz l (s,(k:Int))=AH l l (ln l) (s,(k:Int)):=by
 by_cases hlt:k<l.length
 ·obtain⟨c,hc1,hc2⟩:=Y7 s l[k]
  have e100:decide (ln l≤100)=true:=Qf (by rw[Vq];omega)
  have hcut:Cy 0 (k:Int) (ln l)=true:=by unfold Cy;simp[Vq];omega
  simp only[Vz,AH,QY hlt,e100,QR hlt,Q2 hlt,Bool.and_true,Qc,QL,hc1,hc2,Qa,QO,QM,hcut,cz l _ k hk (by omega),bK l _ k hk (by omega),Q3 (show(k:Int)<9223372036854775807 by omega)]
  have h3:∀h:Int,decide (3≤h)=decide (2<h):=λh=>by rw[decide_eq_decide];omega
  have tail:∀(r:Int) (q:Int),(r=-1∨∃j:Nat,j<k∧r=(j:Int)) →
    ((bif decide (r<0)then(bif decide (2<l[k].Qx)then some true else(bif decide (0≤r)then(bif decide (l[k].Qx=1)then some true else nd (Q0 l r)<|some (decide (3≤(gt l r).Qx)))else some false))else(bif decide (0≤r)then(bif decide (l[k].Qx=1)then some true else nd (Q0 l r)<|some (decide (3≤(gt l r).Qx)))else some false)).bind λb2=>(bif b2 then some (.inr (.ret false))else some (.inl (q,((k+1:Nat):Int))):Option ((Int×Int)⊕(Fl Bool Unit)))) =
    (bif decide (r<0)then(bif decide (2<l[k].Qx)then some (.inr (.ret false))else some (.inl (q,((k+1:Nat):Int))))else(bif decide (l[k].Qx=1)then some true else nd (Q0 l r)<|some (decide (2<(gt l r).Qx))).bind λb2=>(bif b2 then some (.inr (.ret false))else some (.inl (q,((k+1:Nat):Int))))):=by
   intro r q hr
   rcases hr with rfl|⟨j,hj,rfl⟩
   ·simp only[show decide ((-1:Int)<0)=true from rfl,show decide (0≤(-1:Int))=false from rfl,Qc,Qb]
    cases decide (2<l[k].Qx)<;>rfl
   ·simp only[show decide ((j:Int)<0)=false from Qe (by omega),show decide (0≤(j:Int))=true from Qf (by omega),Qc,Qb,QR (show j<l.length by omega),QL,h3]
  have ht:=K5 l l[k].Qo k;by_cases hq:l[k].Seal=c
  ·subst hq
   simp only[decide_true,Qh,Qb];by_cases h0:0<k
   ·simp only[show decide (0<(k:Int))=true from Qf (by omega),show QV ((k:Int)-1)=((k-1:Nat):Int)from by rw[Vt]<;>omega,QR (show k-1<l.length by omega),Qc,QL,Qa]
    cases (decide (1≤l[k].Qo)&&decide (l[k].Qo≤999))<;>cases (decide (1≤l[k].Qx)&&decide (l[k].Qx≤5))<;>cases (decide (0≤l[k].QA)&&decide (l[k].QA≤999))<;>cases (decide (0≤l[k].At)&&decide (l[k].At≤100000))<;>cases decide (l[k].At<(gt l ((k-1:Nat):Int)).At) <;>
     simp only[Qh,Qi,Qc,Qb,Qa]
    exact tail _ _ ht
   ·simp only[show decide (0<(k:Int))=false from Qe (by omega),Qb,Qa]
    cases (decide (1≤l[k].Qo)&&decide (l[k].Qo≤999))<;>cases (decide (1≤l[k].Qx)&&decide (l[k].Qx≤5))<;>cases (decide (0≤l[k].QA)&&decide (l[k].QA≤999))<;>cases (decide (0≤l[k].At)&&decide (l[k].At≤100000)) <;>
     simp only[Qh,Qi,Qc,Qb,Qa]
    exact tail _ _ ht
  ·simp only[Qe hq,Qi,Qc]
   by_cases h0:0<k
   ·simp only[show decide (0<(k:Int))=true from Qf (by omega),show QV ((k:Int)-1)=((k-1:Nat):Int)from by rw[Vt]<;>omega,QR (show k-1<l.length by omega),Qc,QL,Qa]
    cases (decide (1≤l[k].Qo)&&decide (l[k].Qo≤999))<;>cases (decide (1≤l[k].Qx)&&decide (l[k].Qx≤5))<;>cases (decide (0≤l[k].QA)&&decide (l[k].QA≤999))<;>cases (decide (0≤l[k].At)&&decide (l[k].At≤100000))<;>cases decide (l[k].At<(gt l ((k-1:Nat):Int)).At) <;>
     simp only[Qh,Qi,Qc,Qb,Qa]
   ·simp only[show decide (0<(k:Int))=false from Qe (by omega),Qb,Qa]
    cases (decide (1≤l[k].Qo)&&decide (l[k].Qo≤999))<;>cases (decide (1≤l[k].Qx)&&decide (l[k].Qx≤5))<;>cases (decide (0≤l[k].QA)&&decide (l[k].QA≤999))<;>cases (decide (0≤l[k].At)&&decide (l[k].At≤100000)) <;>
     simp only[Qh,Qi,Qc,Qb,Qa]
 ·have:k=l.length:=by omega
  subst this;simp only[Vz,AH,Q6 (Qg _),Bool.false_and,Qb]
def Hv(l:List Hand)(hl:l.length≤100)(s:Int)(k:Nat)(hlt:k<l.length) :
  Vz l (s,(k:Int))=some (.inr (.ret false))∨(∃c,Vz l (s,(k:Int))=some (.inl (c,((k+1:Nat):Int))))∧0≤l[k].At∧l[k].At≤100000∧∀(h:0<k),(l[k-1]'(by omega)).At≤l[k].At:=by
 obtain⟨c,hc1,hc2⟩:=Y7 s l[k];have e100:decide (ln l≤100)=true:=Qf (by rw[Vq];omega)
 have ht:=K5 l l[k].Qo k;simp only[Vz,QY hlt,e100,QR hlt,Q2 hlt,Bool.and_true,Qc,QL,hc1,Qa,QO,cz l _ k (by omega) (by omega),Q3 (show(k:Int)<9223372036854775807 by omega)]
 have tail:∀r:Int,(r=-1∨∃j:Nat,j<k∧r=(j:Int))→∃b,(bif decide (r<0)then(bif decide (2<l[k].Qx)then some true else(bif decide (0≤r)then(bif decide (l[k].Qx=1)then some true else nd (Q0 l r)<|some (decide (3≤(gt l r).Qx)))else some false))else(bif decide (0≤r)then(bif decide (l[k].Qx=1)then some true else nd (Q0 l r)<|some (decide (3≤(gt l r).Qx)))else some false))=some b:=by
  intro r hr
  rcases hr with rfl|⟨j,hj,rfl⟩
  ·simp only[show decide ((-1:Int)<0)=true from rfl,show decide (0≤(-1:Int))=false from rfl,Qc,Qb]
   cases decide (2<l[k].Qx)<;>exact⟨_,rfl⟩
  ·simp only[show decide ((j:Int)<0)=false from Qe (by omega),show decide (0≤(j:Int))=true from Qf (by omega),Qc,Qb,QR (show j<l.length by omega),QL]
   cases decide (l[k].Qx=1)<;>exact⟨_,rfl⟩
 obtain⟨b,hb⟩:=tail _ ht;simp only[hb,Qa];by_cases h1:(decide (1≤l[k].Qo)&&decide (l[k].Qo≤999))=false
 ·left;simp only[h1,Qh,Qi,Qc,Qb,Qa]
 rw[Bool.not_eq_false]at h1;by_cases h2:(decide (1≤l[k].Qx)&&decide (l[k].Qx≤5))=false
 ·left;simp only[h1,h2,Qh,Qi,Qc,Qb,Qa]
 rw[Bool.not_eq_false]at h2;by_cases h3:(decide (0≤l[k].QA)&&decide (l[k].QA≤999))=false
 ·left;simp only[h1,h2,h3,Qh,Qi,Qc,Qb,Qa]
 rw[Bool.not_eq_false]at h3;by_cases h4:(decide (0≤l[k].At)&&decide (l[k].At≤100000))=false
 ·left;simp only[h1,h2,h3,h4,Qh,Qi,Qc,Qb,Qa]
 rw[Bool.not_eq_false]at h4;simp only[h1,h2,h3,h4,Qh,Qb,Qa];simp only[Bool.and_eq_true,decide_eq_true_eq]at h4;cases decide (l[k].Seal=c)with
 |false=>left;simp only[Qi,Qc,Qa]
 |true =>
  simp only[Qh,Qb];by_cases h0:0<k
  ·simp only[show decide (0<(k:Int))=true from Qf (by omega),show QV ((k:Int)-1)=((k-1:Nat):Int)from by rw[Vt]<;>omega,QR (show k-1<l.length by omega),Q2 (show k-1<l.length by omega),Qc,QL,Qa]
   by_cases h5:l[k].At<(l[k-1]'(by omega)).At
   ·left;rw[Qf h5];rfl
   ·rw[Qe h5]
    simp only[Qb];cases b with
    |true=>left;rfl
    |false=>right;exact⟨⟨_,rfl⟩,h4.1,h4.2,λ_=>by omega⟩
  ·simp only[show decide (0<(k:Int))=false from Qe (by omega),Qb,Qa]
   cases b with
   |true=>left;rfl
   |false=>right;exact⟨⟨_,rfl⟩,h4.1,h4.2,λh=>absurd h h0⟩
def et(l:List Hand)(hl:l.length≤100):run (Vz l) (0,0)=some (.brk ())∨run (Vz l) (0,0)=some (.ret false):=by
 have key:∀(m k:Nat) (s:Int),k+m=l.length→run (Vz l) (s,(k:Int))=some (.brk ())∨run (Vz l) (s,(k:Int))=some (.ret false):=by
  intro m
  induction m with
  |zero =>
   intro k s hk;have:k=l.length:=by omega
   subst this;left;rw[QZ];simp only[Vz,Q6 (Qg _),Bool.false_and,Qb,Qa]
  |succ m ih =>
   intro k s hk
   rcases Hv l hl s k (by omega)with h|⟨⟨c,h⟩,_⟩
   ·right;rw[QZ,h];rfl
   ·rw[QZ,h];exact ih (k+1) c (by omega)
 exact key l.length 0 0 (by omega)
def RA(l:List Hand):∃b,Xu l=some b∧Jk l=some b ∧
  (b=true→l.length≤100∧∀k (h:k<l.length),0≤l[k].At∧l[k].At≤100000∧∀(h':0<k),(l[k-1]'(by omega)).At≤l[k].At):=by
 by_cases hl:l.length≤100
 ·have he:run (Vz l) (0,0)=run (AH l l (ln l)) (0,0):=by
   refine py (λs=>∃k:Nat,k≤l.length∧s.2=(k:Int)) (λs ⟨k,hk,hs⟩=>?_) (λs s' ⟨k,hk,hs⟩ hg=>?_) ⟨0,by omega,rfl⟩
   ·obtain⟨a,i⟩:=s
    simp only at hs;subst hs;exact PL l hl a k hk
   ·obtain⟨a,i⟩:=s
    simp only at hs;subst hs;rw[←PL l hl a k hk]at hg;by_cases hlt:k<l.length
    ·rcases Hv l hl a k hlt with h|⟨⟨c,h⟩,_⟩
     ·rw[h]at hg;simp at hg
     ·rw[h]at hg
      injection hg with hg;injection hg with hg;subst hg
      exact⟨k+1,by omega,rfl⟩
    ·have:k=l.length:=by omega
     subst this;simp only[Vz,Q6 (Qg _),Bool.false_and,Qb]at hg;simp at hg
  have e100:decide (ln l≤100)=true:=Qf (by rw[Vq];omega)
  have e101:decide (100<ln l)=false:=Qe (by rw[Vq];omega)
  unfold Xu Jk;rw[←he,e101]
  rcases et l hl with h|h
  ·refine⟨true,by rw[h,e100];rfl,by rw[h];rfl,λ_=>⟨hl,λk hk=>?_⟩⟩
   obtain⟨⟨s,i⟩,s',hs,hst⟩:=TL (step:=Vz l) (λi s=>s.2=(i:Int)) l.length () (λi s hi hs=>by
    obtain⟨a,i'⟩:=s;simp only at hs;subst hs
    rcases Hv l hl a i hi with h|⟨⟨c,h⟩,_⟩
    ·exact .inl ⟨_,h⟩
    ·exact .inr ⟨_,h,rfl⟩) l.length 0 (0,0) (by omega) rfl h k (by omega) hk
   simp only at hs;subst hs
   rcases Hv l hl s k hk with h'|⟨_,h'⟩
   ·rw[h']at hst;simp at hst
   ·exact h'
  ·exact⟨false,by rw[h];rfl,by rw[h];rfl,λh=>by cases h⟩
 ·refine⟨false,?_,?_,λh=>by cases h⟩
  ·have e100:decide (ln l≤100)=false:=Qe (by rw[Vq];omega)
   unfold Xu;rw[QZ];simp only[Vz,e100,Bool.and_false,Qb,Qa];rfl
  ·unfold Jk
   rw[show decide (100<ln l)=true from Qf (by rw[Vq];omega)]
   rfl
section
variable{ρ σ:Type}
def FT{n:Nat}{r:ρ}{s1 s2:Int→Option (Int⊕(Fl ρ Unit))}
  (h:∀i,i<n→(∀j,j<i→s1 (j:Int)=some (.inl ((j+1:Nat):Int)))→∃b,s1 (i:Int)=some (bif b then .inr (.ret r)else .inl ((i+1:Nat):Int))∧s2 (i:Int)=some (bif b then .inr (.ret r)else .inl ((i+1:Nat):Int)))
  (e1:s1 (n:Int)=some (.inr (.brk ()))) (e2:s2 (n:Int)=some (.inr (.brk ()))) :
  ∃b,run s1 0=some (bif b then .brk ()else .ret r)∧run s2 0=some (bif b then .brk ()else .ret r)∧(b=true→∀i,i<n→s1 (i:Int)=some (.inl ((i+1:Nat):Int))∧s2 (i:Int)=some (.inl ((i+1:Nat):Int))):=by
 have key:∀(m i:Nat),i+m=n→(∀j,j<i→s1 (j:Int)=some (.inl ((j+1:Nat):Int)))→∃b,run s1 (i:Int)=some (bif b then .brk ()else .ret r)∧run s2 (i:Int)=some (bif b then .brk ()else .ret r)∧(b=true→∀j,i≤j→j<n→s1 (j:Int)=some (.inl ((j+1:Nat):Int))∧s2 (j:Int)=some (.inl ((j+1:Nat):Int))):=by
  intro m
  induction m with
  |zero =>
   intro i hi _;have:i=n:=by omega
   subst this;exact⟨true,by rw[QZ,e1];rfl,by rw[QZ,e2];rfl,λ_ j h1 h2=>by omega⟩
  |succ m ih =>
   intro i hi hpre;obtain⟨b,h1,h2⟩:=h i (by omega) hpre
   cases b with
   |true=>exact⟨false,by rw[QZ,h1];rfl,by rw[QZ,h2];rfl,λh=>by cases h⟩
   |false =>
    obtain⟨b,q1,q2,q3⟩:=ih (i+1) (by omega) (λj hj=>by
     by_cases hji:j=i
     ·subst hji;exact h1
     ·exact hpre j (by omega))
    refine⟨b,by rw[QZ,h1];exact q1,by rw[QZ,h2];exact q2,λhb j hij hj=>?_⟩
    by_cases hji:i=j
    ·subst hji;exact⟨h1,h2⟩
    ·exact q3 hb j (by omega) hj
 obtain⟨b,q1,q2,q3⟩:=key n 0 (by omega) (λj hj=>by omega)
 exact⟨b,q1,q2,λhb i hi=>q3 hb i (by omega) hi⟩
def N2{n:Nat}{step:σ×Int→Option ((σ×Int)⊕ρ)}{fin:σ→ρ}(Q:Nat→σ→Prop)
  (h1:∀i v,i<n→Q i v→∃v',step (v,(i:Int))=some (.inl (v',((i+1:Nat):Int)))∧Q (i+1) v') (h2:∀v,Q n v→step (v,(n:Int))=some (.inr (fin v))) :
  ∀v,Q 0 v→∃v',run step (v,0)=some (fin v')∧Q n v':=by
 have key:∀(m i:Nat) (v:σ),i+m=n→Q i v→∃v',run step (v,(i:Int))=some (fin v')∧Q n v':=by
  intro m
  induction m with
  |zero =>
   intro i v hi hq;have:i=n:=by omega
   subst this;exact⟨v,by rw[QZ,h2 v hq];rfl,hq⟩
  |succ m ih =>
   intro i v hi hq;obtain⟨v',q1,q2⟩:=h1 i v (by omega) hq
   rw[QZ,q1];exact ih (i+1) v' (by omega) q2
 intro v hv;exact key n 0 v (by omega) hv
end
def DK{n:Nat}{k:Int}{b:Bool}(x:Option (Fl Bool Unit))(hx:x=some (bif b then .brk ()else .ret false)) :
  x.bind (Zy (λr=>some r) λ_=>some (decide ((n:Int)≤k)))=some (b&&decide ((n:Int)≤k)) ∧
   (bif decide (k<(n:Int))then some false else x.bind (Zy (λr=>some r) λ_=>some true))=some (b&&decide ((n:Int)≤k)):=by
 subst hx;by_cases h:(n:Int)≤k
 ·rw[Qf h,Qe (show ¬k<(n:Int)by omega)]
  cases b<;>exact⟨rfl,rfl⟩
 ·rw[Qe h,Qf (show k<(n:Int)by omega)]
  cases b<;>exact⟨rfl,rfl⟩
def By{i:Nat}(h0:0<i)(h:(i:Int)≤9223372036854775807):QV ((i:Int)-1)=((i-1:Nat):Int):=by rw[Vt]<;>omega
def TQ(l:List Entry)(hl:l.length≤2097152):∃b,VR l=some b∧J5 l=some b ∧
  (b=true→l.length≤100∧∀i (h:i<l.length),∀(h':0<i),(l[i-1]'(by omega)).At≤l[i].At):=by
 obtain⟨b,h1,h2,h3⟩:=FT (n:=l.length) (r:=false) (s1:=VO l) (s2:=ZX l l (ln l)) (λi hi _=>by
   simp only[VO,ZX,QY hi,QR hi,Q2 hi,Q3 (show(i:Int)<9223372036854775807 by omega),Qc,QL,QO,QM,Qa]
   by_cases h0:0<i
   ·simp only[show decide (0<(i:Int))=true from Qf (by omega),By h0 (by omega),QR (show i-1<l.length by omega),Qc,QL]
    cases (decide (0≤l[i].From)&&decide (l[i].From≤999))<;>cases (decide (0≤l[i].To)&&decide (l[i].To≤999))<;>cases decide (l[i].From=l[i].To)<;>cases (decide (1≤l[i].Qy)&&decide (l[i].Qy≤10000000))<;>cases (decide (0≤l[i].At)&&decide (l[i].At≤100000))<;>cases decide (l[i].At<(gt l ((i-1:Nat):Int)).At)<;>first|exact⟨true,rfl,rfl⟩|exact⟨false,rfl,rfl⟩
   ·simp only[show decide (0<(i:Int))=false from Qe (by omega),Qb]
    cases (decide (0≤l[i].From)&&decide (l[i].From≤999))<;>cases (decide (0≤l[i].To)&&decide (l[i].To≤999))<;>cases decide (l[i].From=l[i].To)<;>cases (decide (1≤l[i].Qy)&&decide (l[i].Qy≤10000000))<;>cases (decide (0≤l[i].At)&&decide (l[i].At≤100000))<;>first|exact⟨true,rfl,rfl⟩|exact⟨false,rfl,rfl⟩)
  (by simp only[VO,Q6 (Qg _),Qb]) (by simp only[ZX,Q6 (Qg _),Qb])
 refine⟨b&&decide ((l.length:Int)≤100),(DK _ h1).1,(DK _ h2).2,λhb=>?_⟩
 simp only[Bool.and_eq_true,decide_eq_true_eq]at hb;refine⟨by omega,λi hi h0=>?_⟩
 have hstep:=(h3 hb.1 i hi).1;simp only[VO,QY hi,QR hi,Q2 hi,Qc,QL,QO,Qa,show decide (0<(i:Int))=true from Qf (by omega),By h0 (by omega),QR (show i-1<l.length by omega),Q2 (show i-1<l.length by omega)]at hstep
 by_cases hlt:l[i].At<(l[i-1]'(by omega)).At
 ·rw[Qf hlt]at hstep
  exfalso;revert hstep;cases (decide (0≤l[i].From)&&decide (l[i].From≤999))<;>cases (decide (0≤l[i].To)&&decide (l[i].To≤999))<;>cases decide (l[i].From=l[i].To)<;>cases (decide (1≤l[i].Qy)&&decide (l[i].Qy≤10000000))<;>cases (decide (0≤l[i].At)&&decide (l[i].At≤100000))<;>simp
 ·omega
def Gi(l:List Entry)(hl:l.length≤1048576):∃b,VR l=some b∧J5 l=some b ∧
  (b=true→l.length≤100∧∀i (h:i<l.length),∀(h':0<i),(l[i-1]'(by omega)).At≤l[i].At):=TQ l (by omega)
def RJ(x:Qo):∃b,JB x=some b∧Ch x=some b∧(b=true→1≤x.Id):=by
 have e:Ch x=JB x:=rfl;rw[e];unfold JB QO;simp only[Qa];cases h1:(decide (1≤x.Id)&&decide (x.Id≤999))with
 |false=>exact⟨false,rfl,rfl,λh=>by cases h⟩
 |true =>
  have:1≤x.Id:=by simp only[Bool.and_eq_true,decide_eq_true_eq]at h1;exact h1.1
  cases (decide (1≤x.Kind)&&decide (x.Kind≤8))<;>cases (decide (0≤x.Colour)&&decide (x.Colour≤7))<;>cases (decide (1≤x.Size)&&decide (x.Size≤50))<;>exact⟨_,rfl,rfl,λ_=>this⟩
def N1(f:QB):∃b,X0 f=some b∧AX f=some b∧(b=true→1≤f.Qo.Id):=by
 obtain⟨b,h1,h2,h3⟩:=RJ f.Qo;unfold X0 AX QO QM;rw[h1,h2];simp only[Qa];cases b with
 |false=>exact⟨false,rfl,rfl,λh=>by cases h⟩
 |true=>cases (decide (1≤f.Place)&&decide (f.Place≤30))<;>cases (decide (0≤f.At)&&decide (f.At≤100000))<;>exact⟨_,rfl,rfl,λ_=>h3 rfl⟩
def bh(l:List QB)(hl:l.length≤2097152):∃b,X9 l=some b∧Bb l=some b∧(b=true→l.length≤20∧(∀i (h:i<l.length),1≤l[i].Qo.Id)∧∀i (h:i<l.length) (h0:0<i),(l[i-1]'(by omega)).Qo.Id<l[i].Qo.Id):=by
 obtain⟨b,h1,h2,h3⟩:=FT (n:=l.length) (r:=false) (s1:=VQ l) (s2:=Bf l l (ln l)) (λi hi _=>by
   obtain⟨b,q1,q2,_⟩:=N1 l[i];simp only[VQ,Bf,QY hi,QR hi,Q2 hi,Q3 (show(i:Int)<9223372036854775807 by omega),Qc,QL,q1,q2,Qa]
   by_cases h0:0<i
   ·simp only[show decide (0<(i:Int))=true from Qf (by omega),By h0 (by omega),QR (show i-1<l.length by omega),Qc,QL]
    cases b<;>cases decide (l[i].Qo.Id≤(gt l ((i-1:Nat):Int)).Qo.Id)<;>first|exact⟨true,rfl,rfl⟩|exact⟨false,rfl,rfl⟩
   ·simp only[show decide (0<(i:Int))=false from Qe (by omega),Qb]
    cases b<;>first|exact⟨true,rfl,rfl⟩|exact⟨false,rfl,rfl⟩)
  (by simp only[VQ,Q6 (Qg _),Qb]) (by simp only[Bf,Q6 (Qg _),Qb])
 refine⟨b&&decide ((l.length:Int)≤20),(DK _ h1).1,(DK _ h2).2,λhb=>?_⟩
 simp only[Bool.and_eq_true,decide_eq_true_eq]at hb;refine⟨by omega,λi hi=>?_,λi hi h0=>?_⟩
 ·have hstep:=(h3 hb.1 i hi).1
  obtain⟨c,q1,q2,q3⟩:=N1 l[i];simp only[VQ,QY hi,QR hi,Q2 hi,Qc,QL,q1,Qa]at hstep;cases c with
  |true=>exact q3 rfl
  |false=>simp at hstep
 ·have hstep:=(h3 hb.1 i hi).1
  obtain⟨c,q1,q2,q3⟩:=N1 l[i];simp only[VQ,QY hi,QR hi,Q2 hi,Qc,QL,q1,Qa,show decide (0<(i:Int))=true from Qf (by omega),By h0 (by omega),QR (show i-1<l.length by omega),Q2 (show i-1<l.length by omega)]at hstep
  by_cases hlt:l[i].Qo.Id≤(l[i-1]'(by omega)).Qo.Id
  ·exfalso
   rw[Qf hlt]at hstep;cases c<;>simp at hstep
  ·omega
def M4(l:List QB)(hl:l.length≤1048576):∃b,X9 l=some b∧Bb l=some b∧(b=true→l.length≤20∧∀i (h:i<l.length),1≤l[i].Qo.Id):=by
 obtain⟨b,h1,h2,h3⟩:=bh l (by omega)
 exact⟨b,h1,h2,λh=>⟨(h3 h).1,(h3 h).2.1⟩⟩
def KP(l:List Mark)(hl:l.length≤9223372036854775807):∃b,J0 l=some b∧Cw l=some b:=by
 obtain⟨b,h1,h2,h3⟩:=FT (n:=l.length) (r:=false) (s1:=Zn l) (s2:=Bo l l (ln l)) (λi hi _=>by
   simp only[Zn,Bo,QY hi,QR hi,Q2 hi,Q3 (show(i:Int)<9223372036854775807 by omega),Qc,QL,QO,QM,Qa]
   by_cases h0:0<i
   ·simp only[show decide (0<(i:Int))=true from Qf (by omega),By h0 (by omega),QR (show i-1<l.length by omega),Qc,QL]
    cases (decide (1≤l[i].Question)&&decide (l[i].Question≤20))<;>cases (decide (0≤l[i].Answer)&&decide (l[i].Answer≤99))<;>cases decide (l[i].Question≤(gt l ((i-1:Nat):Int)).Question)<;>first|exact⟨true,rfl,rfl⟩|exact⟨false,rfl,rfl⟩
   ·simp only[show decide (0<(i:Int))=false from Qe (by omega),Qb]
    cases (decide (1≤l[i].Question)&&decide (l[i].Question≤20))<;>cases (decide (0≤l[i].Answer)&&decide (l[i].Answer≤99))<;>first|exact⟨true,rfl,rfl⟩|exact⟨false,rfl,rfl⟩)
  (by simp only[Zn,Q6 (Qg _),Qb]) (by simp only[Bo,Q6 (Qg _),Qb])
 exact⟨_,(DK _ h1).1,(DK _ h2).2⟩
def TY(l:List Qm)(hl:l.length≤2097152)(hm:∀x∈l,x.Marks.length≤1048576):∃b,J8 l=some b∧AG l=some b∧(b=true→l.length≤20∧∀i (h:i<l.length) (h0:0<i),(l[i-1]'(by omega)).Qo<l[i].Qo):=by
 obtain⟨b,h1,h2,h3⟩:=FT (n:=l.length) (r:=false) (s1:=Ze l) (s2:=ZY l l (ln l)) (λi hi _=>by
   obtain⟨m,m1,m2⟩:=KP l[i].Marks (Nat.le_trans (hm _ (List.getElem_mem hi)) (by omega))
   simp only[Ze,ZY,QY hi,QR hi,Q2 hi,Q3 (show(i:Int)<9223372036854775807 by omega),Qc,QL,QO,QM,m1,m2,Qa]
   by_cases h0:0<i
   ·simp only[show decide (0<(i:Int))=true from Qf (by omega),By h0 (by omega),QR (show i-1<l.length by omega),Qc,QL]
    cases (decide (1≤l[i].Qo)&&decide (l[i].Qo≤999))<;>cases m<;>cases decide (ln l[i].Marks=0)<;>cases (decide (0≤l[i].Salt)&&decide (l[i].Salt≤1000000))<;>cases decide (l[i].Qo≤(gt l ((i-1:Nat):Int)).Qo)<;>first|exact⟨true,rfl,rfl⟩|exact⟨false,rfl,rfl⟩
   ·simp only[show decide (0<(i:Int))=false from Qe (by omega),Qb]
    cases (decide (1≤l[i].Qo)&&decide (l[i].Qo≤999))<;>cases m<;>cases decide (ln l[i].Marks=0)<;>cases (decide (0≤l[i].Salt)&&decide (l[i].Salt≤1000000))<;>first|exact⟨true,rfl,rfl⟩|exact⟨false,rfl,rfl⟩)
  (by simp only[Ze,Q6 (Qg _),Qb]) (by simp only[ZY,Q6 (Qg _),Qb])
 refine⟨_,(DK _ h1).1,(DK _ h2).2,λhb=>?_⟩
 simp only[Bool.and_eq_true,decide_eq_true_eq]at hb;refine⟨by omega,λi hi h0=>?_⟩
 have hstep:=(h3 hb.1 i hi).1;obtain⟨m,m1,m2⟩:=KP l[i].Marks (Nat.le_trans (hm _ (List.getElem_mem hi)) (by omega))
 simp only[Ze,QY hi,QR hi,Q2 hi,Qc,QL,QO,m1,Qa,show decide (0<(i:Int))=true from Qf (by omega),By h0 (by omega),QR (show i-1<l.length by omega),Q2 (show i-1<l.length by omega)]at hstep
 by_cases hlt:l[i].Qo≤(l[i-1]'(by omega)).Qo
 ·exfalso
  rw[Qf hlt]at hstep;revert hstep;cases (decide (1≤l[i].Qo)&&decide (l[i].Qo≤999))<;>cases m<;>cases decide (ln l[i].Marks=0)<;>cases (decide (0≤l[i].Salt)&&decide (l[i].Salt≤1000000))<;>simp
 ·omega
def LK(l:List Qm)(hl:l.length≤1048576)(hm:∀x∈l,x.Marks.length≤1048576):∃b,J8 l=some b∧AG l=some b:=by
 obtain⟨b,h1,h2,_⟩:=TY l (by omega) hm
 exact⟨b,h1,h2⟩
def ZE{α:Type}(l:List α)(i:Nat):cut l 0 (i:Int)=l.take i:=by simp[cut]
def LG{i n:Nat}(h:i≤n):Cy 0 (i:Int) (n:Int)=true:=by unfold Cy;simp;omega
def C8(l:List Qr)(t:Int):Int:=match l.findIdx? (λx=>decide (x.Qo=t))with|some i=>(i:Int)|none=>-1
def La(l:List Qr)(t:Int)(hl:l.length≤1048576):JA l t=some (bif decide (t=0)then -1 else C8 l t):=by
 have hi:=JG l (λx=>decide (x.Qo=t)) (λi=>(i:Int)) (step:=VB l t (ln l))
  (λi hi=>by
   simp only[VB,Gf,Qa,QY hi,QR hi,Q2 hi,Q3 (show(i:Int)<9223372036854775807 by omega),Qc,QL]
   cases decide (l[i].Qo=t)<;>rfl)
  (by simp only[VB,Q6 (Qg _),Qb])
 unfold JA Xz C8;rw[hi];cases decide (t=0)with
 |true=>rfl
 |false=>cases l.findIdx? (λx=>decide (x.Qo=t))<;>rfl
def Hf(l:List Qr)(t:Int):(l.any (λx=>decide (x.Qo=t))=false∧C8 l t=-1)∨∃k:Nat,∃hk:k<l.length,C8 l t=(k:Int)∧l[k].Qo=t∧l.any (λx=>decide (x.Qo=t))=true:=by
 unfold C8;cases hf:l.findIdx? (λx=>decide (x.Qo=t))with
 |none =>
  left;refine⟨?_,rfl⟩;rw[List.any_eq_false];intro y hy;have:=List.findIdx?_eq_none_iff.1 hf y hy;simpa using this
 |some i =>
  obtain⟨hi,hp⟩:=CG hf;right;exact⟨i,hi,rfl,by simpa using hp,List.any_eq_true.2 ⟨_,List.getElem_mem hi,hp⟩⟩
def xe(l:List Qr)(t:Int)(hl:l.length≤1048576)(hid:∀x∈l,1≤x.Id):∃c,Gs l t=some c∧decide (c=0)=!(!decide (t=0)&&l.any (λx=>decide (x.Qo=t))):=by
 unfold Gs;rw[La l t hl];by_cases ht:t=0
 ·rw[Qf ht];exact⟨0,rfl,rfl⟩
 ·rw[Qe ht]
  simp only[Qb,Qa]
  rcases Hf l t with⟨h1,h2⟩|⟨k,hk,h1,h2,h3⟩
  ·rw[h1,h2];exact⟨0,rfl,rfl⟩
  ·have hpos:=hid l[k] (List.getElem_mem hk)
   rw[h1,h3,Qe (show ¬(k:Int)<0 by omega),QR hk,Q2 hk]
   refine⟨l[k].Id,rfl,?_⟩;rw[Qe (by omega)];rfl
def Lb(l:List Qr)(i:Nat)(hi:i<l.length)(hl:l.length≤1048576) :
  run (V7 l (i:Int)) 0=some (bif !decide (l[i].Qo=0)&&(l.take i).any (λx=>decide (x.Qo=l[i].Qo))then .ret false else .brk ()):=by
 have hlen:(l.take i).length=i:=by simp;omega
 have hr:=LH (l.take i) (λx=>!decide (l[i].Qo=0)&&decide (x.Qo=l[i].Qo)) (r:=false) (step:=V7 l (i:Int))
  (λk hk=>by
   rw[hlen]at hk;have hkl:k<l.length:=by omega
   have e:(l.take i)[k]'(by rw[hlen];exact hk)=l[k]:=by simp
   simp only[V7,e,show decide ((k:Int)<(i:Int))=true from Qf (by omega),QR hi,Q2 hi,QR hkl,Q2 hkl,Q3 (show(k:Int)<9223372036854775807 by omega),Qc,QL]
   cases decide (l[i].Qo=0)<;>cases decide (l[k].Qo=l[i].Qo)<;>rfl)
  (by rw[hlen];simp only[V7,show decide ((i:Int)<(i:Int))=false from Qe (by omega),Qb])
 rw[hr];congr 1;cases decide (l[i].Qo=0)with
 |true =>
  have:(l.take i).any (λx=>!true&&decide (x.Qo=l[i].Qo))=false:=by rw[List.any_eq_false];simp
  rw[this];rfl
 |false=>simp
def SN(l:List Qr)(hl:l.length≤1048576):∃b,Jb l=some b∧JX l=some b∧(b=true→l.length≤30∧(∀x∈l,1≤x.Id)∧∀i (h:i<l.length) (h0:0<i),(l[i-1]'(by omega)).Id<l[i].Id):=by
 have idOf:∀i (hi:i<l.length),VC l (i:Int)=some (.inl ((i+1:Nat):Int))→1≤l[i].Id:=by
  intro i hi hstep;by_cases h:1≤l[i].Id
  ·exact h
  ·exfalso
   have e:(decide (1≤l[i].Id)&&decide (l[i].Id≤99))=false:=by rw[Qe h];rfl
   simp only[VC,QY hi,QR hi,Q2 hi,Qc,QL,QO,Qa,e,Qi]at hstep;simp at hstep
 obtain⟨b,h1,h2,h3⟩:=FT (n:=l.length) (r:=false) (s1:=VC l) (s2:=Bn l l (ln l)) (λi hi hpre=>by
   have hids:∀x∈l.take i,1≤x.Id:=by
    intro x hx;obtain⟨k,hk,rfl⟩:=List.getElem_of_mem hx;have hk':k<i:=by simp at hk;omega
    simp only[List.getElem_take];exact idOf k (by omega) (hpre k hk')
   obtain⟨c,c1,c2⟩:=xe (l.take i) l[i].Qo (by simp;omega) hids
   have hsl:Cy 0 (i:Int) (ln l)=true:=LG (by omega)
   simp only[VC,Bn,QY hi,QR hi,Q2 hi,Q3 (show(i:Int)<9223372036854775807 by omega),Qc,QL,QO,QM,Qa,Lb l i hi hl,ZE,c1,c2,hsl]
   generalize (!decide (l[i].Qo=0)&&(l.take i).any (λx=>decide (x.Qo=l[i].Qo)))=q
   by_cases h0:0<i
   ·simp only[show decide (0<(i:Int))=true from Qf (by omega),By h0 (by omega),QR (show i-1<l.length by omega),Qc,QL]
    cases (decide (1≤l[i].Id)&&decide (l[i].Id≤99))<;>cases (decide (1≤l[i].Size)&&decide (l[i].Size≤50))<;>cases (decide (0≤l[i].Qo)&&decide (l[i].Qo≤999))<;>cases decide (l[i].Id≤(gt l ((i-1:Nat):Int)).Id)<;>cases q<;>first|exact⟨true,rfl,rfl⟩|exact⟨false,rfl,rfl⟩
   ·simp only[show decide (0<(i:Int))=false from Qe (by omega),Qb]
    cases (decide (1≤l[i].Id)&&decide (l[i].Id≤99))<;>cases (decide (1≤l[i].Size)&&decide (l[i].Size≤50))<;>cases (decide (0≤l[i].Qo)&&decide (l[i].Qo≤999))<;>cases q<;>first|exact⟨true,rfl,rfl⟩|exact⟨false,rfl,rfl⟩)
  (by simp only[VC,Q6 (Qg _),Qb]) (by simp only[Bn,Q6 (Qg _),Qb])
 refine⟨b&&decide ((l.length:Int)≤30),(DK _ h1).1,(DK _ h2).2,λhb=>?_⟩
 simp only[Bool.and_eq_true,decide_eq_true_eq]at hb;refine⟨by omega,λx hx=>?_,λi hi h0=>?_⟩
 ·obtain⟨k,hk,rfl⟩:=List.getElem_of_mem hx
  exact idOf k hk (h3 hb.1 k hk).1
 ·have hstep:=(h3 hb.1 i hi).1
  simp only[VC,QY hi,QR hi,Q2 hi,Qc,QL,QO,Lb l i hi hl,Qa,show decide (0<(i:Int))=true from Qf (by omega),By h0 (by omega),QR (show i-1<l.length by omega),Q2 (show i-1<l.length by omega)]at hstep
  by_cases hlt:l[i].Id≤(l[i-1]'(by omega)).Id
  ·exfalso
   rw[Qf hlt]at hstep;revert hstep;cases (decide (1≤l[i].Id)&&decide (l[i].Id≤99))<;>cases (decide (1≤l[i].Size)&&decide (l[i].Size≤50))<;>cases (decide (0≤l[i].Qo)&&decide (l[i].Qo≤999))<;>simp
  ·omega
def K8(l:List Qr)(hl:l.length≤1048576):∃b,Jb l=some b∧JX l=some b∧(b=true→l.length≤30∧∀x∈l,1≤x.Id):=by
 obtain⟨b,h1,h2,h3⟩:=SN l hl;exact⟨b,h1,h2,λh=>⟨(h3 h).1,(h3 h).2.1⟩⟩
def II(x y:Qu):Bool:=decide (x.State=3)&&(decide (y.State=3)&&decide (y.Qo=x.Qo))
def Ka(l:List Qu)(i:Nat)(hi:i<l.length)(hl:l.length≤2097152) :
  run (ZF l (i:Int) l[i]) 0=some (bif (l.take i).any (II l[i])then .ret false else .brk ()):=by
 have hlen:(l.take i).length=i:=by simp;omega
 exact LH (l.take i) (II l[i]) (r:=false) (step:=ZF l (i:Int) l[i])
  (λk hk=>by
   rw[hlen]at hk;have hkl:k<l.length:=by omega
   have e:(l.take i)[k]'(by rw[hlen];exact hk)=l[k]:=by simp
   simp only[ZF,II,e,show decide ((k:Int)<(i:Int))=true from Qf (by omega),QR hkl,Q2 hkl,Q3 (show(k:Int)<9223372036854775807 by omega),Qc,QL]
   cases decide (l[i].State=3)<;>cases decide (l[k].State=3)<;>cases decide (l[k].Qo=l[i].Qo)<;>rfl)
  (by rw[hlen];simp only[ZF,show decide ((i:Int)<(i:Int))=false from Qe (by omega),Qb])
def RN(l t:List Qu)(x:Qu)(a b:Int)(p:List Qu)(hp:p.length≤2097152) :
  run (ZB l x t a b p (ln p)) 0=some (bif p.any (II x)then .ret false else .brk ()):=by
 exact LH p (II x) (r:=false) (step:=ZB l x t a b p (ln p))
  (λk hk=>by
   have hc:decide (x.Qo=p[k].Qo)=decide (p[k].Qo=x.Qo):=by rw[decide_eq_decide];exact eq_comm
   simp only[ZB,II,QY hk,QR hk,Q2 hk,hc,Q3 (show(k:Int)<9223372036854775807 by omega),Qc,QL]
   cases (decide (x.State=3)&&(decide (p[k].State=3)&&decide (p[k].Qo=x.Qo)))<;>rfl)
  (by simp only[ZB,Q6 (Qg _),Qb])
def Pq(l:List Qu)(hl:l.length≤2097152):∃b,VM l=some b∧JT l=some b∧(b=true→l.length≤20∧∀i (h:i<l.length),0≤l[i].State∧l[i].State≤3):=by
 obtain⟨b,h1,h2,h3⟩:=FT (n:=l.length) (r:=false) (s1:=VZ l) (s2:=Ax l l (ln l)) (λi hi _=>by
   have hsl:Cy 0 (i:Int) (ln l)=true:=LG (by omega)
   simp only[VZ,Ax,QY hi,QR hi,Q2 hi,Q3 (show(i:Int)<9223372036854775807 by omega),Qc,QL,QO,QM,Qa,Ka l i hi hl,ZE,hsl,RN l l l[i] (ln l) (i:Int) (l.take i) (by simp;omega)]
   generalize (l.take i).any (II l[i])=q;by_cases h0:0<i
   ·simp only[show decide (0<(i:Int))=true from Qf (by omega),By h0 (by omega),QR (show i-1<l.length by omega),Qc,QL]
    cases (decide (1≤l[i].Id)&&decide (l[i].Id≤999))<;>cases (decide (1≤l[i].QA)&&decide (l[i].QA≤999))<;>cases (decide (1≤l[i].Qo)&&decide (l[i].Qo≤999))<;>cases (decide (0≤l[i].At)&&decide (l[i].At≤100000))<;>cases (decide (0≤l[i].State)&&decide (l[i].State≤3))<;>cases decide (l[i].Id≤(gt l ((i-1:Nat):Int)).Id)<;>cases q<;>first|exact⟨true,rfl,rfl⟩|exact⟨false,rfl,rfl⟩
   ·simp only[show decide (0<(i:Int))=false from Qe (by omega),Qb]
    cases (decide (1≤l[i].Id)&&decide (l[i].Id≤999))<;>cases (decide (1≤l[i].QA)&&decide (l[i].QA≤999))<;>cases (decide (1≤l[i].Qo)&&decide (l[i].Qo≤999))<;>cases (decide (0≤l[i].At)&&decide (l[i].At≤100000))<;>cases (decide (0≤l[i].State)&&decide (l[i].State≤3))<;>cases q<;>first|exact⟨true,rfl,rfl⟩|exact⟨false,rfl,rfl⟩)
  (by simp only[VZ,Q6 (Qg _),Qb]) (by simp only[Ax,Q6 (Qg _),Qb])
 refine⟨b&&decide ((l.length:Int)≤20),(DK _ h1).1,(DK _ h2).2,λhb=>?_⟩
 simp only[Bool.and_eq_true,decide_eq_true_eq]at hb;refine⟨by omega,λi hi=>?_⟩
 have hstep:=(h3 hb.1 i hi).1;simp only[VZ,QY hi,QR hi,Q2 hi,Qc,QL,QO,Qa]at hstep;by_cases hst:(decide (0≤l[i].State)&&decide (l[i].State≤3))=true
 ·simpa using hst
 ·exfalso
  simp only[Bool.eq_false_iff.2 hst,Qi,Qc]at hstep;revert hstep;cases (decide (1≤l[i].Id)&&decide (l[i].Id≤999))<;>cases (decide (1≤l[i].QA)&&decide (l[i].QA≤999))<;>cases (decide (1≤l[i].Qo)&&decide (l[i].Qo≤999))<;>cases (decide (0≤l[i].At)&&decide (l[i].At≤100000))<;>simp
def Hb(l:List Qu)(hl:l.length≤1048576):∃b,VM l=some b∧JT l=some b∧(b=true→l.length≤20∧∀i (h:i<l.length),0≤l[i].State∧l[i].State≤3):=Pq l (by omega)
def XY(l:List QB)(id:Int):Int:=match l.findIdx? (λx=>decide (x.Qo.Id=id))with|some i=>(i:Int)|none=>-1
def Jm(l:List QB)(id:Int)(hl:l.length≤1048576):Xv l id=some (XY l id)∧XS l id=some (XY l id):=by
 have hs:=JG l (λx=>decide (x.Qo.Id=id)) (λi=>(i:Int)) (step:=Ay l id)
  (λi hi=>by
   simp only[Ay,QY hi,QR hi,Q2 hi,Q3 (show(i:Int)<9223372036854775807 by omega),Qc,QL]
   cases decide (l[i].Qo.Id=id)<;>rfl)
  (by simp only[Ay,Q6 (Qg _),Qb])
 have hi:=JG l (λx=>decide (x.Qo.Id=id)) (λi=>(i:Int)) (step:=Vu l id (ln l))
  (λi hi=>by
   simp only[Vu,Fo,Qa,QY hi,QR hi,Q2 hi,Q3 (show(i:Int)<9223372036854775807 by omega),Qc,QL]
   cases decide (l[i].Qo.Id=id)<;>rfl)
  (by simp only[Vu,Q6 (Qg _),Qb])
 unfold Xv XS Xr XY;rw[hs,hi];cases l.findIdx? (λx=>decide (x.Qo.Id=id))<;>exact⟨rfl,rfl⟩
end Go.Proofs.YtfhnbabcbhgffaaGreatDoor
