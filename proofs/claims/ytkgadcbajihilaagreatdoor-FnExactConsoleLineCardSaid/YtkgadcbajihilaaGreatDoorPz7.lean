import Derived.Test.YtkgadcbajihilaaGreatDoorPz6
set_option linter.unusedVariables false
set_option linter.unusedSimpArgs false
set_option linter.defProp false
namespace Go.Proofs.YtkgadcbajihilaaGreatDoor
open Go
def WC:∀(u:Nat) (t:List UInt8),Lib.decDigits u=48::t→u=0∧t=[]
 |u,t,h=>by
  by_cases hu:u<10
  ·rw[Lib.decDigits_one hu]at h
   injection h with h1 h2
   refine⟨?_,h2.symm⟩;have:=congrArg UInt8.toNat h1;rw[UInt8.toNat_ofNat']at this;have h8:(48:UInt8).toNat=48:=rfl;omega
  ·rw[Lib.decDigits,dif_neg hu]at h
   cases hd:Lib.decDigits (u / 10)with
   |nil =>
    have:=Lib.decDigits_length (u / 10);have:=Lib.nDigits_pos (u / 10);rw[hd]at *;simp at *;omega
   |cons x t' =>
    rw[hd,List.cons_append]at h;injection h with h1 h2
    subst h1;have:=WC (u / 10) t' hd;omega
def iY(s:List UInt8):Z0 s=some (Xe s):=by
 unfold Z0 Xe ku QR;rw[Vp];by_cases h0:s.length=0
 ·simp[h0]
 by_cases h13:13<s.length
 ·simp[h13,Qe (show ¬(s.length:Int)≤13 by omega)]
 have hrun:=Qam s (by omega) (step:=BP s) (λa i hi ha0 ha=>by
   have hx:(s[i].toNat:Int)<256:=by have:=s[i].toNat_lt;omega
   simp only[BP,QR,Q0 hi,QP hi,Q3 hi,Qc,QL,Qa,Vg (show(i:Int)<9223372036854775807 by omega),YR,VD (n:=(s[i].toNat:Int)) (by omega) (by omega)]
   by_cases c1:48≤s[i].toNat
   ·by_cases c2:s[i].toNat≤57
    ·rw[Qf (show(48:Int)≤(s[i].toNat:Int)by omega),Qf (show(s[i].toNat:Int)≤57 by omega),Qf c1,Qf c2,u8w (by omega) (by omega),VD (n:=10*a) (by omega) (by omega),VD (n:=(s[i].toNat:Int)-48) (by omega) (by omega),VD (by omega) (by omega)]
     simp only[Qh,Qb,Bool.and_self,Qc];rw[show 10*a+((s[i].toNat:Int)-48)=10*a+(s[i].toNat:Int)-48 by omega]
    ·rw[Qe (show ¬(s[i].toNat:Int)≤57 by omega),Qe c2]
     simp
   ·rw[Qe (show ¬(48:Int)≤(s[i].toNat:Int)by omega),Qe c1]
    simp) (λa=>by simp only[BP,Q6 (Qg _),Qb])
 rw[hrun,Qf (show(1:Int)≤(s.length:Int)by omega),Qf (show(s.length:Int)≤13 by omega),Qe h0,Qe h13]
 simp only[Qa,Bool.and_self,Qh,Qb,Qi,Bool.true_and];cases hd:s.all YR with
 |false=>simp[J1]
 |true =>
  have hlt:=gC _ s rfl hd;have hb2:10^s.length≤10^13:=Nat.pow_le_pow_right (by omega) (by omega)
  simp only[Qc,J1,Bool.true_and];rw[J8 _ (by unfold i64;omega)]
  by_cases hn:1000000000000<HU s
  ·rw[Qf (show(1000000000000:Int)<(HU s:Int)by omega),Qf hn];simp
  rw[Qe (show ¬(1000000000000:Int)<(HU s:Int)by omega),Qe hn]
  have hi:Lib.itoa (HU s:Int)=Lib.decDigits (HU s):=by
   unfold Lib.itoa;rw[if_neg (by omega),Int.toNat_natCast]
  simp only[Qb,Qa,hi,Qi,Bool.and_true];by_cases hz:1<s.length∧s.head?=some 48
  ·rw[Qf hz.1,Qf hz.2]
   have hne:¬Lib.decDigits (HU s)=s:=λe=>by
    cases s with
    |nil=>simp at h0
    |cons x t =>
     have hx:x=48:=by simpa using hz.2
     subst hx;have:=(WC _ _ e).2;subst this;simp at hz
   rw[Qe hne];simp
  ·have hor:s.length-1=0∨s.head?≠some 48:=by
    by_cases h1:1<s.length
    ·exact .inr λe=>hz ⟨h1,e⟩
    ·exact .inl (by omega)
   have he:=(Ko (s.length-1) s (by omega) hd hor).1
   rw[Qf he];have:(decide (1<s.length)&&decide (s.head?=some 48))=false:=by
    rw[Bool.eq_false_iff];intro h;simp only[Bool.and_eq_true,decide_eq_true_eq]at h;exact hz h
   rw[this];simp
def uV(k:Int):ET k=some (kT k):=by
 unfold ET QR kT;by_cases h:1≤k∧k≤8
 ·rw[if_pos h]
  rcases(by omega:k=1∨k=2∨k=3∨k=4∨k=5∨k=6∨k=7∨k=8)with rfl|rfl|rfl|rfl|rfl|rfl|rfl|rfl<;>rfl
 ·rw[if_neg h]
  have:(decide (1≤k)&&decide (k≤8))=false:=by
   rw[Bool.eq_false_iff];simpa using h
  rw[this];rfl
def nu(s:List UInt8):CC s=Bq s:=by
 unfold CC Bq;have:Fp s=Jq s:=by
  funext k;simp only[Fp,Jq,nl,uV]
 rw[this]
def mn(l:List Int)(hl:l.length≤1048576)(hx:∀x∈l,i64 x):Bn l=some (MI l):=by
 have hsh:=ct l hl hx;have hr:=eJ 44 (l.map Lib.itoa) hsh (step:=BM l) (λi s hi hs=>by
   have hi':i<l.length:=by simpa using hi
   have hm:=hx _ (List.getElem_mem hi');have h1:=VN _ hm;have e2:(QS s [44]).length≤1000000000000:=by rw[A9];simp only[List.length_cons,List.length_nil];omega
   rw[List.getElem_map];simp only[BM,Q0 hi',QP hi',Q3 hi',Vg (show(i:Int)<9223372036854775807 by omega),Qc,QL,J8 _ hm,Qa,
    CG (x:=s) (y:=[44]) (by omega) (by simp),CG (x:=QS s [44]) (y:=Lib.itoa l[i]) e2 (by omega),CG (x:=s) (y:=Lib.itoa l[i]) (by omega) (by omega)]
   by_cases h0:0<i
   ·rw[Qf (show(0:Int)<i by omega),if_pos h0];rfl
   ·rw[Qe (show ¬(0:Int)<i by omega),if_neg h0];rfl)
  (λs=>by
   rw[List.length_map];simp only[BM,Q6 (Qg _),Qb])
 unfold Bn MI;rw[hr,Qa];by_cases h0:l=[]
 ·subst h0;rfl
 ·rw[if_neg h0,Qfv h0];rfl
def QlB(r:Report)(h:okR r)(b:Bool)(hb:Bp r=some b):Ec r=some (if b=true then kI r else[]):=by
 obtain⟨⟨l1,l2⟩,h1,h2,h3,h4,h5,h6,h7⟩:=h;unfold Ec;rw[hb];cases b with
 |false=>rfl
 |true =>
  have q1:=VN _ h3;have q2:=zZ r.Kind;have q3:=OG _ h1;have q4:=OG _ h2;have q5:=VN _ h4;have q6:=VN _ h5;have q7:=VN _ h6;have q8:=VN _ h7;have f:∀{x y:List UInt8},x.length≤100000000000→y.length≤1000000→VM x y=true:=λhx hy=>CG (by omega) (by omega)
  simp only[Qa,Qh,Qb,J8 _ h3,J8 _ h4,J8 _ h5,J8 _ h6,J8 _ h7,uV,mn _ (show r.Colours.length≤1048576 by omega) h1,mn _ (show r.Places.length≤1048576 by omega) h2,QS]
  have g:∀{x y:List UInt8} {q r:Option (List UInt8)},q=r→x.length≤100000000000→y.length≤1000000→(nd (VM x y)<|q)=r:=λh hx hy=>by rw[f hx hy];exact h
  repeat refine g ?_ (by first|omega|(simp only[List.length_append,List.length_cons,List.length_nil];omega)) (by first|omega|(simp only[List.length_cons,List.length_nil];omega))
  simp[kI,St]
def bS(s:List UInt8)(hl:s.length≤1206):Dg s=some (Fz s):=by
 unfold Dg Fz;by_cases h:s=[45]
 ·rw[Qf h,if_pos h];rfl
 have hp:=Ov 44 s;have h44:JZ s 44=some (HL 44 s):=aA s 44 (by omega)
 rw[Qe h,if_neg h,Qb,h44,Qa]
 rcases SS (HL 44 s) (λ_=>([],false)) (step:=Ao s (HL 44 s)) (λi o hi ho=>by
   simp only[Ao,Q0 hi,QP hi,Q3 hi,Vg (show(i:Int)<9223372036854775807 by omega),VU (show o.length+1≤2000000 by omega) (show 8≤1024 by omega),Qc,QL,iY,Qa]
   cases (Xe (HL 44 s)[i]).2<;>rfl)
  (λo=>by simp only[Ao,Q6 (Qg _),Qb])with⟨h1,h2⟩|⟨h1,o,h2⟩
 ·have ht:MI ((HL 44 s).map λx=>(Xe x).1)=s:=by
   obtain⟨x,l,e⟩:=IZ 44 s;unfold MI;rw[if_neg (by rw[e];simp),List.map_map]
   have:(HL 44 s).map (Lib.itoa ∘ λx=>(Xe x).1)=(HL 44 s).map id:=List.map_congr_left λy hy=>(pR (List.all_eq_true.1 h1 y hy)).2.2.2
   rw[this,List.map_id,jg]
  rw[h2,if_pos h1];show(Bn ((HL 44 s).map λx=>(Xe x).1)).bind _=_
  rw[mn _ (by rw[List.length_map];omega) (λx hx=>by obtain⟨y,_,rfl⟩:=List.mem_map.1 hx;exact NW y),ht]
  simp
 ·rw[h2,if_neg (by rw[h1];decide)];rfl
def Qto(s:List UInt8)(hl:s.length≤1206):∃r,Hf s=some r∧r.2.2=(Eu s).2.2∧(r.2.2=true→r=Eu s):=by
 have h45:JZ s 45=some (HL 45 s):=aA s 45 (by omega)
 unfold Hf;rw[h45,Qa];have hcut:=QtE s 45 (by omega)
 unfold strings_Cut at hcut;rw[Qf (show s.length<4294967281 by omega)]at hcut
 unfold Eu
 rcases hcut with⟨hn,hc⟩|⟨a,t,rfl,ha,hc⟩
 ·have hc':Lib.cut s [45]=(s,[],false):=Option.some.inj hc
  rw[aw 45 s hn,hc'];refine⟨(0,0,false),rfl,?_,λh=>by cases h⟩
  have:(Xe []).2=false:=rfl;simp only[this,Bool.and_false]
 ·have hc':Lib.cut (a++45::t) [45]=(a,t,true):=Option.some.inj hc
  rw[nL 45 a t ha,hc'];by_cases ht:(45:UInt8)∈t
  ·have hlen:¬(HL 45 t).length=1:=by
    have hcut2:=QtE t 45 (by simp at hl;omega)
    rcases hcut2 with⟨hn,_⟩|⟨a2,t2,rfl,ha2,_⟩
    ·exact absurd ht hn
    ·rw[nL 45 a2 t2 ha2]
     obtain⟨x,l,e⟩:=IZ 45 t2;rw[e];simp
   have h2:decide (ln (a::HL 45 t)=2)=false:=Qe (by rw[Vp];simp;omega)
   rw[h2];refine⟨(0,0,false),rfl,?_,λh=>by cases h⟩
   simp only[Qbx ht (by decide),Bool.and_false]
  ·rw[aw 45 t ht]
   simp only[show decide (ln [a,t]=2)=true from rfl,Qh,Qb,show Q1 [a,t] 0=true from rfl,show Q1 [a,t] 1=true from rfl,show gt [a,t] 0=a from rfl,show gt [a,t] 1=t from rfl,QL,iY,Qa];cases hq:(Xe a).2 with
   |true=>exact⟨_,rfl,rfl,λ_=>rfl⟩
   |false=>exact⟨_,rfl,rfl,λh=>by cases h⟩
def yO(s:List UInt8)(hl:s.length≤1206)(hR:∀r,okR r→∃b,JY r=some b∧Bp r=some b) :
  ∃r,JP s=some r∧BG s=some r∧okR r.1:=by
 have h32:JZ s 32=some (HL 32 s):=aA s 32 (by omega)
 rcases tY s hl (λr h=>let⟨b,h1,_⟩:=hR r h;⟨b,h1⟩)with⟨h6,h⟩|⟨a,b,c,d,e,f,hw,hx,B,hB,h⟩
 ·refine⟨_,h,?_,by simp[px,okR,i64]⟩
  unfold BG;rw[h32,Qa,show decide (ln (HL 32 s)=6)=false from Qe (by rw[Vp];omega)]
  rfl
 ·refine⟨_,h,?_,?_⟩
  ·have hc:=hx c (by simp)
   have hd:=hx d (by simp)
   have he:=hx e (by simp)
   have hf:=hx f (by simp)
   obtain⟨B',q1,q2⟩:=hR _ (cF a b c d e f hc he);have:B'=B:=Option.some.inj (q1.symm.trans hB);subst this;have hT:=QlB _ (cF a b c d e f hc he) B' q2;obtain⟨rd,d1,d2,d3⟩:=Qto d hd;obtain⟨rf,f1,f2,f3⟩:=Qto f hf;have hs:¬s=[]:=λh0=>by rw[h0]at hw;simp[HL]at hw
   unfold BG;rw[h32,Qa,hw];simp only[show decide (ln [a,b,c,d,e,f]=6)=true from rfl,Qh,Qb,show Q1 [a,b,c,d,e,f] 0=true from rfl,show Q1 [a,b,c,d,e,f] 1=true from rfl,show Q1 [a,b,c,d,e,f] 2=true from rfl,show Q1 [a,b,c,d,e,f] 3=true from rfl,
    show Q1 [a,b,c,d,e,f] 4=true from rfl,show Q1 [a,b,c,d,e,f] 5=true from rfl,QL,show gt [a,b,c,d,e,f] 0=a from rfl,show gt [a,b,c,d,e,f] 1=b from rfl,show gt [a,b,c,d,e,f] 2=c from rfl,show gt [a,b,c,d,e,f] 3=d from rfl,
    show gt [a,b,c,d,e,f] 4=e from rfl,show gt [a,b,c,d,e,f] 5=f from rfl,iY,bS c hc,bS e he,d1,f1,nu,(eT b).1,Qa,QcD,Qe hs,Bool.or_false]
   cases hd2:(Eu d).2.2 with
   |false=>rw[hd2]at d2;rw[d2];cases (Xe a).2<;>cases (Fz c).2<;>rfl
   |true =>
   rw[hd2]at d2;have ed:=d3 d2;subst ed;cases hf2:(Eu f).2.2 with
   |false=>rw[hf2]at f2;rw[f2,d2];cases (Xe a).2<;>cases (Fz c).2<;>cases (Fz e).2<;>rfl
   |true =>
   rw[hf2]at f2;have ef:=f3 f2;subst ef;have h6:((⟨(Xe a).1,kO b,(Fz c).1,(Eu d).1,(Eu d).2.1,(Fz e).1,⟨(Eu f).1,(Eu f).2.1⟩⟩:Report))=vg a b c d e f:=rfl;simp only[h6,hT,d2,f2,Qa];generalize (decide ((if B'=true then kI (vg a b c d e f)else[])=s))=t
   cases (Xe a).2<;>cases (Fz c).2<;>cases (Fz e).2<;>cases t<;>rfl
  ·cases (QcD a c d e f&&decide ((if B=true then kI (vg a b c d e f)else[])=s))with
   |false=>simp[px,okR,i64]
   |true=>exact cF a b c d e f (hx c (by simp)) (hx e (by simp))
def Qa4(l:List Int)(x y:Int)(hl:l.length≤1048576):∃b,BB l x y=some b∧Ik l x y=some b:=by
 obtain⟨b,h1,h2,_⟩:=GK (n:=l.length) (r:=false) (s1:=Zp l x y l (ln l)) (s2:=EC l x y) (λi hi _=>by
   simp only[Zp,EC,QO,QR,Q0 hi,QP hi,Q3 hi,Vg (show(i:Int)<9223372036854775807 by omega),Qc,QL,Qa]
   by_cases h0:0<i
   ·simp only[show decide (0<(i:Int))=true from Qf (by omega),Ds h0 (by omega),QP (show i-1<l.length by omega),Qc,QL]
    cases (decide (x≤l[i])&&decide (l[i]≤y))<;>cases decide (l[i]≤gt l ((i-1:Nat):Int))<;>first|exact⟨true,rfl,rfl⟩|exact⟨false,rfl,rfl⟩
   ·simp only[show decide (0<(i:Int))=false from Qe (by omega),Qb]
    cases (decide (x≤l[i])&&decide (l[i]≤y))<;>first|exact⟨true,rfl,rfl⟩|exact⟨false,rfl,rfl⟩)
  (by simp only[Zp,Q6 (Qg _),Qb]) (by simp only[EC,Q6 (Qg _),Qb])
 unfold BB Ik;rw[h1,h2];cases b with
 |true=>exact⟨true,rfl,rfl⟩
 |false=>exact⟨false,rfl,rfl⟩
def fg(r:Report)(h1:r.Colours.length≤1048576)(h2:r.Places.length≤1048576):∃b,JY r=some b∧Bp r=some b:=by
 obtain⟨p,p1,p2⟩:=Qa4 r.Colours 0 7 h1;obtain⟨q,q1,q2⟩:=Qa4 r.Places 1 30 h2;unfold JY Bp K9 Lh QO QR;simp only[p1,p2,q1,q2,Qa];cases (decide (1≤r.Id)&&decide (r.Id≤999))<;>try exact⟨false,rfl,rfl⟩
 cases (decide (1≤r.Kind)&&decide (r.Kind≤8))<;>try exact⟨false,rfl,rfl⟩
 cases p<;>try exact⟨false,rfl,rfl⟩
 cases decide (1≤r.SizeLow)<;>try exact⟨false,rfl,rfl⟩
 cases decide (r.SizeLow≤r.SizeHigh)<;>try exact⟨false,rfl,rfl⟩
 cases decide (r.SizeHigh≤50)<;>try exact⟨false,rfl,rfl⟩
 cases q<;>try exact⟨false,rfl,rfl⟩
 cases decide (ln r.Places≤10)<;>try exact⟨false,rfl,rfl⟩
 cases (decide (0≤r.Span.From)&&decide (r.Span.From≤100000))<;>exact⟨_,rfl,rfl⟩
def pr(l:List Int)(a:Int)(hl:l.length≤1048576):∃b,G7 l a=some b∧(bif decide (0<ln l)then(D5 l a).bind λr=>some (!r)else some false)=some (!b):=by
 unfold G7;rw[QkM l a hl,QhC l a hl,Vp];by_cases h:l.length=0
 ·rw[Qf (show(l.length:Int)=0 by omega),Qe (show ¬(0:Int)<(l.length:Int)by omega)]
  exact⟨true,rfl,rfl⟩
 ·rw[Qe (show ¬(l.length:Int)=0 by omega),Qf (show(0:Int)<(l.length:Int)by omega)]
  exact⟨decide (a∈l),rfl,rfl⟩
def QcH(r:Report)(f:QB)(h1:r.Colours.length≤1048576)(h2:r.Places.length≤1048576):∃w,IB r f=some w∧IP r f=some w:=by
 obtain⟨p,p1,p2⟩:=fg r h1 h2;obtain⟨q,q1,q2,_⟩:=Ou f;obtain⟨u,u1,u2⟩:=pr r.Colours f.Qo.Colour h1;obtain⟨v,v1,v2⟩:=pr r.Places f.Place h2;unfold IB IP;simp only[p1,p2,q1,q2,u1,u2,v1,v2,QO,QR,Qa];cases p<;>try exact⟨_,rfl,rfl⟩
 cases q<;>try exact⟨_,rfl,rfl⟩
 simp only[Qh,Qb];cases decide (r.Kind=f.Qo.Kind)<;>try exact⟨_,rfl,rfl⟩
 cases u<;>try exact⟨_,rfl,rfl⟩
 cases (decide (r.SizeLow≤f.Qo.Size)&&decide (f.Qo.Size≤r.SizeHigh))<;>try exact⟨_,rfl,rfl⟩
 cases v<;>try exact⟨_,rfl,rfl⟩
 cases decide (f.At<r.Span.From)<;>exact⟨_,rfl,rfl⟩
def Qjl(r:Report)(f:QB)(h1:r.Colours.length≤1048576)(h2:r.Places.length≤1048576):∃b,CV r f=some b∧G2 r f=some b:=by
 obtain⟨w,w1,w2⟩:=QcH r f h1 h2;unfold CV G2;rw[w1,w2];exact⟨_,rfl,rfl⟩
def nZ(r:Report)(l:List QB)(h1:r.Colours.length≤1048576)(h2:r.Places.length≤1048576)(hl:l.length≤1048576)(hi:∀x∈l,i64 x.Qo.Id) :
  ∃o,Cc r l=some o∧Co r l=some o∧o.length≤1048576∧∀x∈o,i64 x:=by
 obtain⟨b,b1,b2,_⟩:=Sj l hl;have hp:∀f,∃b,CV r f=some b∧G2 r f=some b:=λf=>Qjl r f h1 h2
 let p:QB→Bool:=λf=>(CV r f).getD false
 have hpI:∀f,CV r f=some (p f):=λf=>by obtain⟨b,e,_⟩:=hp f;show _=some ((CV r f).getD false);rw[e];rfl
 have hpS:∀f,G2 r f=some (p f):=λf=>by obtain⟨b,e,e2⟩:=hp f;show _=some ((CV r f).getD false);rw[e,e2];rfl
 unfold Cc;rw[b2];cases b with
 |false =>
  refine⟨[],rfl,?_,by simp,by simp⟩
  unfold Co;rw[rR (r:=[]) (by
   simp only[JD,b1,Qa];cases decide ((0:Int)<ln l)<;>rfl)]
  rfl
 |true =>
  have hI:=Fj l p (λf=>f.Qo.Id) (step:=ZO r l (ln l)) (λi o hi' ho=>by
    simp only[ZO,Q0 hi',QP hi',Q3 hi',Vg (show(i:Int)<9223372036854775807 by omega),VU (show o.length+1≤2000000 by omega) (show 8≤1024 by omega),Qc,QL,hpI,Qa]
    cases p l[i]<;>rfl)
   (λo=>by simp only[ZO,Q6 (Qg _),Qb])
  have hS:=Fj l p (λf=>f.Qo.Id) (step:=JD l r) (λi o hi' ho=>by
    simp only[JD,Q0 hi',QP hi',Q3 hi',Vg (show(i:Int)<9223372036854775807 by omega),VU (show o.length+1≤2000000 by omega) (show 8≤1024 by omega),Qc,QL,b1,hpS,Qa]
    cases p l[i]<;>rfl)
   (λo=>by simp only[JD,Q6 (Qg _),Qb,Qa])
  refine⟨(l.filter p).map λf=>f.Qo.Id,?_,?_,?_,?_⟩
  ·simp only[Qa,Qh,Qb,hI]
  ·unfold Co;rw[hS];rfl
  ·rw[List.length_map];exact Nat.le_trans (List.length_filter_le _ _) hl
  ·intro x hx
   obtain⟨f,hf,rfl⟩:=List.mem_map.1 hx;exact hi f (List.mem_filter.1 hf).1
def QdA(l:List UInt8):∀x∈ue l,x.length≤l.length∧x≠[]:=λx hx=>by
 obtain⟨h1,h2⟩:=List.mem_filter.1 hx;exact⟨(ig 32 l x h1).1,by simpa using h2⟩
def pL(l:List UInt8):(ue l).length≤l.length+1:=Nat.le_trans (List.length_filter_le _ _) (Ov 32 l)
def sR(a:Ql)(l:List UInt8)(hl:l.length≤1048576):run (Jh l a (HL 32 l) (ln (HL 32 l))) ([],0)=some (ue l):=by
 have hp:=Ov 32 l;have:=Fj (HL 32 l) (λx=>!decide (x=[])) id (step:=Jh l a (HL 32 l) (ln (HL 32 l))) (λi o hi ho=>by
   simp only[Jh,Q0 hi,QP hi,Q3 hi,Vg (show(i:Int)<9223372036854775807 by omega),yK (show o.length+1≤2000000 by omega),Qc,QL,id]
   cases decide ((HL 32 l)[i]=[])<;>rfl)
  (λo=>by simp only[Jh,Q6 (Qg _),Qb])
 rw[this,List.map_id];rfl
noncomputable def Tn(a:Ql)(w:List UInt8)(ws:List (List UInt8)):Option (Ql×List UInt8) :=
 bif !decide (lw w=(ws.length:Int))then some (a,G6)else bif decide (w=B0)then(strings_Join ws [32]).bind λr4=>(JP r4).bind λr5=>(bif !r5.2 then some (a,G6)else(Cc r5.1 a.Qt).bind λr8=>(XJ r8).bind λr9=>some (a,r9))else(Ac (w::ws)).bind λr10=>(bif !r10.2 then some (a,G6)else WO a w r10.1)
def NI{α:Type}(w:α)(ws:List α):cut (w::ws) 1 (ln (w::ws))=ws:=by
 unfold cut ln;simp
def NH{α:Type}(w:α)(ws:List α):Ff 1 (ln (w::ws)) (ln (w::ws))=true:=by
 unfold Ff ln;simp;omega
def sF(a:Ql)(l:List UInt8)(hm:QX a)(hl:l.length≤1048576):ZG a l=if 200<l.length then some (a,G6)else match ue l with|[]=>some (a,G6)|w::ws=>Tn a w ws:=by
 unfold ZG;rw[mb l 32 (by omega),Qa,sR a l hl,Qa]
 by_cases h:200<l.length
 ·rw[if_pos h,Qf (show(200:Int)<ln l by rw[Vp];omega)]
  show(Ve a).bind _=_;rw[X3 a hm];rfl
 rw[if_neg h,Qe (show ¬(200:Int)<ln l by rw[Vp];omega),Qb]
 cases hw:ue l with
 |nil =>
  show(Ve a).bind _=_;rw[X3 a hm];rfl
 |cons w ws =>
  have hlen:=pL l;rw[hw]at hlen;simp only[List.length_cons]at hlen;have e1:decide (ln (w::ws)=0)=false:=Qe (by rw[Vp];simp;omega)
  have e2:Q1 (w::ws) 0=true:=by rw[C8];simp
  have e3:gt (w::ws) 0=w:=rfl;have e4:QU (ln (w::ws)-1)=(ws.length:Int):=by rw[Vp,List.length_cons,VD (by omega) (by omega)];omega
  simp only[e1,e2,e3,e4,Qb,QL,Qop,Qa,NH,NI,X3 a hm];unfold Tn WO;cases decide (lw w=(ws.length:Int))with
  |false=>rfl
  |true =>
   simp only[Qh,Qb,X3 a hm,Qa];rfl
def jq(w:List UInt8)(ws:List (List UInt8))(h:¬(w=Xa∧ws.length=10)):JA (w::ws)=some noEv:=by
 unfold JA;have e2:Q1 (w::ws) 0=true:=by rw[C8];simp
 rw[e2,show gt (w::ws) 0=w from rfl];by_cases hl:ws.length=10
 ·have hw:¬w=[102,105,110,100]:=λe=>h ⟨e,hl⟩
  rw[Qf (show ln (w::ws)=11 by rw[Vp];simp;omega),Qe hw]
  rfl
 ·rw[Qe (show ¬ln (w::ws)=11 by rw[Vp];simp;omega)]
  rfl
def eR(a:Ql)(l:List UInt8)(hm:QX a)(hl:l.length≤1048576)(h:200<l.length∨ue l=[]):V1 a l=some (a,G6):=by
 unfold V1;rw[TQ l hl,Qa];have:(decide (ln (ue l)=0)||decide (200<ln l))=true:=by
  rcases h with h|h
  ·rw[Qf (show(200:Int)<ln l by rw[Vp];omega)];simp
  ·rw[h];rfl
 rw[this];show(Vm a).bind _=_;rw[Jx a hm];rfl
section
variable{a:Ql}{l w:List UInt8}{ws:List (List UInt8)}(hm:QX a)(hl:l.length≤200)(hw:ue l=w::ws)
include hm hl hw
def bR(hf:JA (w::ws)=some noEv)(hn:¬(ws.length=6∧w=B0)):V1 a l=(Ab ws).bind λr9=>bif !r9.2 then some (a,G6)else PJ a w r9.1:=by
 unfold V1 PJ;have e0:(decide (ln (w::ws)=0)||decide (200<ln l))=false:=by
  rw[Qe (show ¬ln (w::ws)=0 by rw[Vp];simp;omega),Qe (show ¬(200:Int)<ln l by rw[Vp];omega)];rfl
 have e2:Q1 (w::ws) 0=true:=by rw[C8];simp
 have e7:(bif decide (ln (w::ws)=7)then some (decide (w=[109,97,116,99,104]))else some false)=some false:=by
  by_cases h7:ws.length=6
  ·rw[Qf (show ln (w::ws)=7 by rw[Vp];simp;omega),Qe (show ¬w=[109,97,116,99,104]from λe=>hn ⟨h7,e⟩)];rfl
  ·rw[Qe (show ¬ln (w::ws)=7 by rw[Vp];simp;omega)];rfl
 rw[TQ l (by omega),Qa,hw]
 simp only[e0,Qb,hf,Qa,e2,show gt (w::ws) 0=w from rfl,QL,e7,NH,NI,show decide (noEv.Kind=0)=true from rfl,Bool.and_true,Jx a hm,Qc];rfl
def np(hf1:w=Xa){e:Event}(hf:JA (w::ws)=some e)(hk:e.Kind=1)(hn:∃q,Ab ws=some q){r:Ql×Bool}(hr:AY a e=some r):V1 a l=some (U9 a r):=by
 obtain⟨q,hq⟩:=hn;unfold V1;have e0:(decide (ln (w::ws)=0)||decide (200<ln l))=false:=by
  rw[Qe (show ¬ln (w::ws)=0 by rw[Vp];simp;omega),Qe (show ¬(200:Int)<ln l by rw[Vp];omega)];rfl
 have e2:Q1 (w::ws) 0=true:=by rw[C8];simp
 subst hf1;have e7:(bif decide (ln (Xa::ws)=7)then some (decide (Xa=[109,97,116,99,104]))else some false)=some false:=by
  cases decide (ln (Xa::ws)=7)<;>rfl
 rw[TQ l (by omega),Qa,hw]
 simp only[e0,Qb,hf,Qa,e2,show gt (Xa::ws) 0=Xa from rfl,QL,e7,NH,NI,hq,hk,show decide ((1:Int)=0)=false from rfl,Bool.and_false,show decide (Xa=[110,101,119])=false from rfl,Bool.false_and,show decide ((0:Int)<1)=true from rfl,Qc,hr];exact Rn a hm r
end
def bm(ws:List (List UInt8))(hl:ws.length≤1048576):(ws.all (λx=>(Xe x).2)=true∧Ab ws=some (ws.map (λx=>(Xe x).1),true))∨(ws.all (λx=>(Xe x).2)=false∧∃o,Ab ws=some (o,false)):=by
 unfold Ab
 rcases SS ws (λo=>(o,false)) (step:=B9 ws) (λi o hi ho=>by
   simp only[B9,Q0 hi,QP hi,Q3 hi,Vg (show(i:Int)<9223372036854775807 by omega),VU (show o.length+1≤2000000 by omega) (show 8≤1024 by omega),Qc,QL,iY,Qa]
   cases (Xe ws[i]).2<;>rfl)
  (λo=>by simp only[B9,Q6 (Qg _),Qb])with⟨h1,h2⟩|⟨h1,o,h2⟩
 ·left
  exact⟨h1,by rw[h2];rfl⟩
 ·right
  exact⟨h1,o,by rw[h2];rfl⟩
def yA(w:List UInt8)(ws:List (List UInt8))(hl:ws.length≤1048576)(hw:w≠Xa):Ac (w::ws)=some (if ws.all (λx=>(Xe x).2)=true then(ws.map (λx=>(Xe x).1),true)else([],false)):=by
 unfold Ac;have hw':decide (w=[102,105,110,100])=false:=Qe hw;have e2:Q1 (w::ws) 0=true:=by rw[C8];simp
 rw[NH,NI]
 rcases SS ws (λ_=>(([]:List Int),false)) (step:=Xo (w::ws) ws (ln ws)) (λi o hi ho=>by
   simp only[Xo,Q0 hi,QP hi,Q3 hi,Vg (show(i:Int)<9223372036854775807 by omega),VU (show o.length+1≤2000000 by omega) (show 8≤1024 by omega),Qc,Qb,QL,UP,Qa,e2,show gt (w::ws) 0=w from rfl,hw',Bool.false_and]
   cases (Xe ws[i]).2<;>rfl)
  (λo=>by simp only[Xo,Q6 (Qg _),Qb])with⟨h1,h2⟩|⟨h1,o,h2⟩
 ·rw[h2,if_pos h1];rfl
 ·rw[h2,if_neg (by rw[h1];decide)];rfl
def uc(a:Ql)(w b c d e f g:List UInt8)(hx:∀x∈[b,c,d,e,f,g],x.length≤200):run (Zk a [w,b,c,d,e,f,g]) (b,2)=some (Lib.join [b,c,d,e,f,g] [32]):=by
 have hb:=hx b (by simp)
 have hc:=hx c (by simp)
 have hd:=hx d (by simp)
 have he:=hx e (by simp)
 have hf:=hx f (by simp)
 have hg:=hx g (by simp)
 have st:∀(s:List UInt8) (i:Int) (x:List UInt8),s.length≤2000→x.length≤200→0≤i→i<7→Q1 [w,b,c,d,e,f,g] i=true→gt [w,b,c,d,e,f,g] i=x→Zk a [w,b,c,d,e,f,g] (s,i)=some (.inl (s++[32]++x,i+1)):=λs i x h1 h2 h3 h4 h5 h6=>by
  simp only[Zk,Qf h4,Qc,h5,h6,QL,CG (x:=s) (y:=[32]) (by omega) (by simp),CG (x:=QS s [32]) (y:=x) (by rw[A9];simp;omega) (by omega),VD (n:=i+1) (by omega) (by omega)]
  rfl
 rw[rI (st b 2 c (by omega) hc (by omega) (by omega) rfl rfl),rI (st _ (2+1) d (by simp;omega) hd (by omega) (by omega) rfl rfl),rI (st _ (2+1+1) e (by simp;omega) he (by omega) (by omega) rfl rfl),rI (st _ (2+1+1+1) f (by simp;omega) hf (by omega) (by omega) rfl rfl),rI (st _ (2+1+1+1+1) g (by simp;omega) hg (by omega) (by omega) rfl rfl)]
 rw[rR (r:=b++[32]++c++[32]++d++[32]++e++[32]++f++[32]++g) rfl];simp[Lib.join,Lib.joinTail]
def YX{r:Report}(h:okR r):r.Colours.length≤1048576∧r.Places.length≤1048576:=by
 have:=h.1;omega
def nJ(a:Ql)(l:List UInt8)(ws:List (List UInt8))(hm:QX a)(hk:Lk a)(hl:l.length≤200)(hw:ue l=B0::ws)(h6:ws.length=6):∃s,Tn a B0 ws=some (a,s)∧V1 a l=some (a,s):=by
 obtain⟨b,c,d,e,f,g,rfl⟩:=xl h6;have hx:∀x∈[b,c,d,e,f,g],x.length≤200:=λx hx=>Nat.le_trans (QdA l x (by rw[hw];exact List.mem_cons_of_mem _ hx)).1 hl
 have hj:(Lib.join [b,c,d,e,f,g] [32]).length≤1206:=by
  have hb:=hx b (by simp)
  have hc:=hx c (by simp)
  have hd:=hx d (by simp)
  have he:=hx e (by simp)
  have hf:=hx f (by simp)
  have hg:=hx g (by simp)
  simp[Lib.join,Lib.joinTail];omega
 obtain⟨r,r1,r2,r3⟩:=yO _ hj (λr h=>fg r (YX h).1 (YX h).2)
 obtain⟨o,o1,o2,o3,o4⟩:=nZ r.1 a.Qt (YX r3).1 (YX r3).2 hm.1 hk.finds;obtain⟨s,s1,s2⟩:=Lt o o3 o4;refine⟨bif !r.2 then G6 else s,?_,?_⟩
 ·unfold Tn
  rw[show decide (lw B0=(([b,c,d,e,f,g]:List (List UInt8)).length:Int))=true from rfl,show decide (B0=B0)=true from rfl];simp only[Qh,Qb,Qc,U5 _ ⟨by simp,hx⟩,Qa,r1,o1,s2]
  cases r.2<;>rfl
 ·unfold V1
  have e0:(decide (ln (B0::[b,c,d,e,f,g])=0)||decide (200<ln l))=false:=by
   rw[Qe (show ¬(200:Int)<ln l by rw[Vp];omega)];rfl
  rw[TQ l (by omega),Qa,hw]
  simp only[e0,Qb,jq B0 [b,c,d,e,f,g] (by rintro⟨h,_⟩;revert h;decide),Qa,show decide (ln (B0::[b,c,d,e,f,g])=7)=true from rfl,Qc,show Q1 (B0::[b,c,d,e,f,g]) 0=true from rfl,show Q1 (B0::[b,c,d,e,f,g]) 1=true from rfl,QL,
   show decide (gt (B0::[b,c,d,e,f,g]) 0=[109,97,116,99,104])=true from rfl,show gt (B0::[b,c,d,e,f,g]) 1=b from rfl,uc a B0 b c d e f g hx,r2,o2,s1,Jx a hm]
  cases r.2<;>rfl
def Qh5{α:Type}{l:List α}(h:l.length=10):∃a b c d e f g i j k,l=[a,b,c,d,e,f,g,i,j,k]:=by
 match l,h with
 |[a,b,c,d,e,f,g,i,j,k],_=>exact⟨a,b,c,d,e,f,g,i,j,k,rfl⟩
def Qau(b c d e f g h i j k:List UInt8) :
  Ac [Xa,b,c,d,e,f,g,h,i,j,k]=some (bif (Xe b).2&&(decide (0<kO c)&&[d,e,f,g,h,i,j,k].all λx=>(Xe x).2)then((Xe b).1::kO c::[d,e,f,g,h,i,j,k].map λx=>(Xe x).1,true)else([],false)):=by
 have hn:∀(o:List Int) (q:Nat) (x:List UInt8),o.length≤10→q≠1→q<10→gt [b,c,d,e,f,g,h,i,j,k] (q:Int)=x→Q1 [b,c,d,e,f,g,h,i,j,k] (q:Int)=true→Xo [Xa,b,c,d,e,f,g,h,i,j,k] [b,c,d,e,f,g,h,i,j,k] 10 (o,(q:Int))=(bif (Xe x).2 then some (.inl (o++[(Xe x).1],((q+1:Nat):Int)))else some (.inr (.ret ([],false)))):=λo q x h1 h2 h3 h4 h5=>by
  simp only[Xo,Qf (show(q:Int)<10 by omega),Qc,h5,h4,QL,UP,Qa,show Q1 [Xa,b,c,d,e,f,g,h,i,j,k] 0=true from rfl,show decide (gt [Xa,b,c,d,e,f,g,h,i,j,k] 0=[102,105,110,100])=true from rfl,Qe (show ¬(q:Int)=1 by omega),Bool.and_false,Qb,VU (show o.length+1≤2000000 by omega) (show 8≤1024 by omega),Vg (show(q:Int)<9223372036854775807 by omega)]
  cases (Xe x).2<;>rfl
 have h1:∀(o:List Int),o.length≤10→Xo [Xa,b,c,d,e,f,g,h,i,j,k] [b,c,d,e,f,g,h,i,j,k] 10 (o,((1:Nat):Int))=(bif decide (0<kO c)then some (.inl (o++[kO c],((2:Nat):Int)))else some (.inr (.ret ([],false)))):=λo ho=>by
  simp only[Xo,show decide (((1:Nat):Int)<10)=true from rfl,Qc,show Q1 [b,c,d,e,f,g,h,i,j,k] ((1:Nat):Int)=true from rfl,show gt [b,c,d,e,f,g,h,i,j,k] ((1:Nat):Int)=c from rfl,QL,UP,Qa,show Q1 [Xa,b,c,d,e,f,g,h,i,j,k] 0=true from rfl,show decide (gt [Xa,b,c,d,e,f,g,h,i,j,k] 0=[102,105,110,100])=true from rfl,show decide (((1:Nat):Int)=1)=true from rfl,Bool.and_true,(eT c).1,VU (show o.length+1≤2000000 by omega) (show 8≤1024 by omega),Vg (show((1:Nat):Int)<9223372036854775807 by omega)]
  cases decide (0<kO c)<;>rfl
 have hend:∀o:List Int,Xo [Xa,b,c,d,e,f,g,h,i,j,k] [b,c,d,e,f,g,h,i,j,k] 10 (o,((10:Nat):Int))=some (.inr (.brk o)):=λo=>rfl
 unfold Ac;rw[show ln [Xa,b,c,d,e,f,g,h,i,j,k]=ln (Xa::[b,c,d,e,f,g,h,i,j,k])from rfl,NH Xa [b,c,d,e,f,g,h,i,j,k],NI Xa [b,c,d,e,f,g,h,i,j,k],show ln [b,c,d,e,f,g,h,i,j,k]=10 from rfl,show(([]:List Int),(0:Int))=([],((0:Nat):Int))from rfl];simp only[QL];cases hb:(Xe b).2 with
 |false=>rw[rR (by rw[hn [] 0 b (by simp) (by omega) (by omega) rfl rfl,hb];rfl)];rfl
 |true =>
 rw[rI (by rw[hn [] 0 b (by simp) (by omega) (by omega) rfl rfl,hb];rfl)]
 cases hc:decide (0<kO c)with
 |false=>rw[rR (by rw[h1 _ (by simp),hc];rfl)];rfl
 |true =>
 rw[rI (by rw[h1 _ (by simp),hc];rfl)]
 cases hd:(Xe d).2 with
 |false=>rw[rR (by rw[hn _ 2 d (by simp) (by omega) (by omega) rfl rfl,hd];rfl)];simp[hd,J1]
 |true =>
 rw[rI (by rw[hn _ 2 d (by simp) (by omega) (by omega) rfl rfl,hd];rfl)]
 cases he:(Xe e).2 with
 |false=>rw[rR (by rw[hn _ 3 e (by simp) (by omega) (by omega) rfl rfl,he];rfl)];simp[hd,he,J1]
 |true =>
 rw[rI (by rw[hn _ 3 e (by simp) (by omega) (by omega) rfl rfl,he];rfl)]
 cases hf:(Xe f).2 with
 |false=>rw[rR (by rw[hn _ 4 f (by simp) (by omega) (by omega) rfl rfl,hf];rfl)];simp[hd,he,hf,J1]
 |true =>
 rw[rI (by rw[hn _ 4 f (by simp) (by omega) (by omega) rfl rfl,hf];rfl)]
 cases hg:(Xe g).2 with
 |false=>rw[rR (by rw[hn _ 5 g (by simp) (by omega) (by omega) rfl rfl,hg];rfl)];simp[hd,he,hf,hg,J1]
 |true =>
 rw[rI (by rw[hn _ 5 g (by simp) (by omega) (by omega) rfl rfl,hg];rfl)]
 cases hh:(Xe h).2 with
 |false=>rw[rR (by rw[hn _ 6 h (by simp) (by omega) (by omega) rfl rfl,hh];rfl)];simp[hd,he,hf,hg,hh,J1]
 |true =>
 rw[rI (by rw[hn _ 6 h (by simp) (by omega) (by omega) rfl rfl,hh];rfl)]
 cases hi:(Xe i).2 with
 |false=>rw[rR (by rw[hn _ 7 i (by simp) (by omega) (by omega) rfl rfl,hi];rfl)];simp[hd,he,hf,hg,hh,hi,J1]
 |true =>
 rw[rI (by rw[hn _ 7 i (by simp) (by omega) (by omega) rfl rfl,hi];rfl)]
 cases hj:(Xe j).2 with
 |false=>rw[rR (by rw[hn _ 8 j (by simp) (by omega) (by omega) rfl rfl,hj];rfl)];simp[hd,he,hf,hg,hh,hi,hj,J1]
 |true =>
 rw[rI (by rw[hn _ 8 j (by simp) (by omega) (by omega) rfl rfl,hj];rfl)]
 cases hk:(Xe k).2 with
 |false=>rw[rR (by rw[hn _ 9 k (by simp) (by omega) (by omega) rfl rfl,hk];rfl)];simp[hd,he,hf,hg,hh,hi,hj,hk,J1]
 |true =>
 rw[rI (by rw[hn _ 9 k (by simp) (by omega) (by omega) rfl rfl,hk];rfl),rR (hend _)]
 simp[hd,he,hf,hg,hh,hi,hj,hk,J1]
def zt(a:Ql)(n:List Int)(hm:QX a):PJ a Xa n=some (a,G6):=by
 have he:XM Xa n=some noEv:=by
  unfold XM;rw[show decide (Xa=[99,108,97,105,109])=false from rfl,show decide (Xa=[97,110,115,119,101,114])=false from rfl,show decide (Xa=[115,101,114,118,101])=false from rfl,show decide (Xa=[99,108,101,97,114])=false from rfl,show decide (Xa=[115,101,108,108])=false from rfl,show decide (Xa=[116,105,99,107])=false from rfl];simp only[Bool.and_false,Qb];rfl
 rw[Ms a Xa n hm (by rw[show decide (Xa=[110,101,119])=false from rfl];rfl) he]
 rw[show J4 a Xa=some G6 from rfl];by_cases z0:ln n=0
 ·rw[Qf z0];rfl
 by_cases z1:ln n=1
 ·rw[Qe z0,Qf z1]
  have:Q1 n 0=true:=by rw[C8];rw[Vp]at z1;omega
  rw[this];rfl
 ·rw[Qe z0,Qe z1];rfl
def mR(b c d e f g h i j k:List UInt8)(hc:kO c=0):JA [Xa,b,c,d,e,f,g,h,i,j,k]=some noEv:=by
 unfold JA;have:CC c=some 0:=by rw[nu,(eT c).1,hc]
 simp only[show decide (ln [Xa,b,c,d,e,f,g,h,i,j,k]=11)=true from rfl,Qh,Qb,show Q1 [Xa,b,c,d,e,f,g,h,i,j,k] 0=true from rfl,show Q1 [Xa,b,c,d,e,f,g,h,i,j,k] 2=true from rfl,QL,show decide (gt [Xa,b,c,d,e,f,g,h,i,j,k] 0=[102,105,110,100])=true from rfl,show gt [Xa,b,c,d,e,f,g,h,i,j,k] 2=c from rfl,this,Qa];rfl
def sN(b c d e f g h i j k:List UInt8)(hc:kO c≠0):JA [Xa,b,c,d,e,f,g,h,i,j,k]=(Ab [b,d,e,f,g,h,i,j,k]).bind λr2=>(bif !r2.2 then some noEv else nd (Q1 r2.1 0)<|nd (Q1 r2.1 1)<|nd (Q1 r2.1 2)<|nd (Q1 r2.1 3)<|nd (Q1 r2.1 4)<|nd (Q1 r2.1 5)<|nd (Q1 r2.1 6)<|nd (Q1 r2.1 7)<|nd (Q1 r2.1 8)<|some (⟨1,⟨⟨gt r2.1 0,kO c,gt r2.1 1,gt r2.1 2,gt r2.1 3⟩,gt r2.1 4,gt r2.1 5,gt r2.1 6⟩,[(⟨1,gt r2.1 7⟩:Mark),(⟨2,gt r2.1 8⟩:Mark)],0,0,0,[]⟩:Event)):=by
 unfold JA;have:CC c=some (kO c):=by rw[nu,(eT c).1]
 simp only[show decide (ln [Xa,b,c,d,e,f,g,h,i,j,k]=11)=true from rfl,Qh,Qb,show Q1 [Xa,b,c,d,e,f,g,h,i,j,k] 0=true from rfl,show Q1 [Xa,b,c,d,e,f,g,h,i,j,k] 1=true from rfl,show Q1 [Xa,b,c,d,e,f,g,h,i,j,k] 2=true from rfl,QL,show decide (gt [Xa,b,c,d,e,f,g,h,i,j,k] 0=[102,105,110,100])=true from rfl,show gt [Xa,b,c,d,e,f,g,h,i,j,k] 2=c from rfl,show gt [Xa,b,c,d,e,f,g,h,i,j,k] 1=b from rfl,this,Qa,Qe hc,
  show Ff 3 (ln [Xa,b,c,d,e,f,g,h,i,j,k]) (ln [Xa,b,c,d,e,f,g,h,i,j,k])=true from rfl,show cut [Xa,b,c,d,e,f,g,h,i,j,k] 3 (ln [Xa,b,c,d,e,f,g,h,i,j,k])=[d,e,f,g,h,i,j,k]from rfl,show rm (1+[d,e,f,g,h,i,j,k].length) 16=true from rfl,List.singleton_append]
 rfl
def t6(a:Ql)(l:List UInt8)(ws:List (List UInt8))(hm:QX a)(hl:l.length≤200)(hw:ue l=Xa::ws)(h10:ws.length=10):∃r,Tn a Xa ws=some r∧V1 a l=some r∧Kp a r.1:=by
 obtain⟨b,c,d,e,f,g,h,i,j,k,rfl⟩:=Qh5 h10;have hself:Kp a a:=⟨hm,.inl rfl⟩;have hn6:¬(([b,c,d,e,f,g,h,i,j,k]:List (List UInt8)).length=6∧Xa=B0):=by rintro⟨q,_⟩;simp at q
 have hI:Tn a Xa [b,c,d,e,f,g,h,i,j,k]=(bif (Xe b).2&&(decide (0<kO c)&&[d,e,f,g,h,i,j,k].all λx=>(Xe x).2)then WO a Xa ((Xe b).1::kO c::[d,e,f,g,h,i,j,k].map λx=>(Xe x).1)else some (a,G6)):=by
  unfold Tn;rw[show decide (lw Xa=(([b,c,d,e,f,g,h,i,j,k]:List (List UInt8)).length:Int))=true from rfl,show decide (Xa=B0)=false from rfl,Qau];simp only[Qh,Qb,Qa];cases ((Xe b).2&&(decide (0<kO c)&&[d,e,f,g,h,i,j,k].all λx=>(Xe x).2))<;>rfl
 have hno:JA (Xa::[b,c,d,e,f,g,h,i,j,k])=some noEv→V1 a l=some (a,G6):=λhf=>by
  rw[bR hm hl hw hf hn6]
  rcases bm [b,c,d,e,f,g,h,i,j,k] (by simp)with⟨_,q⟩|⟨_,o,q⟩
  ·rw[q];exact(show _=PJ a Xa ([b,c,d,e,f,g,h,i,j,k].map λx=>(Xe x).1)from rfl).trans (zt a _ hm)
  ·rw[q];rfl
 rw[hI];by_cases hc:kO c=0
 ·refine⟨(a,G6),?_,hno (mR b c d e f g h i j k hc),hself⟩
  rw[Qe (show ¬0<kO c by omega),Bool.false_and,Bool.and_false]
  rfl
 have hfk:=sN b c d e f g h i j k hc;have h0:=(eT c).2.1;rw[Qf (show 0<kO c by omega),Bool.true_and]
 rcases bm [b,d,e,f,g,h,i,j,k] (by simp)with⟨q1,q⟩|⟨q1,o,q⟩
 ·rw[List.all_cons]at q1
  rw[q1,Qc];rw[q]at hfk;obtain⟨r,r1,r2,r3⟩:=uS a ⟨⟨(Xe b).1,kO c,(Xe d).1,(Xe e).1,(Xe f).1⟩,(Xe g).1,(Xe h).1,(Xe i).1⟩ [(⟨1,(Xe j).1⟩:Mark),(⟨2,(Xe k).1⟩:Mark)] 0 hm (by simp)
  refine⟨U9 a r,He a _ _ hm r ?_,?_,KV hm r3 λz=>((sw a _ _ _ hm _ r1).1 z).2⟩
  ·show(ES a ⟨⟨(Xe b).1,kO c,(Xe d).1,(Xe e).1,(Xe f).1⟩,(Xe g).1,(Xe h).1,(Xe i).1⟩ [(⟨1,(Xe j).1⟩:Mark),(⟨2,(Xe k).1⟩:Mark)] 0).bind _=_
   rw[r2];rfl
  ·exact np hm hl hw rfl hfk rfl (by rcases bm [b,c,d,e,f,g,h,i,j,k] (by simp)with⟨_,p⟩|⟨_,o,p⟩<;>exact⟨_,p⟩) (GZ r1)
 ·rw[List.all_cons]at q1
  rw[q1,Qb];rw[q]at hfk;exact⟨(a,G6),rfl,hno hfk,hself⟩
def jy(a:Ql)(l:List UInt8)(hm:QX a)(hk:Lk a)(hl:l.length≤1048576):∃r,ZG a l=some r∧V1 a l=some r∧Kp a r.1:=by
 have hself:Kp a a:=⟨hm,.inl rfl⟩;rw[sF a l hm hl];by_cases h200:200<l.length
 ·rw[if_pos h200]
  exact⟨_,rfl,eR a l hm hl (.inl h200),hself⟩
 rw[if_neg h200];cases hw:ue l with
 |nil=>exact⟨_,rfl,eR a l hm hl (.inr hw),hself⟩
 |cons w ws =>
  have hlen:=pL l;rw[hw]at hlen;simp only[List.length_cons]at hlen;show ∃r,Tn a w ws=some r∧_;by_cases hM:ws.length=6∧w=B0
  ·obtain⟨h6,rfl⟩:=hM
   obtain⟨s,s1,s2⟩:=nJ a l ws hm hk (by omega) hw h6
   exact⟨(a,s),s1,s2,hself⟩
  by_cases hF:w=Xa∧ws.length=10
  ·obtain⟨rfl,h10⟩:=hF
   exact t6 a l ws hm (by omega) hw h10
  have hS:=bR hm (show l.length≤200 by omega) hw (jq w ws hF) hM
  unfold Tn;by_cases hA:lw w=(ws.length:Int)
  ·have h6:w≠B0:=λe=>hM ⟨by subst e;have:(6:Int)=(ws.length:Int):=hA;omega,e⟩
   have h10:w≠Xa:=λe=>hF ⟨e,by subst e;have:(10:Int)=(ws.length:Int):=hA;omega⟩
   rw[Qf hA,Qe h6,yA w ws (by omega) h10,hS]
   rcases bm ws (by omega)with⟨q1,q⟩|⟨q1,o,q⟩
   ·rw[if_pos q1,q]
    exact Qvh a w (ws.map λx=>(Xe x).1) hm hk (by rw[Vp,List.length_map];exact hA) h6 h10
   ·rw[if_neg (by rw[q1];decide),q]
    exact⟨(a,G6),rfl,rfl,hself⟩
  ·rw[Qe hA,hS]
   refine⟨(a,G6),rfl,?_,hself⟩
   rcases bm ws (by omega)with⟨q1,q⟩|⟨q1,o,q⟩
   ·rw[q]
    exact tE a w (ws.map λx=>(Xe x).1) hm (by rw[Vp,List.length_map];exact hA)
   ·rw[q];rfl
end Go.Proofs.YtkgadcbajihilaaGreatDoor
