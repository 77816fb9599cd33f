import Derived.Test.YtfhnbabcbhgffaaGreatDoorPz3
set_option linter.unusedVariables false
set_option linter.unusedSimpArgs false
set_option linter.defProp false
namespace Go.Proofs.YtfhnbabcbhgffaaGreatDoor
open Go
def mO{n:Nat}(f:Nat→Int)(h:∀i,i<n→0<i→f (i-1)<f i):∀j i,i<j→j<n→f i<f j:=by
 intro j
 induction j with
 |zero=>intro i h1 _;omega
 |succ j ih =>
  intro i h1 h2;have h3:=h (j+1) h2 (by omega)
  rw[show j+1-1=j by omega]at h3
  by_cases hij:i=j
  ·subst hij;exact h3
  ·have:=ih i (by omega) (by omega);omega
def Lu(l:List Qr)(h:∀i (hi:i<l.length) (h0:0<i),(l[i-1]'(by omega)).Id<l[i].Id)(i j:Nat)(hi:i<l.length)(hj:j<l.length)(he:l[i].Id=l[j].Id):i=j:=by
 have hu:=mO (n:=l.length) (λi=>(gt l (i:Int)).Id) (λi h1 h2=>by
  show(gt l ((i-1:Nat):Int)).Id<(gt l (i:Int)).Id;rw[Q2 h1,Q2 (show i-1<l.length by omega)];exact h i h1 h2)
 by_cases h1:i<j
 ·have:=hu j i h1 hj
  simp only[Q2 hi,Q2 hj]at this;omega
 ·by_cases h2:j<i
  ·have:=hu i j h2 hi
   simp only[Q2 hi,Q2 hj]at this;omega
  ·omega
def U1(l:List Qr)(t:Int)(hl:l.length≤1048576):ZN l t=some (bif decide (t=0)||decide (C8 l t<0)then 0 else(gt l (C8 l t)).Id):=by
 have hr:=JG l (λx=>!decide (t=0)&&decide (x.Qo=t)) (λi=>(gt l (i:Int)).Id) (step:=ZG l t)
  (λi hi=>by
   simp only[ZG,QY hi,QR hi,Q2 hi,Q3 (show(i:Int)<9223372036854775807 by omega),Qc,QL]
   cases decide (t=0)<;>cases decide (l[i].Qo=t)<;>rfl)
  (by simp only[ZG,Q6 (Qg _),Qb])
 unfold ZN C8;rw[hr];cases decide (t=0)with
 |true =>
  have:l.findIdx? (λx=>!true&&decide (x.Qo=t))=none:=by rw[List.findIdx?_eq_none_iff];intro x _;rfl
  rw[this];rfl
 |false =>
  have e:(λx:Qr=>!false&&decide (x.Qo=t))=(λx:Qr=>decide (x.Qo=t)):=by funext x;simp
  rw[e];cases l.findIdx? (λx=>decide (x.Qo=t))with
  |none=>rfl
  |some i =>
   simp only[Qa,Zy,Bool.false_or,Qe (show ¬(i:Int)<0 by omega),Qb]
def Eu(l:List Qr)(t:Int):Bool:=!(decide (t=0)||decide (C8 l t<0))
def Ku(l:List Qr)(t:Int)(hl:l.length≤1048576):∃c,JA l t=some c∧decide (c<0)=!Eu l t:=by
 rw[La l t hl];unfold Eu;cases decide (t=0)with
 |true=>exact⟨-1,rfl,rfl⟩
 |false=>exact⟨C8 l t,rfl,by simp⟩
def lj(l:List Hand)(x:Hand)(hl:l.length≤1048576):∃r,Fc l x=some r∧Fq l x=some r∧r.1.length≤1048576:=by
 have hrm:rm (0+l.length) 40=true:=VT (by omega) (by omega)
 have hrm1:rm (l.length+1) 40=true:=VT (by omega) (by omega)
 unfold Fc Fq Ji;have tail:∀s:Int,∃r,((A4 s x).bind λr=>nd (rm (0+l.length) 40)<|nd (rm (l.length+1) 40)<|(Xu (l++[(⟨x.Qo,x.Qx,x.QA,x.At,r⟩:Hand)])).bind λr2=>(bif !r2 then nd (rm (0+l.length) 40)<|some (l,false)else some (l++[(⟨x.Qo,x.Qx,x.QA,x.At,r⟩:Hand)],true)))=some r ∧
   ((Z8 s x).bind λr=>(nd (rm (0+l.length) 40)<|some l).bind λr2=>nd (rm (r2.length+1) 40)<|(Jk (r2++[(⟨x.Qo,x.Qx,x.QA,x.At,r⟩:Hand)])).bind λr3=>(bif !r3 then(nd (rm (0+l.length) 40)<|some l).bind λr4=>some (r4,false)else some (r2++[(⟨x.Qo,x.Qx,x.QA,x.At,r⟩:Hand)],true)))=some r∧r.1.length≤1048576:=by
  intro s;obtain⟨c,c1,c2⟩:=Y7 s x;obtain⟨b,b1,b2,b3⟩:=RA (l++[(⟨x.Qo,x.Qx,x.QA,x.At,c⟩:Hand)]);simp only[c1,c2,Qa,hrm,hrm1,QL,b1,b2];cases b with
  |false=>exact⟨(l,false),rfl,rfl,hl⟩
  |true=>exact⟨_,rfl,rfl,by have:=(b3 rfl).1;show(l++_).length≤_;omega⟩
 by_cases h0:0<l.length
 ·simp only[show decide (0<ln l)=true from Qf (by rw[Vq];omega),Qc,show QV (ln l-1)=((l.length-1:Nat):Int)from by rw[Vq,Vt]<;>omega,QR (show l.length-1<l.length by omega),QL]
  exact tail _
 ·simp only[show decide (0<ln l)=false from Qe (by rw[Vq];omega),Qb]
  exact tail 0
def vL(l:List Qr)(t:Int)(hl:l.length≤1048576):∃r,Fi l t=some r∧Fv l t=some r∧r.1.length=l.length∧(Eu l t=false→r.2=false)∧(r.2=true→t≠0∧Jb l=some true∧∃(k:Nat) (hk:k<l.length),l[k].Qo=t∧r.1=l.set k ⟨l[k].Id,l[k].Size,0⟩):=by
 obtain⟨c,c1,c2,c3⟩:=SN l hl;have hrm:rm (0+l.length) 24=true:=VT (by omega) (by omega)
 unfold Fi Fv XX Eu;simp only[hrm,QL,c1,c2,U1 l t hl,La l t hl,Qa];cases c with
 |false=>exact⟨(l,false),rfl,rfl,rfl,λ_=>rfl,λh=>by cases h⟩
 |true =>
  obtain⟨s1,s2,s3⟩:=c3 rfl;cases ht:decide (t=0)with
  |true=>exact⟨(l,false),rfl,rfl,rfl,λ_=>rfl,λh=>by cases h⟩
  |false =>
   rcases Hf l t with⟨_,h2⟩|⟨k,hk,h2,h3,_⟩
   ·rw[h2];exact⟨(l,false),rfl,rfl,rfl,λ_=>rfl,λh=>by cases h⟩
   ·rw[h2]
    have hid:1≤l[k].Id:=s2 _ (List.getElem_mem hk);simp only[Bool.false_or,Qh,Qb,Qe (show ¬(k:Int)<0 by omega),Q2 hk,QR hk,QL,Qe (show ¬l[k].Id=0 by omega),Int.toNat_natCast]
    have hr:=Xe (step:=J1 l[k].Id) (λi=>(if i≤k then l else l.set k ⟨l[k].Id,l[k].Size,0⟩,(i:Int))) (r:=l.set k ⟨l[k].Id,l[k].Size,0⟩) l.length (λi hi=>by
      have hw:=Q3 (show(i:Int)<9223372036854775807 by omega)
      by_cases hik:i<k
      ·have hne:¬l[i].Id=l[k].Id:=λe=>by have:=Lu l s3 i k hi hk e;omega
       simp only[J1,if_pos (show i≤k by omega),if_pos (show i+1≤k by omega),QY hi,QR hi,Q2 hi,hw,Qe hne,Qc,Qb,QL]
      ·by_cases hek:i=k
       ·subst hek
        simp only[J1,if_pos (Qg i),if_neg (show ¬i+1≤i by omega),QY hi,QR hi,Q2 hi,hw,decide_true,Qc,QL,Int.toNat_natCast]
       ·have hne:¬l[i].Id=l[k].Id:=λe=>by have:=Lu l s3 i k hi hk e;omega
        have hi':i<(l.set k ⟨l[k].Id,l[k].Size,0⟩).length:=by rw[List.length_set];exact hi
        have hg:gt (l.set k ⟨l[k].Id,l[k].Size,0⟩) (i:Int)=l[i]:=by rw[cL l k _ i hi,if_neg hek,Q2 hi]
        simp only[J1,if_neg (show ¬i≤k by omega),if_neg (show ¬i+1≤k by omega),QY hi',QR hi',hg,hw,Qe hne,Qc,Qb,QL])
     (by
      simp only[J1,if_neg (show ¬l.length≤k by omega)]
      rw[show decide ((l.length:Int)<ln (l.set k ⟨l[k].Id,l[k].Size,0⟩))=false from Qe (by rw[Vq,List.length_set];omega)]
      rfl)
    simp only[show run (J1 l[k].Id) (l,0)=some (l.set k ⟨l[k].Id,l[k].Size,0⟩)from hr,Qa];exact⟨_,rfl,rfl,List.length_set,λh=>(by simp at h),λ_=>⟨of_decide_eq_false ht,trivial,k,hk,h3,rfl⟩⟩
def yk(l:List Qr)(t:Int)(hl:l.length≤1048576):∃r,Fi l t=some r∧Fv l t=some r∧r.1.length=l.length∧(Eu l t=false→r.2=false):=by
 obtain⟨r,r1,r2,r3,r4,_⟩:=vL l t hl;exact⟨r,r1,r2,r3,r4⟩
def ee(h:Ql)(t p w:Int)(hm:QS h):∃r,B4 h t p w=some r∧Cf h t p w=some r∧QS r.1∧(Eu h.Qs t=false→r.2=false)∧r.1.Book=h.Book∧r.1.Now=h.Now∧r.1.No=h.No:=by
 have hm7:=hm;obtain⟨m1,m2,m3,m4,m5,m6,m7⟩:=hm7;obtain⟨a,a1,a2,a3,a4⟩:=yk h.Qs t m3;obtain⟨b,b1,b2,b3⟩:=lj h.Qw ⟨t,p,w,h.Now,0⟩ m6;unfold B4 Cf;simp only[JQ h hm,Js h hm,a1,a2,b1,b2,Qa];have w1:QS ⟨h.No,h.Qt,h.Qn,a.1,h.Qv,h.Qq,b.1,h.Book,h.Now⟩:=smH hm m1 m2 (by omega) m4 m5 b3 m7
 cases ha:a.2 with
 |true=>exact⟨_,rfl,rfl,w1,(λhs=>by rw[a4 hs]at ha;cases ha),rfl,rfl,rfl⟩
 |false=>exact⟨_,rfl,rfl,w1,(λ_=>rfl),rfl,rfl,rfl⟩
def Zf(l:List Qu)(t:Int):Nat→Int
 |0=>-1
 |n+1=>if(gt l (n:Int)).Qo=t∧(gt l (n:Int)).State=1∧(Zf l t n<0∨(gt l (n:Int)).At<(gt l (Zf l t n)).At)then(n:Int)else Zf l t n
def N3(l:List Qu)(t:Int):∀n,Zf l t n=-1∨∃j:Nat,j<n∧Zf l t n=(j:Int)
 |0=>.inl rfl
 |n+1=>by
  unfold Zf
  split
  ·exact .inr ⟨n,by omega,rfl⟩
  ·rcases N3 l t n with h|⟨j,h1,h2⟩
   ·exact .inl h
   ·exact .inr ⟨j,by omega,h2⟩
def bN(l:List Qu)(t:Int):∀(n j:Nat),Zf l t n=(j:Int)→(gt l (j:Int)).Qo=t∧(gt l (j:Int)).State=1
 |0,j,h=>by unfold Zf at h;omega
 |n+1,j,h=>by
  unfold Zf at h
  split at h
  ·rename_i hc
   have:n=j:=by omega
   subst this;exact⟨hc.1,hc.2.1⟩
  ·exact bN l t n j h
def cZ(l:List Qu)(t:Int)(hl:l.length≤1048576):∃c,ZT l t=some c∧Z0 l t=some c∧(c=0∨∃k:Nat,∃hk:k<l.length,l[k].Id=c∧l[k].Qo=t∧l[k].State=1):=by
 have hcase:∀i:Nat,(Zf l t (i+1)=(i:Int)∧(gt l (i:Int)).Qo=t∧(gt l (i:Int)).State=1∧(Zf l t i=-1∨∃j:Nat,j<i∧Zf l t i=(j:Int)∧(gt l (i:Int)).At<(gt l (j:Int)).At)) ∨
   (Zf l t (i+1)=Zf l t i∧(¬(gt l (i:Int)).Qo=t∨¬(gt l (i:Int)).State=1∨∃j:Nat,j<i∧Zf l t i=(j:Int)∧¬(gt l (i:Int)).At<(gt l (j:Int)).At)):=by
  intro i;have e:Zf l t (i+1)=(if(gt l (i:Int)).Qo=t∧(gt l (i:Int)).State=1∧(Zf l t i<0∨(gt l (i:Int)).At<(gt l (Zf l t i)).At)then(i:Int)else Zf l t i):=rfl
  by_cases hc:(gt l (i:Int)).Qo=t∧(gt l (i:Int)).State=1∧(Zf l t i<0∨(gt l (i:Int)).At<(gt l (Zf l t i)).At)
  ·rw[if_pos hc]at e
   refine .inl ⟨e,hc.1,hc.2.1,?_⟩
   rcases N3 l t i with h|⟨j,hj,h⟩
   ·exact .inl h
   ·refine .inr ⟨j,hj,h,?_⟩
    rcases hc.2.2 with h'|h'
    ·omega
    ·rw[h]at h';exact h'
  ·rw[if_neg hc]at e
   refine .inr ⟨e,?_⟩;by_cases h1:(gt l (i:Int)).Qo=t
   ·by_cases h2:(gt l (i:Int)).State=1
    ·rcases N3 l t i with h|⟨j,hj,h⟩
     ·exact absurd ⟨h1,h2,.inl (by omega)⟩ hc
     ·refine .inr (.inr ⟨j,hj,h,λh'=>hc ⟨h1,h2,.inr (by rw[h];exact h')⟩⟩)
    ·exact .inr (.inl h2)
   ·exact .inl h1
 have hs:=Xe (step:=Xd l t) (λi=>(Zf l t i,(i:Int))) (r:=Zf l t l.length) l.length (λi hi=>by
   have hw:=Q3 (show(i:Int)<9223372036854775807 by omega)
   rcases hcase i with⟨e,h1,h2,h3|⟨j,hj,h3,h4⟩⟩|⟨e,h1|h2|⟨j,hj,h3,h4⟩⟩
   ·simp only[Xd,e,h3,h1,h2,QY hi,QR hi,hw,decide_true,Qc,QL];rfl
   ·simp only[Xd,e,h3,h1,h2,QY hi,QR hi,hw,decide_true,Qc,QL,QR (show j<l.length by omega),Qe (show ¬(j:Int)<0 by omega),Qb,Qf h4];rfl
   ·simp only[Xd,e,Qe h1,QY hi,QR hi,hw,Qc,Qb,QL];rfl
   ·cases decide ((gt l (i:Int)).Qo=t)<;>simp only[Xd,e,Qe h2,QY hi,QR hi,hw,Qc,Qb,QL]<;>cases decide ((gt l (i:Int)).Qo=t)<;>rfl
   ·simp only[Xd,e,h3,QY hi,QR hi,hw,Qc,Qb,QL,QR (show j<l.length by omega),Qe (show ¬(j:Int)<0 by omega),Qe h4]
    cases decide ((gt l (i:Int)).Qo=t)<;>cases decide ((gt l (i:Int)).State=1)<;>rfl)
  (by simp only[Xd,Q6 (Qg _),Qb])
 have hi:=Xe (step:=Xf t l (ln l)) (λi=>(bif decide (Zf l t i<0)then(⟨0,0,0,0,0⟩:Qu)else gt l (Zf l t i),decide (0≤Zf l t i),(i:Int))) (r:=bif decide (Zf l t l.length<0)then(⟨0,0,0,0,0⟩:Qu)else gt l (Zf l t l.length)) l.length (λi hi=>by
   have hw:=Q3 (show(i:Int)<9223372036854775807 by omega)
   have hn:decide ((i:Int)<0)=false:=Qe (by omega)
   have hn':decide (0≤(i:Int))=true:=Qf (by omega)
   rcases hcase i with⟨e,h1,h2,h3|⟨j,hj,h3,h4⟩⟩|⟨e,h1|h2|⟨j,hj,h3,h4⟩⟩
   ·simp only[Xf,e,h3,h1,h2,QY hi,QR hi,hw,decide_true,Qc,QL,hn,hn'];rfl
   ·simp only[Xf,e,h3,h1,h2,QY hi,QR hi,hw,decide_true,Qc,QL,hn,hn',Qe (show ¬(j:Int)<0 by omega),Qf (show 0≤(j:Int)by omega),Qb,Qf h4];rfl
   ·simp only[Xf,e,Qe h1,QY hi,QR hi,hw,Qc,Qb,QL];rfl
   ·simp only[Xf,e,Qe h2,QY hi,QR hi,hw,Qc,Qb,QL]
    cases decide ((gt l (i:Int)).Qo=t)<;>rfl
   ·simp only[Xf,e,h3,QY hi,QR hi,hw,Qc,Qb,QL,Qe (show ¬(j:Int)<0 by omega),Qf (show 0≤(j:Int)by omega),Qe h4]
    cases decide ((gt l (i:Int)).Qo=t)<;>cases decide ((gt l (i:Int)).State=1)<;>rfl)
  (by simp only[Xf,Q6 (Qg _),Qb])
 have hi':run (Xf t l (ln l)) ((⟨0,0,0,0,0⟩:Qu),false,0)=some (bif decide (Zf l t l.length<0)then(⟨0,0,0,0,0⟩:Qu)else gt l (Zf l t l.length)):=hi;unfold ZT Z0;rw[show run (Xd l t) ((-1),0)=some (Zf l t l.length)from hs,hi']
 rcases N3 l t l.length with h|⟨j,hj,h⟩
 ·rw[h];exact⟨0,rfl,rfl,.inl rfl⟩
 ·rw[h]
  simp only[Qa,Qe (show ¬(j:Int)<0 by omega),Qb,QR hj,Q2 hj,QL]
  have hc:=bN l t l.length j h;rw[Q2 hj]at hc;exact⟨_,rfl,rfl,.inr ⟨j,hj,rfl,hc⟩⟩
def TM(l:List Qu)(t:Int)(hl:l.length≤1048576):∃c,ZT l t=some c∧Z0 l t=some c∧(c=0∨∃k:Nat,∃hk:k<l.length,l[k].Id=c):=by
 obtain⟨c,h1,h2,h3⟩:=cZ l t hl;exact⟨c,h1,h2,h3.imp id λ⟨k,hk,h,_⟩=>⟨k,hk,h⟩⟩
def SH(l:List QB)(id:Int):XY l id=-1∨∃k:Nat,k<l.length∧XY l id=(k:Int):=by
 unfold XY;cases hf:l.findIdx? (λx=>decide (x.Qo.Id=id))with
 |none=>exact .inl rfl
 |some i =>
  obtain⟨hi,hp⟩:=CG hf;exact .inr ⟨i,hi,rfl⟩
def fb(f:QB):∃b,X0 f=some b∧(b=true→1≤f.Qo.Kind∧f.Qo.Kind≤8):=by
 unfold X0 JB QO;simp only[Qa];cases h1:(decide (1≤f.Qo.Id)&&decide (f.Qo.Id≤999))with
 |false=>exact⟨false,rfl,λh=>by cases h⟩
 |true =>
  cases h2:(decide (1≤f.Qo.Kind)&&decide (f.Qo.Kind≤8))with
  |false=>exact⟨false,rfl,λh=>by cases h⟩
  |true =>
   have hk:1≤f.Qo.Kind∧f.Qo.Kind≤8:=by simpa using h2
   simp only[Qc];cases (decide (0≤f.Qo.Colour)&&decide (f.Qo.Colour≤7))<;>cases (decide (1≤f.Qo.Size)&&decide (f.Qo.Size≤50))<;>cases (decide (0≤f.Qo.Worth)&&decide (f.Qo.Worth≤10000000)) <;>
    cases (decide (1≤f.Place)&&decide (f.Place≤30))<;>cases (decide (0≤f.At)&&decide (f.At≤100000))<;>cases (decide (0≤f.Qz)&&decide (f.Qz≤999))<;>exact⟨_,rfl,λ_=>hk⟩
def rT(k:Int)(h1:1≤k)(h2:k≤8):∃d,KF k=some d∧FN k=some d:=by
 have:k=1∨k=2∨k=3∨k=4∨k=5∨k=6∨k=7∨k=8:=by omega
 rcases this with rfl|rfl|rfl|rfl|rfl|rfl|rfl|rfl<;>exact⟨_,rfl,rfl⟩
def Qa5(f:QB)(now:Int):∃b,Bu f now=some b∧BD f now=some b:=by
 obtain⟨b,h1,h2⟩:=fb f;unfold Bu BD LU GK;rw[show AX f=X0 f from rfl,h1];cases b with
 |false=>exact⟨false,rfl,rfl⟩
 |true =>
  obtain⟨k1,k2⟩:=h2 rfl;obtain⟨d,h3,h4⟩:=rT f.Qo.Kind k1 k2;simp only[Qa,Qc,Qb,Qh,h3,h4];exact⟨_,rfl,rfl⟩
noncomputable def eo(f:QB)(now:Int):Bool:=(Bu f now).getD false
def tR(f:QB)(now:Int):Bu f now=some (eo f now)∧BD f now=some (eo f now):=by
 obtain⟨b,h1,h2⟩:=Qa5 f now;unfold eo;rw[h1,h2];exact⟨rfl,rfl⟩
def iX(f:QB)(l:List Qu)(now:Int)(hl:l.length≤1048576):∃c,Gu f l now=some c∧Do f l now=some c∧0≤c∧c≤5:=by
 obtain⟨p,p1,p2,_⟩:=TM l f.Qo.Id hl;obtain⟨d,d1,d2⟩:=Qa5 f now;have hs:=LH l (λx=>decide (x.Qo=f.Qo.Id)&&decide (x.State=0)) (r:=(0:Int)) (step:=GM l now f)
  (λi hi=>by
   simp only[GM,QY hi,QR hi,Q2 hi,Q3 (show(i:Int)<9223372036854775807 by omega),Qc,QL,Qa]
   cases (decide (l[i].Qo=f.Qo.Id)&&decide (l[i].State=0))<;>rfl)
  (by simp only[GM,Q6 (Qg _),Qb])
 have hi:=JG l (λx=>decide (x.Qo=f.Qo.Id)&&decide (x.State=0)) (λi=>(i:Int)) (step:=VD l f.Qo (ln l))
  (λi hi=>by
   simp only[VD,Hy,QY hi,QR hi,Q2 hi,Q3 (show(i:Int)<9223372036854775807 by omega),Qc,QL,Qa]
   cases (decide (l[i].Qo=f.Qo.Id)&&decide (l[i].State=0))<;>rfl)
  (by simp only[VD,Q6 (Qg _),Qb])
 have hc:VY l f.Qo=some (l.any (λx=>decide (x.Qo=f.Qo.Id)&&decide (x.State=0))):=by
  unfold VY XI;rw[hi];cases hf:l.findIdx? (λx=>decide (x.Qo=f.Qo.Id)&&decide (x.State=0))with
  |none =>
   have:l.any (λx=>decide (x.Qo=f.Qo.Id)&&decide (x.State=0))=false:=by
    rw[List.any_eq_false];intro x hx;have:=List.findIdx?_eq_none_iff.1 hf x hx;simpa using this
   rw[this];rfl
  |some i =>
   obtain⟨hi',hp⟩:=CG hf;rw[List.any_eq_true.2 ⟨_,List.getElem_mem hi',hp⟩];simp only[Qa,Zy,Qf (show(0:Int)≤(i:Int)by omega)]
 unfold Gu Do;rw[p1,p2,d1,d2,hs,hc];simp only[Qa];have hlt:decide (f.Qo.Worth≤5000)=!decide (5000<f.Qo.Worth):=by
  by_cases h:5000<f.Qo.Worth
  ·rw[Qf h,Qe (by omega)];rfl
  ·rw[Qe h,Qf (by omega)];rfl
 rw[hlt];generalize l.any (λx=>decide (x.Qo=f.Qo.Id)&&decide (x.State=0))=q
 cases decide (p=0)<;>cases q<;>cases d<;>cases (decide (f.Qo.Kind=7)||decide (f.Qo.Worth=0))<;>cases decide (5000<f.Qo.Worth)<;>cases decide (f.Qz=0)<;>exact⟨_,rfl,rfl,by decide,by decide⟩
def xH(h:Ql)(c:Int)(hl:h.Qq.length≤1048576):∃r,AW h c=some r∧E8 h c=some r:=by
 have hs:=JG h.Qq (λx=>decide (x.Qu=c)) (λi=>(h.Qq.getD i default,true)) (step:=J4 c h (⟨0,0,0,0⟩:Qp))
  (λi hi=>by
   simp only[J4,QY hi,QR hi,Q2 hi,Q3 (show(i:Int)<9223372036854775807 by omega),Qc,QL,List.getD_eq_getElem?_getD,List.getElem?_eq_getElem hi,Option.getD_some]
   cases decide (h.Qq[i].Qu=c)<;>rfl)
  (by simp only[J4,Q6 (Qg _),Qb])
 have hi:=JG h.Qq (λx=>decide (x.Qu=c)) (λi=>(i:Int)) (step:=VA h.Qq c (ln h.Qq))
  (λi hi=>by
   simp only[VA,GJ,Qa,QY hi,QR hi,Q2 hi,Q3 (show(i:Int)<9223372036854775807 by omega),Qc,QL]
   cases decide (h.Qq[i].Qu=c)<;>rfl)
  (by simp only[VA,Q6 (Qg _),Qb])
 unfold AW E8 Ir XC;rw[hs,hi];cases hf:h.Qq.findIdx? (λx=>decide (x.Qu=c))with
 |none=>exact⟨_,rfl,rfl⟩
 |some i =>
  obtain⟨hlt,_⟩:=CG hf;have hd:decide ((i:Int)<0)=false:=Qe (by omega)
  refine⟨(h.Qq[i],true),?_,?_⟩
  ·simp only[Qa,gz,List.getD_eq_getElem?_getD,List.getElem?_eq_getElem hlt,Option.getD_some]
  ·simp only[Qa,gz,hd,Qb,QR hlt,QL,Q2 hlt]
def uS(l:List Mark)(hl:l.length≤1048576)(h:J0 l=some true):∀x∈l,i64 x.Question:=by
 intro x hx;obtain⟨i,hi,rfl⟩:=List.getElem_of_mem hx;refine MR (n:=l.length) (P:=λi=>∀h:i<l.length,i64 l[i].Question) (λs:Int=>s) (λi s hi hs=>?_) (λi s hi hs hP s' e=>?_) (s0:=(0:Int)) rfl h i hi hi
 ·subst hs
  unfold Zn;rw[QY hi,Qc];exact Sp.bind λb=>Sp.cond Sp.ret (Sp.inl (Q3 (by omega)))
 ·subst hs
  refine hP λh'=>?_
  simp only[Zn,QY hi,QR hi,Q2 hi,Qc,QL,QO,Qa]at e;refine Classical.byContradiction λhn=>?_
  rw[Il (n:=l[i].Question) (a:=1) (b:=20) (by omega) (by omega) hn]at e
  revert e;simp
def df:i64 0:=by unfold i64;omega
def pA(l:List Mark)(c v:Int)(hl:l.length≤1048576){q:Int}(h:Z1 l c v=some q):i64 q:=by
 unfold Z1 at h;obtain⟨b,h1,h2⟩:=Option.bind_eq_some_iff.1 h;cases b with
 |true=>injection h2 with h2;subst h2;exact df
 |false =>
  have hm:J0 l=some true:=by
   cases hz:decide (ln l=0)with
   |true=>rw[hz]at h1;cases h1
   |false =>
    rw[hz,Qb]at h1;obtain⟨m,m1,m2⟩:=Option.bind_eq_some_iff.1 h1;cases m with
    |true=>exact m1
    |false=>cases m2
  simp only[Qb]at h2;obtain⟨r3,_,h2⟩:=Option.bind_eq_some_iff.1 h2;obtain⟨r4,_,h2⟩:=Option.bind_eq_some_iff.1 h2;generalize (QV (r4+v)).tmod (ln l)=j at h2;cases hn:(!decide (ln l=0))with
  |false=>rw[hn]at h2;cases h2
  |true =>
   rw[hn]at h2;simp only[QL]at h2;cases hi:Q0 l j with
   |false=>rw[hi]at h2;cases h2
   |true =>
    rw[hi]at h2;simp only[QL]at h2;injection h2 with h2
    subst h2;obtain⟨p1,p2⟩:=AA.1 hi;have:gt l j=l[j.toNat]'(by omega):=by unfold gt;rw[List.getD_eq_getElem?_getD,List.getElem?_eq_getElem (by omega)];rfl
    rw[this];exact uS l hl hm _ (List.getElem_mem _)
def Qkd(l:List Mark)(x:Qp)(hl:l.length≤1048576):∃q,XW l x=some q∧JP l x=some q∧i64 q:=by
 obtain⟨q,q1,q2⟩:=L8 l x hl;refine⟨q,q1,q2,?_⟩;unfold XW at q1;obtain⟨s,_,h⟩:=Option.bind_eq_some_iff.1 q1;cases hs:(!decide (s=0))with
 |true=>rw[hs]at h;injection h with h;subst h;exact df
 |false =>
  rw[hs,Qb]at h;obtain⟨r,r1,r2⟩:=Option.bind_eq_some_iff.1 h;injection r2 with r2
  subst r2;exact pA _ _ _ hl r1
def we(f:Int):∃s,Hs f=some s∧Ef f=some s∧(0≤f∧f≤5→s≠[]):=by
 unfold Hs Ef QO;by_cases h:0≤f∧f≤5
 ·rcases(by omega:f=0∨f=1∨f=2∨f=3∨f=4∨f=5)with rfl|rfl|rfl|rfl|rfl|rfl<;>exact⟨_,rfl,rfl,λ_=>by decide⟩
 ·have h1:(decide (0≤f)&&decide (f≤5))=false:=by
   rw[Bool.eq_false_iff];simpa using h
  have h2:(decide (f<0)||decide (6≤f))=true:=by
   simp only[Bool.or_eq_true,decide_eq_true_eq];omega
  rw[h1,h2];exact⟨_,rfl,rfl,λq=>absurd q h⟩
def oE(l:List QB)(now:Int)(hl:l.length≤1048576)(hx:∀x∈l,i64 x.Qo.Id):∃o,G4 l now=some o∧Df l now=some o∧o.length≤1048576∧∀x∈o,i64 x:=by
 have hS:=ES l (λf=>eo f now) (λf=>f.Qo.Id) (step:=EA l now) (λi o hi ho=>by
   simp only[EA,QY hi,QR hi,Q2 hi,Q3 (show(i:Int)<9223372036854775807 by omega),VT (show o.length+1≤2000000 by omega) (show 8≤1024 by omega),Qc,QL,(tR _ _).1,Qa]
   cases eo l[i] now<;>rfl)
  (λo=>by simp only[EA,Q6 (Qg _),Qb])
 have hI:=ES l (λf=>eo f now) (λf=>f.Qo.Id) (step:=As now l (ln l)) (λi o hi ho=>by
   simp only[As,QY hi,QR hi,Q2 hi,Q3 (show(i:Int)<9223372036854775807 by omega),VT (show o.length+1≤2000000 by omega) (show 8≤1024 by omega),Qc,QL,(tR _ _).2,Qa]
   cases eo l[i] now<;>rfl)
  (λo=>by simp only[As,Q6 (Qg _),Qb])
 refine⟨(l.filter λf=>eo f now).map λf=>f.Qo.Id,?_,?_,?_,?_⟩
 ·unfold G4;rw[hS];rfl
 ·unfold Df;rw[hI];rfl
 ·rw[List.length_map];exact Nat.le_trans (List.length_filter_le _ _) hl
 ·intro x hm
  obtain⟨f,hf,rfl⟩:=List.mem_map.1 hm;exact hx f (List.mem_filter.1 hf).1
def iw:List UInt8:=[97,115,107]
def Ya:List UInt8:=[115,116,111,114,121]
def Y0:List UInt8:=[102,97,116,101]
def MW:List UInt8:=[98,97,108,97,110,99,101]
def zn:List UInt8:=[100,117,101]
def dm:List UInt8:=[115,108,111,116,115]
def UF:List UInt8:=[99,108,97,105,109,115]
def dU:List UInt8:=[104,111,117,115,101]
def dV:List UInt8:=[97,117,100,105,116]
def Qiv{α:Type}[Inhabited α]{l:List α}{j:Int}(h:Q0 l j=true):∃hj:j.toNat<l.length,gt l j=l[j.toNat]:=by
 obtain⟨p1,p2⟩:=AA.1 h;refine⟨by omega,?_⟩
 unfold gt;rw[List.getD_eq_getElem?_getD,List.getElem?_eq_getElem (by omega)]
 rfl
def qj(a:Ql)(w:List UInt8)(hm:QS a)(hk:Lk a)(hw:w∈[zn,dm,UF,dU,dV]):∃s,AT a w=some s∧Dc a w []=some s∧s≠[]:=by
 have hm':=hm;obtain⟨m1,m2,m3,m4,m5,m6,m7⟩:=hm';simp only[List.mem_cons,List.not_mem_nil,or_false]at hw
 rcases hw with rfl|rfl|rfl|rfl|rfl
 ·obtain⟨o,o1,o2,o3,o4⟩:=oE a.Qt a.Now m1 hk.finds
  obtain⟨s1,s2⟩:=IT o o3 o4;refine⟨_,?_,?_,Yp o⟩
  ·show(G4 a.Qt a.Now).bind _=_
   rw[o1,Qa,s1];rfl
  ·show(Df a.Qt a.Now).bind _=_
   rw[o2,Qa,s2];rfl
 ·obtain⟨s,s1,s2,s3⟩:=fo a.Qs m3 hk.slots
  refine⟨s,?_,?_,s3⟩
  ·show(Fx a.Qs).bind _=_
   rw[s1];rfl
  ·show(Bj a.Qs).bind _=_
   rw[s2];rfl
 ·obtain⟨s,s1,s2,s3⟩:=cE a.Qv m4 hk.claims
  refine⟨s,?_,?_,s3⟩
  ·show(EC a.Qv).bind _=_
   rw[s1];rfl
  ·show(Az a.Qv).bind _=_
   rw[s2];rfl
 ·obtain⟨s,s1,s2,s3⟩:=gK a hk.no hk.now m1 m4 m6 m7
  refine⟨s,?_,?_,s3⟩
  ·show(Fn a).bind _=_
   rw[s1];rfl
  ·show(Bk a).bind _=_
   rw[s2];rfl
 ·obtain⟨c,c1,c2⟩:=yS a hm
  refine⟨bif !decide (c=[])then c else[111,107],?_,?_,by
   cases h:decide (c=[])with
   |true=>exact List.cons_ne_nil _ _
   |false=>exact of_decide_eq_false h⟩
  ·show(Ii a).bind _=_
   rw[c1,Qa];cases decide (c=[])<;>rfl
  ·show(Fe a).bind _=_
   rw[c2,Qa];cases decide (c=[])<;>rfl
def Bd(a:Ql):Prop:=∀n v,Ac a.Book n=some v→-1000000000≤v∧v≤1000000000
def yI(a:Ql)(w:List UInt8)(n:Int)(hm:QS a)(hk:Lk a)(hw:w∈[iw,Ya,Y0,MW]):∃s,A8 a w n=some s∧Dc a w [n]=some s∧(Bd a→s≠[]):=by
 have hm':=hm;obtain⟨m1,m2,m3,m4,m5,m6,m7⟩:=hm';simp only[List.mem_cons,List.not_mem_nil,or_false]at hw
 rcases hw with rfl|rfl|rfl|rfl
 ·obtain⟨t,t1,t2⟩:=xH a n m5
  obtain⟨c1,c2⟩:=Ed a.Qv n m4;have e1:A8 a iw n=(AW a n).bind λr=>(JV a.Qv n).bind λr2=>(bif (!r.2)||(decide (r2<0))then some [110,111]else nd (Q0 a.Qv r2)<|(AP a.Qn (gt a.Qv r2).Qo).bind λr3=>(XW r3 r.1).bind λr4=>(Q4 r4).bind λr5=>some r5):=rfl
  have e2:Dc a iw [n]=(E8 a n).bind λr=>(X8 a.Qv n).bind λr2=>(bif (!r.2)||(decide (r2<0))then some [110,111]else nd (Q0 a.Qv r2)<|(B6 a.Qn (gt a.Qv r2).Qo).bind λr3=>(JP r3 r.1).bind λr4=>(Vf r4).bind λr5=>some r5):=rfl
  rw[e1,e2,t1,t2];simp only[Qa,c1,c2]
  rcases Ho a.Qv n with h|⟨k,hk',h,_⟩
  ·rw[h]
   cases t.2<;>exact⟨_,rfl,rfl,λ_=>by decide⟩
  ·rw[h]
   obtain⟨m,g1,g2,g3⟩:=PT a.Qn (gt a.Qv (k:Int)).Qo m2.1 m2.2;obtain⟨q,q1,q2,q3⟩:=Qkd m t.1 g3;simp only[QR hk',QL,g1,g2,q1,q2,Zz q q3,AO q q3,Qa,show decide ((k:Int)<0)=false from Qe (by omega),Bool.or_false]
   cases t.2
   ·exact⟨_,rfl,rfl,λ_=>by decide⟩
   ·exact⟨_,rfl,rfl,λ_=>NU q⟩
 ·obtain⟨s,s1,s2,s3⟩:=yw a.Qw n m6 hk.chain
  refine⟨s,?_,?_,λ_=>s3⟩
  ·show(Ij a.Qw n).bind _=_
   rw[s1];rfl
  ·show(Ff a.Qw n).bind _=_
   rw[s2];rfl
 ·obtain⟨c1,c2⟩:=Jm a.Qt n m1
  have e1:A8 a Y0 n=(Xv a.Qt n).bind λr7=>(bif decide (r7<0)then some [110,111]else nd (Q0 a.Qt r7)<|(Gu (gt a.Qt r7) a.Qv a.Now).bind λr8=>(Hs r8).bind λr9=>some r9):=rfl
  have e2:Dc a Y0 [n]=(XS a.Qt n).bind λr7=>(bif decide (r7<0)then some [110,111]else nd (Q0 a.Qt r7)<|(Do (gt a.Qt r7) a.Qv a.Now).bind λr8=>(Ef r8).bind λr9=>some r9):=rfl
  rw[e1,e2,c1,c2];simp only[Qa];by_cases h:XY a.Qt n<0
  ·rw[Qf h];exact⟨_,rfl,rfl,λ_=>by decide⟩
  ·obtain⟨k,hk1,hk2⟩:=KN h
   obtain⟨v,v1,v2,v3⟩:=iX (gt a.Qt (XY a.Qt n)) a.Qv a.Now m4;obtain⟨s,s1,s2,s3⟩:=we v;rw[Qe h,show Q0 a.Qt (XY a.Qt n)=true by rw[hk1];exact QR hk2]
   simp only[Qb,QL,v1,v2,s1,s2,Qa];exact⟨_,rfl,rfl,λ_=>s3 v3⟩
 ·obtain⟨v,v1,v2⟩:=MS a.Book n m7
  obtain⟨s,s1,s2,s3⟩:=fD v;refine⟨s,?_,?_,λhb=>s3 (hb n v v1)⟩
  ·show(Ac a.Book n).bind _=_
   rw[v1,Qa,s1];rfl
  ·show(JD a.Book n).bind _=_
   rw[v2,Qa,s2];rfl
def mr{n:Nat}(p:Nat→Bool){step:Int→Option (Int⊕Int)}(h1:∀i,i<n→step (i:Int)=some (bif p i then .inl ((i+1:Nat):Int)else .inr (i:Int)))(h2:step (n:Int)=some (.inr (n:Int))):∃k:Nat,k≤n∧run step 0=some (k:Int):=by
 have key:∀(m i:Nat),i+m=n→∃k:Nat,k≤n∧run step (i:Int)=some (k:Int):=by
  intro m
  induction m with
  |zero =>
   intro i hi;have:i=n:=by omega
   subst this;exact⟨i,Qg _,by rw[QZ,h2];rfl⟩
  |succ m ih =>
   intro i hi;cases hp:p i with
   |false=>exact⟨i,by omega,by rw[QZ,h1 i (by omega),hp];rfl⟩
   |true =>
    obtain⟨k,k1,k2⟩:=ih (i+1) (by omega)
    exact⟨k,k1,by rw[QZ,h1 i (by omega),hp];exact k2⟩
 exact key n 0 (by omega)
def IV{α:Type}(l:List α)(k:Nat):cut l (k:Int) (ln l)=l.drop k:=by
 unfold cut ln;simp
def RT{k n:Nat}(h:k≤n):Cy (k:Int) (n:Int) (n:Int)=true:=by unfold Cy;simp;omega
def Rn{α:Type}(l:List α)(k:Nat)(x:α):(cut l 0 (k:Int)++[x])++cut l (k:Int) (ln l)=V5 l (k:Int) [x]:=by
 rw[ZE,IV];simp[V5]
def Kb{α:Type}(l:List α)(k:Nat)(hk:k≤l.length)(x:α):(V5 l (k:Int) [x]).length=l.length+1:=by
 simp[V5];omega
def UZ{α:Type}(l:List α)(k:Nat)(hk:k≤l.length)(x:α)(b:Nat)(hl:l.length≤1048576)(hb:b≤1024):HL l (k:Int) [x] b=true:=by
 unfold HL;have:(l.length+1)*b≤1048577*1024:=Nat.mul_le_mul (by omega) hb
 simp;omega
def iC{α:Type}(l:List α)(k:Nat)(hk:k≤l.length)(x:α):(V5 l (k:Int) [x])[k]?=some x:=by
 simp[V5,List.getElem?_append,Nat.min_eq_left hk]
def ki{α:Type}(l:List α)(k:Nat)(hk:k≤l.length)(x:α)(j:Nat)(hj:j<l.length):(V5 l (k:Int) [x])[if j<k then j else j+1]?=some l[j]:=by
 by_cases h:j<k
 ·rw[if_pos h];simp[V5,List.getElem?_append,Nat.min_eq_left hk,h]
 ·rw[if_neg h]
  simp only[V5,Int.toNat_natCast,List.singleton_append];rw[List.getElem?_append_right (by simp;omega)]
  simp only[List.length_take,Nat.min_eq_left hk];rw[show j+1-k=(j-k)+1 by omega,List.getElem?_cons_succ,List.getElem?_drop,show k+(j-k)=j by omega,List.getElem?_eq_getElem hj]
def dF{α:Type}[Inhabited α](key:α→Int)(l:List α)(k:Nat)(hk:k≤l.length)(x:α)(up:∀i (hi:i<(V5 l (k:Int) [x]).length) (h0:0<i),key ((V5 l (k:Int) [x])[i-1]'(by omega))<key (V5 l (k:Int) [x])[i])(j:Nat)(hj:j<l.length)(he:key l[j]=key x):False:=by
 have hlen:=Kb l k hk x;have hu:=mO (n:=(V5 l (k:Int) [x]).length) (λi=>key (gt (V5 l (k:Int) [x]) (i:Int))) (λi h1 h2=>by
  show key (gt (V5 l (k:Int) [x]) ((i-1:Nat):Int))<key (gt (V5 l (k:Int) [x]) (i:Int));rw[Q2 h1,Q2 (show i-1<(V5 l (k:Int) [x]).length by omega)];exact up i h1 h2)
 have g1:gt (V5 l (k:Int) [x]) (k:Int)=x:=by
  have hlt:k<(V5 l (k:Int) [x]).length:=by omega
  rw[Q2 hlt];have:=iC l k hk x;rw[List.getElem?_eq_getElem hlt]at this;exact Option.some.inj this
 have hidx:(if j<k then j else j+1)<(V5 l (k:Int) [x]).length:=by split<;>omega
 have g2:gt (V5 l (k:Int) [x]) ((if j<k then j else j+1:Nat):Int)=l[j]:=by
  rw[Q2 hidx];have:=ki l k hk x j hj;rw[List.getElem?_eq_getElem hidx]at this;exact Option.some.inj this
 by_cases h:j<k
 ·have:=hu k (if j<k then j else j+1) (by rw[if_pos h];exact h) (by omega)
  simp only[g1,g2]at this;omega
 ·have:=hu (if j<k then j else j+1) k (by rw[if_neg h];omega) hidx
  simp only[g1,g2]at this;omega
end Go.Proofs.YtfhnbabcbhgffaaGreatDoor
