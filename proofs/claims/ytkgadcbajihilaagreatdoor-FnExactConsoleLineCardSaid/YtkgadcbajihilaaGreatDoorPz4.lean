import Derived.Test.YtkgadcbajihilaaGreatDoorPz3
set_option linter.unusedVariables false
set_option linter.unusedSimpArgs false
set_option linter.defProp false
namespace Go.Proofs.YtkgadcbajihilaaGreatDoor
open Go
def zA(l:List Qr)(t:Int)(hl:l.length≤1048576):∃r,FN l t=some r∧F3 l t=some r∧r.1.length=l.length∧(E3 l t=false→r.2=false)∧(r.2=true→t≠0∧Z9 l=some true∧∃(k:Nat) (hk:k<l.length),l[k].Qo=t∧r.1=l.set k ⟨l[k].Id,l[k].Size,0⟩):=by
 obtain⟨c,c1,c2,c3⟩:=UQ l hl;have hrm:rm (0+l.length) 24=true:=VU (by omega) (by omega)
 unfold FN F3 XF E3;simp only[hrm,QL,c1,c2,Y1 l t hl,LW l t hl,Qa];cases c with
 |false=>exact⟨(l,false),rfl,rfl,rfl,λ_=>rfl,λh=>by cases h⟩
 |true =>
  obtain⟨s1,s2,s3⟩:=c3 rfl;cases ht:decide (t=0)with
  |true=>exact⟨(l,false),rfl,rfl,rfl,λ_=>rfl,λh=>by cases h⟩
  |false =>
   rcases Io l t with⟨_,h2⟩|⟨k,hk,h2,h3,_⟩
   ·rw[h2];exact⟨(l,false),rfl,rfl,rfl,λ_=>rfl,λh=>by cases h⟩
   ·rw[h2]
    have hid:1≤l[k].Id:=s2 _ (List.getElem_mem hk);simp only[Bool.false_or,Qh,Qb,Qe (show ¬(k:Int)<0 by omega),Q3 hk,QP hk,QL,Qe (show ¬l[k].Id=0 by omega),Int.toNat_natCast]
    have hr:=J2 (step:=JB l[k].Id) (λi=>(if i≤k then l else l.set k ⟨l[k].Id,l[k].Size,0⟩,(i:Int))) (r:=l.set k ⟨l[k].Id,l[k].Size,0⟩) l.length (λi hi=>by
      have hw:=Vg (show(i:Int)<9223372036854775807 by omega)
      by_cases hik:i<k
      ·have hne:¬l[i].Id=l[k].Id:=λe=>by have:=Mo l s3 i k hi hk e;omega
       simp only[JB,if_pos (show i≤k by omega),if_pos (show i+1≤k by omega),Q0 hi,QP hi,Q3 hi,hw,Qe hne,Qc,Qb,QL]
      ·by_cases hek:i=k
       ·subst hek
        simp only[JB,if_pos (Qg i),if_neg (show ¬i+1≤i by omega),Q0 hi,QP hi,Q3 hi,hw,decide_true,Qc,QL,Int.toNat_natCast]
       ·have hne:¬l[i].Id=l[k].Id:=λe=>by have:=Mo l s3 i k hi hk e;omega
        have hi':i<(l.set k ⟨l[k].Id,l[k].Size,0⟩).length:=by rw[List.length_set];exact hi
        have hg:gt (l.set k ⟨l[k].Id,l[k].Size,0⟩) (i:Int)=l[i]:=by rw[iN l k _ i hi,if_neg hek,Q3 hi]
        simp only[JB,if_neg (show ¬i≤k by omega),if_neg (show ¬i+1≤k by omega),Q0 hi',QP hi',hg,hw,Qe hne,Qc,Qb,QL])
     (by
      simp only[JB,if_neg (show ¬l.length≤k by omega)]
      rw[show decide ((l.length:Int)<ln (l.set k ⟨l[k].Id,l[k].Size,0⟩))=false from Qe (by rw[Vp,List.length_set];omega)]
      rfl)
    simp only[show run (JB l[k].Id) (l,0)=some (l.set k ⟨l[k].Id,l[k].Size,0⟩)from hr,Qa];exact⟨_,rfl,rfl,List.length_set,λh=>(by simp at h),λ_=>⟨of_decide_eq_false ht,trivial,k,hk,h3,rfl⟩⟩
def QbK(l:List Qr)(t:Int)(hl:l.length≤1048576):∃r,FN l t=some r∧F3 l t=some r∧r.1.length=l.length∧(E3 l t=false→r.2=false):=by
 obtain⟨r,r1,r2,r3,r4,_⟩:=zA l t hl;exact⟨r,r1,r2,r3,r4⟩
def iZ(h:Ql)(t p w:Int)(hm:QX h):∃r,CQ h t p w=some r∧CN h t p w=some r∧QX r.1∧(E3 h.Qs t=false→r.2=false)∧r.1.Book=h.Book∧r.1.Now=h.Now∧r.1.No=h.No:=by
 have hm7:=hm;obtain⟨m1,m2,m3,m4,m5,m6,m7⟩:=hm7;obtain⟨a,a1,a2,a3,a4⟩:=QbK h.Qs t m3;obtain⟨b,b1,b2,b3⟩:=oB h.Qw ⟨t,p,w,h.Now,0⟩ m6;unfold CQ CN;simp only[Jx h hm,X3 h hm,a1,a2,b1,b2,Qa];have w1:QX ⟨h.No,h.Qt,h.Qn,a.1,h.Qv,h.Qq,b.1,h.Book,h.Now⟩:=smH hm m1 m2 (by omega) m4 m5 b3 m7
 cases ha:a.2 with
 |true=>exact⟨_,rfl,rfl,w1,(λhs=>by rw[a4 hs]at ha;cases ha),rfl,rfl,rfl⟩
 |false=>exact⟨_,rfl,rfl,w1,(λ_=>rfl),rfl,rfl,rfl⟩
def JJ(l:List Qu)(t:Int):Nat→Int
 |0=>-1
 |n+1=>if(gt l (n:Int)).Qo=t∧(gt l (n:Int)).State=1∧(JJ l t n<0∨(gt l (n:Int)).At<(gt l (JJ l t n)).At)then(n:Int)else JJ l t n
def Ow(l:List Qu)(t:Int):∀n,JJ l t n=-1∨∃j:Nat,j<n∧JJ l t n=(j:Int)
 |0=>.inl rfl
 |n+1=>by
  unfold JJ
  split
  ·exact .inr ⟨n,by omega,rfl⟩
  ·rcases Ow l t n with h|⟨j,h1,h2⟩
   ·exact .inl h
   ·exact .inr ⟨j,by omega,h2⟩
def eG(l:List Qu)(t:Int):∀(n j:Nat),JJ l t n=(j:Int)→(gt l (j:Int)).Qo=t∧(gt l (j:Int)).State=1
 |0,j,h=>by unfold JJ at h;omega
 |n+1,j,h=>by
  unfold JJ at h
  split at h
  ·rename_i hc
   have:n=j:=by omega
   subst this;exact⟨hc.1,hc.2.1⟩
  ·exact eG l t n j h
def ic(l:List Qu)(t:Int)(hl:l.length≤1048576):∃c,ZT l t=some c∧ZV l t=some c∧(c=0∨∃k:Nat,∃hk:k<l.length,l[k].Id=c∧l[k].Qo=t∧l[k].State=1):=by
 have hcase:∀i:Nat,(JJ l t (i+1)=(i:Int)∧(gt l (i:Int)).Qo=t∧(gt l (i:Int)).State=1∧(JJ l t i=-1∨∃j:Nat,j<i∧JJ l t i=(j:Int)∧(gt l (i:Int)).At<(gt l (j:Int)).At)) ∨
   (JJ l t (i+1)=JJ l t i∧(¬(gt l (i:Int)).Qo=t∨¬(gt l (i:Int)).State=1∨∃j:Nat,j<i∧JJ l t i=(j:Int)∧¬(gt l (i:Int)).At<(gt l (j:Int)).At)):=by
  intro i;have e:JJ l t (i+1)=(if(gt l (i:Int)).Qo=t∧(gt l (i:Int)).State=1∧(JJ l t i<0∨(gt l (i:Int)).At<(gt l (JJ l t i)).At)then(i:Int)else JJ l t i):=rfl
  by_cases hc:(gt l (i:Int)).Qo=t∧(gt l (i:Int)).State=1∧(JJ l t i<0∨(gt l (i:Int)).At<(gt l (JJ l t i)).At)
  ·rw[if_pos hc]at e
   refine .inl ⟨e,hc.1,hc.2.1,?_⟩
   rcases Ow l t i with h|⟨j,hj,h⟩
   ·exact .inl h
   ·refine .inr ⟨j,hj,h,?_⟩
    rcases hc.2.2 with h'|h'
    ·omega
    ·rw[h]at h';exact h'
  ·rw[if_neg hc]at e
   refine .inr ⟨e,?_⟩;by_cases h1:(gt l (i:Int)).Qo=t
   ·by_cases h2:(gt l (i:Int)).State=1
    ·rcases Ow l t i with h|⟨j,hj,h⟩
     ·exact absurd ⟨h1,h2,.inl (by omega)⟩ hc
     ·refine .inr (.inr ⟨j,hj,h,λh'=>hc ⟨h1,h2,.inr (by rw[h];exact h')⟩⟩)
    ·exact .inr (.inl h2)
   ·exact .inl h1
 have hs:=J2 (step:=V6 l t) (λi=>(JJ l t i,(i:Int))) (r:=JJ l t l.length) l.length (λi hi=>by
   have hw:=Vg (show(i:Int)<9223372036854775807 by omega)
   rcases hcase i with⟨e,h1,h2,h3|⟨j,hj,h3,h4⟩⟩|⟨e,h1|h2|⟨j,hj,h3,h4⟩⟩
   ·simp only[V6,e,h3,h1,h2,Q0 hi,QP hi,hw,decide_true,Qc,QL];rfl
   ·simp only[V6,e,h3,h1,h2,Q0 hi,QP hi,hw,decide_true,Qc,QL,QP (show j<l.length by omega),Qe (show ¬(j:Int)<0 by omega),Qb,Qf h4];rfl
   ·simp only[V6,e,Qe h1,Q0 hi,QP hi,hw,Qc,Qb,QL];rfl
   ·cases decide ((gt l (i:Int)).Qo=t)<;>simp only[V6,e,Qe h2,Q0 hi,QP hi,hw,Qc,Qb,QL]<;>cases decide ((gt l (i:Int)).Qo=t)<;>rfl
   ·simp only[V6,e,h3,Q0 hi,QP hi,hw,Qc,Qb,QL,QP (show j<l.length by omega),Qe (show ¬(j:Int)<0 by omega),Qe h4]
    cases decide ((gt l (i:Int)).Qo=t)<;>cases decide ((gt l (i:Int)).State=1)<;>rfl)
  (by simp only[V6,Q6 (Qg _),Qb])
 have hi:=J2 (step:=V7 t l (ln l)) (λi=>(bif decide (JJ l t i<0)then(⟨0,0,0,0,0⟩:Qu)else gt l (JJ l t i),decide (0≤JJ l t i),(i:Int))) (r:=bif decide (JJ l t l.length<0)then(⟨0,0,0,0,0⟩:Qu)else gt l (JJ l t l.length)) l.length (λi hi=>by
   have hw:=Vg (show(i:Int)<9223372036854775807 by omega)
   have hn:decide ((i:Int)<0)=false:=Qe (by omega)
   have hn':decide (0≤(i:Int))=true:=Qf (by omega)
   rcases hcase i with⟨e,h1,h2,h3|⟨j,hj,h3,h4⟩⟩|⟨e,h1|h2|⟨j,hj,h3,h4⟩⟩
   ·simp only[V7,e,h3,h1,h2,Q0 hi,QP hi,hw,decide_true,Qc,QL,hn,hn'];rfl
   ·simp only[V7,e,h3,h1,h2,Q0 hi,QP hi,hw,decide_true,Qc,QL,hn,hn',Qe (show ¬(j:Int)<0 by omega),Qf (show 0≤(j:Int)by omega),Qb,Qf h4];rfl
   ·simp only[V7,e,Qe h1,Q0 hi,QP hi,hw,Qc,Qb,QL];rfl
   ·simp only[V7,e,Qe h2,Q0 hi,QP hi,hw,Qc,Qb,QL]
    cases decide ((gt l (i:Int)).Qo=t)<;>rfl
   ·simp only[V7,e,h3,Q0 hi,QP hi,hw,Qc,Qb,QL,Qe (show ¬(j:Int)<0 by omega),Qf (show 0≤(j:Int)by omega),Qe h4]
    cases decide ((gt l (i:Int)).Qo=t)<;>cases decide ((gt l (i:Int)).State=1)<;>rfl)
  (by simp only[V7,Q6 (Qg _),Qb])
 have hi':run (V7 t l (ln l)) ((⟨0,0,0,0,0⟩:Qu),false,0)=some (bif decide (JJ l t l.length<0)then(⟨0,0,0,0,0⟩:Qu)else gt l (JJ l t l.length)):=hi;unfold ZT ZV;rw[show run (V6 l t) ((-1),0)=some (JJ l t l.length)from hs,hi']
 rcases Ow l t l.length with h|⟨j,hj,h⟩
 ·rw[h];exact⟨0,rfl,rfl,.inl rfl⟩
 ·rw[h]
  simp only[Qa,Qe (show ¬(j:Int)<0 by omega),Qb,QP hj,Q3 hj,QL]
  have hc:=eG l t l.length j h;rw[Q3 hj]at hc;exact⟨_,rfl,rfl,.inr ⟨j,hj,rfl,hc⟩⟩
def Wy(l:List Qu)(t:Int)(hl:l.length≤1048576):∃c,ZT l t=some c∧ZV l t=some c∧(c=0∨∃k:Nat,∃hk:k<l.length,l[k].Id=c):=by
 obtain⟨c,h1,h2,h3⟩:=ic l t hl;exact⟨c,h1,h2,h3.imp id λ⟨k,hk,h,_⟩=>⟨k,hk,h⟩⟩
def U2(l:List QB)(id:Int):XG l id=-1∨∃k:Nat,k<l.length∧XG l id=(k:Int):=by
 unfold XG;cases hf:l.findIdx? (λx=>decide (x.Qo.Id=id))with
 |none=>exact .inl rfl
 |some i =>
  obtain⟨hi,hp⟩:=C6 hf;exact .inr ⟨i,hi,rfl⟩
def lB(f:QB):∃b,XN f=some b∧(b=true→1≤f.Qo.Kind∧f.Qo.Kind≤8):=by
 unfold XN Js QR;simp only[Qa];cases h1:(decide (1≤f.Qo.Id)&&decide (f.Qo.Id≤999))with
 |false=>exact⟨false,rfl,λh=>by cases h⟩
 |true =>
  cases h2:(decide (1≤f.Qo.Kind)&&decide (f.Qo.Kind≤8))with
  |false=>exact⟨false,rfl,λh=>by cases h⟩
  |true =>
   have hk:1≤f.Qo.Kind∧f.Qo.Kind≤8:=by simpa using h2
   simp only[Qc];cases (decide (0≤f.Qo.Colour)&&decide (f.Qo.Colour≤7))<;>cases (decide (1≤f.Qo.Size)&&decide (f.Qo.Size≤50))<;>cases (decide (0≤f.Qo.Worth)&&decide (f.Qo.Worth≤10000000)) <;>
    cases (decide (1≤f.Place)&&decide (f.Place≤30))<;>cases (decide (0≤f.At)&&decide (f.At≤100000))<;>cases (decide (0≤f.Qz)&&decide (f.Qz≤999))<;>exact⟨_,rfl,λ_=>hk⟩
def xk(k:Int)(h1:1≤k)(h2:k≤8):∃d,GF k=some d∧Gt k=some d:=by
 have:k=1∨k=2∨k=3∨k=4∨k=5∨k=6∨k=7∨k=8:=by omega
 rcases this with rfl|rfl|rfl|rfl|rfl|rfl|rfl|rfl<;>exact⟨_,rfl,rfl⟩
def QgV(f:QB)(now:Int):∃b,ZQ f now=some b∧BT f now=some b:=by
 obtain⟨b,h1,h2⟩:=lB f;unfold ZQ BT HK Hj;rw[show Bl f=XN f from rfl,h1];cases b with
 |false=>exact⟨false,rfl,rfl⟩
 |true =>
  obtain⟨k1,k2⟩:=h2 rfl;obtain⟨d,h3,h4⟩:=xk f.Qo.Kind k1 k2;simp only[Qa,Qc,Qb,Qh,h3,h4];exact⟨_,rfl,rfl⟩
noncomputable def lf(f:QB)(now:Int):Bool:=(ZQ f now).getD false
def wC(f:QB)(now:Int):ZQ f now=some (lf f now)∧BT f now=some (lf f now):=by
 obtain⟨b,h1,h2⟩:=QgV f now;unfold lf;rw[h1,h2];exact⟨rfl,rfl⟩
def nq(f:QB)(l:List Qu)(now:Int)(hl:l.length≤1048576):∃c,DR f l now=some c∧DQ f l now=some c:=by
 obtain⟨p,p1,p2,_⟩:=Wy l f.Qo.Id hl;obtain⟨d,d1,d2⟩:=QgV f now;have hs:=MB l (λx=>decide (x.Qo=f.Qo.Id)&&decide (x.State=0)) (r:=(0:Int)) (step:=Da l now f)
  (λi hi=>by
   simp only[Da,Q0 hi,QP hi,Q3 hi,Vg (show(i:Int)<9223372036854775807 by omega),Qc,QL,Qa]
   cases (decide (l[i].Qo=f.Qo.Id)&&decide (l[i].State=0))<;>rfl)
  (by simp only[Da,Q6 (Qg _),Qb])
 have hi:=Jo l (λx=>decide (x.Qo=f.Qo.Id)&&decide (x.State=0)) (λi=>(i:Int)) (step:=VB l f.Qo (ln l))
  (λi hi=>by
   simp only[VB,Iv,Q0 hi,QP hi,Q3 hi,Vg (show(i:Int)<9223372036854775807 by omega),Qc,QL,Qa]
   cases (decide (l[i].Qo=f.Qo.Id)&&decide (l[i].State=0))<;>rfl)
  (by simp only[VB,Q6 (Qg _),Qb])
 have hc:VR l f.Qo=some (l.any (λx=>decide (x.Qo=f.Qo.Id)&&decide (x.State=0))):=by
  unfold VR Xu;rw[hi];cases hf:l.findIdx? (λx=>decide (x.Qo=f.Qo.Id)&&decide (x.State=0))with
  |none =>
   have:l.any (λx=>decide (x.Qo=f.Qo.Id)&&decide (x.State=0))=false:=by
    rw[List.any_eq_false];intro x hx;have:=List.findIdx?_eq_none_iff.1 hf x hx;simpa using this
   rw[this];rfl
  |some i =>
   obtain⟨hi',hp⟩:=C6 hf;rw[List.any_eq_true.2 ⟨_,List.getElem_mem hi',hp⟩];simp only[Qa,J1,Qf (show(0:Int)≤(i:Int)by omega)]
 unfold DR DQ;rw[p1,p2,d1,d2,hs,hc];simp only[Qa];have hlt:decide (f.Qo.Worth≤5000)=!decide (5000<f.Qo.Worth):=by
  by_cases h:5000<f.Qo.Worth
  ·rw[Qf h,Qe (by omega)];rfl
  ·rw[Qe h,Qf (by omega)];rfl
 rw[hlt];generalize l.any (λx=>decide (x.Qo=f.Qo.Id)&&decide (x.State=0))=q
 cases decide (p=0)<;>cases q<;>cases d<;>cases (decide (f.Qo.Kind=7)||decide (f.Qo.Worth=0))<;>cases decide (5000<f.Qo.Worth)<;>cases decide (f.Qz=0)<;>exact⟨_,rfl,rfl⟩
def Qcn(h:Ql)(c:Int)(hl:h.Qq.length≤1048576):∃r,Gh h c=some r∧FT h c=some r:=by
 have hs:=Jo h.Qq (λx=>decide (x.Qu=c)) (λi=>(h.Qq.getD i default,true)) (step:=Cw c h (⟨0,0,0,0⟩:Qp))
  (λi hi=>by
   simp only[Cw,Q0 hi,QP hi,Q3 hi,Vg (show(i:Int)<9223372036854775807 by omega),Qc,QL,List.getD_eq_getElem?_getD,List.getElem?_eq_getElem hi,Option.getD_some]
   cases decide (h.Qq[i].Qu=c)<;>rfl)
  (by simp only[Cw,Q6 (Qg _),Qb])
 have hi:=Jo h.Qq (λx=>decide (x.Qu=c)) (λi=>(i:Int)) (step:=Vz h.Qq c (ln h.Qq))
  (λi hi=>by
   simp only[Vz,HR,Qa,Q0 hi,QP hi,Q3 hi,Vg (show(i:Int)<9223372036854775807 by omega),Qc,QL]
   cases decide (h.Qq[i].Qu=c)<;>rfl)
  (by simp only[Vz,Q6 (Qg _),Qb])
 unfold Gh FT Kf Xn;rw[hs,hi];cases hf:h.Qq.findIdx? (λx=>decide (x.Qu=c))with
 |none=>exact⟨_,rfl,rfl⟩
 |some i =>
  obtain⟨hlt,_⟩:=C6 hf;have hd:decide ((i:Int)<0)=false:=Qe (by omega)
  refine⟨(h.Qq[i],true),?_,?_⟩
  ·simp only[Qa,lA,List.getD_eq_getElem?_getD,List.getElem?_eq_getElem hlt,Option.getD_some]
  ·simp only[Qa,lA,hd,Qb,QP hlt,QL,Q3 hlt]
def xg(l:List Mark)(hl:l.length≤1048576)(h:Bi l=some true):∀x∈l,i64 x.Question:=by
 intro x hx;obtain⟨i,hi,rfl⟩:=List.getElem_of_mem hx;refine Qah (n:=l.length) (P:=λi=>∀h:i<l.length,i64 l[i].Question) (λs:Int=>s) (λi s hi hs=>?_) (λi s hi hs hP s' e=>?_) (s0:=(0:Int)) rfl h i hi hi
 ·subst hs
  unfold JT;rw[Q0 hi,Qc];exact Sp.bind λb=>Sp.cond Sp.ret (Sp.inl (Vg (by omega)))
 ·subst hs
  refine hP λh'=>?_
  simp only[JT,Q0 hi,QP hi,Q3 hi,Qc,QL,QR,Qa]at e;refine Classical.byContradiction λhn=>?_
  rw[QbR (n:=l[i].Question) (a:=1) (b:=20) (by omega) (by omega) hn]at e
  revert e;simp
def Qaf:i64 0:=by unfold i64;omega
def t7(l:List Mark)(c v:Int)(hl:l.length≤1048576){q:Int}(h:ZW l c v=some q):i64 q:=by
 unfold ZW at h;obtain⟨b,h1,h2⟩:=Option.bind_eq_some_iff.1 h;cases b with
 |true=>injection h2 with h2;subst h2;exact Qaf
 |false =>
  have hm:Bi l=some true:=by
   cases hz:decide (ln l=0)with
   |true=>rw[hz]at h1;cases h1
   |false =>
    rw[hz,Qb]at h1;obtain⟨m,m1,m2⟩:=Option.bind_eq_some_iff.1 h1;cases m with
    |true=>exact m1
    |false=>cases m2
  simp only[Qb]at h2;obtain⟨r3,_,h2⟩:=Option.bind_eq_some_iff.1 h2;obtain⟨r4,_,h2⟩:=Option.bind_eq_some_iff.1 h2;generalize (QU (r4+v)).tmod (ln l)=j at h2;cases hn:(!decide (ln l=0))with
  |false=>rw[hn]at h2;cases h2
  |true =>
   rw[hn]at h2;simp only[QL]at h2;cases hi:Q1 l j with
   |false=>rw[hi]at h2;cases h2
   |true =>
    rw[hi]at h2;simp only[QL]at h2;injection h2 with h2
    subst h2;obtain⟨p1,p2⟩:=C8.1 hi;have:gt l j=l[j.toNat]'(by omega):=by unfold gt;rw[List.getD_eq_getElem?_getD,List.getElem?_eq_getElem (by omega)];rfl
    rw[this];exact xg l hl hm _ (List.getElem_mem _)
def Qpy(l:List Mark)(x:Qp)(hl:l.length≤1048576):∃q,XU l x=some q∧Jl l x=some q∧i64 q:=by
 obtain⟨q,q1,q2⟩:=Sn l x hl;refine⟨q,q1,q2,?_⟩;unfold XU at q1;obtain⟨s,_,h⟩:=Option.bind_eq_some_iff.1 q1;cases hs:(!decide (s=0))with
 |true=>rw[hs]at h;injection h with h;subst h;exact Qaf
 |false =>
  rw[hs,Qb]at h;obtain⟨r,r1,r2⟩:=Option.bind_eq_some_iff.1 h;injection r2 with r2
  subst r2;exact t7 _ _ _ hl r1
def QaJ(f:Int):∃s,EW f=some s∧EJ f=some s:=by
 unfold EW EJ QR;by_cases h:0≤f∧f≤5
 ·rcases(by omega:f=0∨f=1∨f=2∨f=3∨f=4∨f=5)with rfl|rfl|rfl|rfl|rfl|rfl<;>exact⟨_,rfl,rfl⟩
 ·have h1:(decide (0≤f)&&decide (f≤5))=false:=by
   rw[Bool.eq_false_iff];simpa using h
  have h2:(decide (f<0)||decide (6≤f))=true:=by
   simp only[Bool.or_eq_true,decide_eq_true_eq];omega
  rw[h1,h2];exact⟨_,rfl,rfl⟩
def tw(l:List QB)(now:Int)(hl:l.length≤1048576)(hx:∀x∈l,i64 x.Qo.Id):∃o,DC l now=some o∧Db l now=some o∧o.length≤1048576∧∀x∈o,i64 x:=by
 have hS:=Fj l (λf=>lf f now) (λf=>f.Qo.Id) (step:=AN l now) (λi o hi ho=>by
   simp only[AN,Q0 hi,QP hi,Q3 hi,Vg (show(i:Int)<9223372036854775807 by omega),VU (show o.length+1≤2000000 by omega) (show 8≤1024 by omega),Qc,QL,(wC _ _).1,Qa]
   cases lf l[i] now<;>rfl)
  (λo=>by simp only[AN,Q6 (Qg _),Qb])
 have hI:=Fj l (λf=>lf f now) (λf=>f.Qo.Id) (step:=AE now l (ln l)) (λi o hi ho=>by
   simp only[AE,Q0 hi,QP hi,Q3 hi,Vg (show(i:Int)<9223372036854775807 by omega),VU (show o.length+1≤2000000 by omega) (show 8≤1024 by omega),Qc,QL,(wC _ _).2,Qa]
   cases lf l[i] now<;>rfl)
  (λo=>by simp only[AE,Q6 (Qg _),Qb])
 refine⟨(l.filter λf=>lf f now).map λf=>f.Qo.Id,?_,?_,?_,?_⟩
 ·unfold DC;rw[hS];rfl
 ·unfold Db;rw[hI];rfl
 ·rw[List.length_map];exact Nat.le_trans (List.length_filter_le _ _) hl
 ·intro x hm
  obtain⟨f,hf,rfl⟩:=List.mem_map.1 hm;exact hx f (List.mem_filter.1 hf).1
def mT:List UInt8:=[97,115,107]
def aS:List UInt8:=[115,116,111,114,121]
def db:List UInt8:=[102,97,116,101]
def NR:List UInt8:=[98,97,108,97,110,99,101]
def QbJ:List UInt8:=[100,117,101]
def iL:List UInt8:=[115,108,111,116,115]
def YY:List UInt8:=[99,108,97,105,109,115]
def il:List UInt8:=[104,111,117,115,101]
def iD:List UInt8:=[97,117,100,105,116]
def Qao(a:Ql)(w:List UInt8)(hm:QX a)(hk:Lk a)(hw:w∈[QbJ,iL,YY,il,iD]):∃s,J4 a w=some s∧De a w []=some s:=by
 have hm':=hm;obtain⟨m1,m2,m3,m4,m5,m6,m7⟩:=hm';simp only[List.mem_cons,List.not_mem_nil,or_false]at hw
 rcases hw with rfl|rfl|rfl|rfl|rfl
 ·obtain⟨o,o1,o2,o3,o4⟩:=tw a.Qt a.Now m1 hk.finds
  obtain⟨s,s1,s2⟩:=Lt o o3 o4;refine⟨s,?_,?_⟩
  ·show(DC a.Qt a.Now).bind _=_
   rw[o1,Qa,s1];rfl
  ·show(Db a.Qt a.Now).bind _=_
   rw[o2,Qa,s2];rfl
 ·obtain⟨s,s1,s2⟩:=jl a.Qs m3 hk.slots
  refine⟨s,?_,?_⟩
  ·show(Bt a.Qs).bind _=_
   rw[s1];rfl
  ·show(Bx a.Qs).bind _=_
   rw[s2];rfl
 ·obtain⟨s,s1,s2⟩:=gY a.Qv m4 hk.claims
  refine⟨s,?_,?_⟩
  ·show(AG a.Qv).bind _=_
   rw[s1];rfl
  ·show(AD a.Qv).bind _=_
   rw[s2];rfl
 ·obtain⟨s,s1,s2⟩:=lE a hk.no hk.now m1 m4 m6 m7
  refine⟨s,?_,?_⟩
  ·show(BH a).bind _=_
   rw[s1];rfl
  ·show(Bw a).bind _=_
   rw[s2];rfl
 ·obtain⟨c,c1,c2⟩:=Qbn a hm
  refine⟨bif !decide (c=[])then c else[111,107],?_,?_⟩
  ·show(FQ a).bind _=_
   rw[c1,Qa];cases decide (c=[])<;>rfl
  ·show(FU a).bind _=_
   rw[c2,Qa];cases decide (c=[])<;>rfl
def Qcp(a:Ql)(w:List UInt8)(n:Int)(hm:QX a)(hk:Lk a)(hw:w∈[mT,aS,db,NR]):∃s,Zu a w n=some s∧De a w [n]=some s:=by
 have hm':=hm;obtain⟨m1,m2,m3,m4,m5,m6,m7⟩:=hm';simp only[List.mem_cons,List.not_mem_nil,or_false]at hw
 rcases hw with rfl|rfl|rfl|rfl
 ·obtain⟨t,t1,t2⟩:=Qcn a n m5
  obtain⟨c1,c2⟩:=FS a.Qv n m4;have e1:Zu a mT n=(Gh a n).bind λr=>(J7 a.Qv n).bind λr2=>(bif (!r.2)||(decide (r2<0))then some [110,111]else nd (Q1 a.Qv r2)<|(CI a.Qn (gt a.Qv r2).Qo).bind λr3=>(XU r3 r.1).bind λr4=>(Q4 r4).bind λr5=>some r5):=rfl
  have e2:De a mT [n]=(FT a n).bind λr=>(XK a.Qv n).bind λr2=>(bif (!r.2)||(decide (r2<0))then some [110,111]else nd (Q1 a.Qv r2)<|(CD a.Qn (gt a.Qv r2).Qo).bind λr3=>(Jl r3 r.1).bind λr4=>(Vi r4).bind λr5=>some r5):=rfl
  rw[e1,e2,t1,t2];simp only[Qa,c1,c2]
  rcases Kx a.Qv n with h|⟨k,hk',h,_⟩
  ·rw[h]
   cases t.2<;>exact⟨_,rfl,rfl⟩
  ·rw[h]
   obtain⟨m,g1,g2,g3⟩:=YM a.Qn (gt a.Qv (k:Int)).Qo m2.1 m2.2;obtain⟨q,q1,q2,q3⟩:=Qpy m t.1 g3;simp only[QP hk',QL,g1,g2,q1,q2,J8 q q3,A8 q q3,Qa,show decide ((k:Int)<0)=false from Qe (by omega),Bool.or_false]
   cases t.2<;>exact⟨_,rfl,rfl⟩
 ·obtain⟨s,s1,s2⟩:=QbH a.Qw n m6 hk.chain
  refine⟨s,?_,?_⟩
  ·show(FO a.Qw n).bind _=_
   rw[s1];rfl
  ·show(FZ a.Qw n).bind _=_
   rw[s2];rfl
 ·obtain⟨c1,c2⟩:=XX a.Qt n m1
  have e1:Zu a db n=(Xr a.Qt n).bind λr7=>(bif decide (r7<0)then some [110,111]else nd (Q1 a.Qt r7)<|(DR (gt a.Qt r7) a.Qv a.Now).bind λr8=>(EW r8).bind λr9=>some r9):=rfl
  have e2:De a db [n]=(XB a.Qt n).bind λr7=>(bif decide (r7<0)then some [110,111]else nd (Q1 a.Qt r7)<|(DQ (gt a.Qt r7) a.Qv a.Now).bind λr8=>(EJ r8).bind λr9=>some r9):=rfl
  rw[e1,e2,c1,c2];simp only[Qa];by_cases h:XG a.Qt n<0
  ·rw[Qf h];exact⟨_,rfl,rfl⟩
  ·obtain⟨k,hk1,hk2⟩:=LO h
   obtain⟨v,v1,v2⟩:=nq (gt a.Qt (XG a.Qt n)) a.Qv a.Now m4;obtain⟨s,s1,s2⟩:=QaJ v;rw[Qe h,show Q1 a.Qt (XG a.Qt n)=true by rw[hk1];exact QP hk2]
   simp only[Qb,QL,v1,v2,s1,s2,Qa];exact⟨_,rfl,rfl⟩
 ·obtain⟨v,v1,v2⟩:=SA a.Book n m7
  obtain⟨s,s1,s2⟩:=lD v;refine⟨s,?_,?_⟩
  ·show(Z6 a.Book n).bind _=_
   rw[v1,Qa,s1];rfl
  ·show(Z3 a.Book n).bind _=_
   rw[v2,Qa,s2];rfl
def qO{n:Nat}(p:Nat→Bool){step:Int→Option (Int⊕Int)}(h1:∀i,i<n→step (i:Int)=some (bif p i then .inl ((i+1:Nat):Int)else .inr (i:Int)))(h2:step (n:Int)=some (.inr (n:Int))):∃k:Nat,k≤n∧run step 0=some (k:Int):=by
 have key:∀(m i:Nat),i+m=n→∃k:Nat,k≤n∧run step (i:Int)=some (k:Int):=by
  intro m
  induction m with
  |zero =>
   intro i hi;have:i=n:=by omega
   subst this;exact⟨i,Qg _,by rw[Vk,h2];rfl⟩
  |succ m ih =>
   intro i hi;cases hp:p i with
   |false=>exact⟨i,by omega,by rw[Vk,h1 i (by omega),hp];rfl⟩
   |true =>
    obtain⟨k,k1,k2⟩:=ih (i+1) (by omega)
    exact⟨k,k1,by rw[Vk,h1 i (by omega),hp];exact k2⟩
 exact key n 0 (by omega)
def KB{α:Type}(l:List α)(k:Nat):cut l (k:Int) (ln l)=l.drop k:=by
 unfold cut ln;simp
def Td{k n:Nat}(h:k≤n):Ff (k:Int) (n:Int) (n:Int)=true:=by unfold Ff;simp;omega
def S8{α:Type}(l:List α)(k:Nat)(x:α):(cut l 0 (k:Int)++[x])++cut l (k:Int) (ln l)=VY l (k:Int) [x]:=by
 rw[Za,KB];simp[VY]
def K8{α:Type}(l:List α)(k:Nat)(hk:k≤l.length)(x:α):(VY l (k:Int) [x]).length=l.length+1:=by
 simp[VY];omega
def Y4{α:Type}(l:List α)(k:Nat)(hk:k≤l.length)(x:α)(b:Nat)(hl:l.length≤1048576)(hb:b≤1024):IK l (k:Int) [x] b=true:=by
 unfold IK;have:(l.length+1)*b≤1048577*1024:=Nat.mul_le_mul (by omega) hb
 simp;omega
def nC{α:Type}(l:List α)(k:Nat)(hk:k≤l.length)(x:α):(VY l (k:Int) [x])[k]?=some x:=by
 simp[VY,List.getElem?_append,Nat.min_eq_left hk]
def rq{α:Type}(l:List α)(k:Nat)(hk:k≤l.length)(x:α)(j:Nat)(hj:j<l.length):(VY l (k:Int) [x])[if j<k then j else j+1]?=some l[j]:=by
 by_cases h:j<k
 ·rw[if_pos h];simp[VY,List.getElem?_append,Nat.min_eq_left hk,h]
 ·rw[if_neg h]
  simp only[VY,Int.toNat_natCast,List.singleton_append];rw[List.getElem?_append_right (by simp;omega)]
  simp only[List.length_take,Nat.min_eq_left hk];rw[show j+1-k=(j-k)+1 by omega,List.getElem?_cons_succ,List.getElem?_drop,show k+(j-k)=j by omega,List.getElem?_eq_getElem hj]
def gk{α:Type}[Inhabited α](key:α→Int)(l:List α)(k:Nat)(hk:k≤l.length)(x:α)(up:∀i (hi:i<(VY l (k:Int) [x]).length) (h0:0<i),key ((VY l (k:Int) [x])[i-1]'(by omega))<key (VY l (k:Int) [x])[i])(j:Nat)(hj:j<l.length)(he:key l[j]=key x):False:=by
 have hlen:=K8 l k hk x;have hu:=oF (n:=(VY l (k:Int) [x]).length) (λi=>key (gt (VY l (k:Int) [x]) (i:Int))) (λi h1 h2=>by
  show key (gt (VY l (k:Int) [x]) ((i-1:Nat):Int))<key (gt (VY l (k:Int) [x]) (i:Int));rw[Q3 h1,Q3 (show i-1<(VY l (k:Int) [x]).length by omega)];exact up i h1 h2)
 have g1:gt (VY l (k:Int) [x]) (k:Int)=x:=by
  have hlt:k<(VY l (k:Int) [x]).length:=by omega
  rw[Q3 hlt];have:=nC l k hk x;rw[List.getElem?_eq_getElem hlt]at this;exact Option.some.inj this
 have hidx:(if j<k then j else j+1)<(VY l (k:Int) [x]).length:=by split<;>omega
 have g2:gt (VY l (k:Int) [x]) ((if j<k then j else j+1:Nat):Int)=l[j]:=by
  rw[Q3 hidx];have:=rq l k hk x j hj;rw[List.getElem?_eq_getElem hidx]at this;exact Option.some.inj this
 by_cases h:j<k
 ·have:=hu k (if j<k then j else j+1) (by rw[if_pos h];exact h) (by omega)
  simp only[g1,g2]at this;omega
 ·have:=hu (if j<k then j else j+1) k (by rw[if_neg h];omega) hidx
  simp only[g1,g2]at this;omega
def KM(out:List Bid)(c:Int):Nat→Nat
 |0=>0
 |n+1=>bif decide ((gt out (n:Int)).Qy<c)then KM out c n else n+1
def gx(out:List Bid)(c:Int):∀n,KM out c n≤n
 |0=>Qg _
 |n+1=>by
  have:=gx out c n;unfold KM;cases decide ((gt out (n:Int)).Qy<c)<;>simp<;>omega
def Z8(l:List Bid):Nat→List Bid
 |0=>[]
 |i+1=>VY (Z8 l i) ((KM (Z8 l i) (gt l (i:Int)).Qy i:Nat):Int) [gt l (i:Int)]
def K4(l:List Bid):∀i,(Z8 l i).length=i
 |0=>rfl
 |i+1=>by
  have h:=K4 l i;unfold Z8;rw[K8 _ _ (by rw[h];exact gx _ _ _),h]
def pA{i:Nat}(h:(i:Int)<9223372036854775807):QU (((i+1:Nat):Int)-1)=(i:Int):=by rw[VD]<;>omega
def sn(l:List Bid)(hl:l.length≤1048576):Fy l=some (Z8 l l.length):=by
 have inner:∀(out:List Bid) (i:Nat) (hi:i<l.length) (ho:out.length≤1048576) (n:Nat),n≤out.length→run (An l out (i:Int)) (n:Int)=some ((KM out (gt l (i:Int)).Qy n:Nat):Int):=by
  intro out i hi ho n
  induction n with
  |zero =>
   intro _;rw[Vk];simp only[An,show decide (0<((0:Nat):Int))=false from rfl,Qb,Qa,KM]
  |succ n ih =>
   intro hn;rw[Vk];simp only[An,show decide (0<((n+1:Nat):Int))=true from Qf (by omega),Qc,pA (show(n:Int)<9223372036854775807 by omega),QP (show n<out.length by omega),QP hi,QL,Qa,KM]
   cases decide ((gt out (n:Int)).Qy<(gt l (i:Int)).Qy)with
   |true=>simp only[Qc];exact ih (by omega)
   |false=>rfl
 have hr:=J2 (step:=Zg l) (λi=>(Z8 l i,(i:Int))) (r:=Z8 l l.length) l.length (λi hi=>by
   have hlen:=K4 l i;have hp:=gx (Z8 l i) (gt l (i:Int)).Qy i;have hin:=inner (Z8 l i) i hi (by omega) (Z8 l i).length (Qg _)
   rw[hlen]at hin;have hln:ln (Z8 l i)=((i:Nat):Int):=by rw[Vp,hlen]
   have e1:Ff 0 ((KM (Z8 l i) (gt l (i:Int)).Qy i:Nat):Int) (i:Int)=true:=Md hp;have e2:Ff ((KM (Z8 l i) (gt l (i:Int)).Qy i:Nat):Int) (i:Int) (i:Int)=true:=Td hp;have c1:(cut (Z8 l i) 0 ((KM (Z8 l i) (gt l (i:Int)).Qy i:Nat):Int)).length=KM (Z8 l i) (gt l (i:Int)).Qy i:=by rw[Za,List.length_take,hlen];omega
   have c3:(cut (Z8 l i) ((KM (Z8 l i) (gt l (i:Int)).Qy i:Nat):Int) (i:Int)).length=i-KM (Z8 l i) (gt l (i:Int)).Qy i:=by rw[←hln,KB,List.length_drop,hlen]
   simp only[Zg,Q0 hi,Qc,hln,hin,Qa,e1,e2,QL,QP hi,VU (show 0+(cut (Z8 l i) 0 ((KM (Z8 l i) (gt l (i:Int)).Qy i:Nat):Int)).length≤2000000 by omega) (show 24≤1024 by omega),VU (show(cut (Z8 l i) 0 ((KM (Z8 l i) (gt l (i:Int)).Qy i:Nat):Int)).length+1≤2000000 by omega) (show 24≤1024 by omega),
    VU (show(cut (Z8 l i) 0 ((KM (Z8 l i) (gt l (i:Int)).Qy i:Nat):Int)).length+1+(cut (Z8 l i) ((KM (Z8 l i) (gt l (i:Int)).Qy i:Nat):Int) (i:Int)).length≤2000000 by omega) (show 24≤1024 by omega),Vg (show(i:Int)<9223372036854775807 by omega)]
   rw[←hln,S8,hln];rfl)
  (by simp only[Zg,Q6 (Qg _),Qb])
 unfold Fy;rw[show run (Zg l) ([],0)=some (Z8 l l.length)from hr];rfl
def vo(x y:Bid):∃c,CF x y=some c∧decide (c<0)=decide (y.Qy<x.Qy):=by
 unfold CF GR Gq;simp only[decide_true,Qh,Qa,Qb];by_cases h:y.Qy<x.Qy
 ·rw[Qf h];exact⟨-1,rfl,rfl⟩
 ·rw[Qe h]
  by_cases h':x.Qy<y.Qy
  ·rw[Qf h'];exact⟨1,rfl,rfl⟩
  ·rw[Qe h'];exact⟨0,rfl,rfl⟩
def ur{p q:List Bid}{x:Bid}:gt (p++x::q) (p.length:Int)=x:=by
 rw[Q3 (by simp)];simp
def Quh(b i:Int)(p q:List Bid)(x:Bid)(hp:p.length≤1048576):∀j,j≤p.length→run (Vl 0 b i) (p.take j++x::(p.drop j++q),(j:Int))=some (VY p ((KM p x.Qy j:Nat):Int) [x]++q):=by
 intro j
 induction j with
 |zero =>
  intro _;rw[Vk];simp only[Vl,show decide (0<((0:Nat):Int))=false from rfl,Qb,Qa,KM];simp[VY]
 |succ j ih =>
  intro hj;have hlt:j<p.length:=by omega
  have hl1:(p.take (j+1)).length=j+1:=by rw[List.length_take];omega
  have hs:p.take (j+1)++x::(p.drop (j+1)++q)=p.take j++p[j]::(x::(p.drop (j+1)++q)):=by
   rw[List.take_succ_eq_append_getElem hlt,List.append_assoc];rfl
  have g1:gt (p.take (j+1)++x::(p.drop (j+1)++q)) ((j+1:Nat):Int)=x:=by
   have:=ur (p:=p.take (j+1)) (q:=p.drop (j+1)++q) (x:=x);rw[hl1]at this;exact this
  have hl0:(p.take j).length=j:=by rw[List.length_take];omega
  have g0:gt (p.take (j+1)++x::(p.drop (j+1)++q)) (j:Int)=p[j]:=by
   rw[hs];have:=ur (p:=p.take j) (q:=x::(p.drop (j+1)++q)) (x:=p[j]);rw[hl0]at this;exact this
  have hlen:(p.take (j+1)++x::(p.drop (j+1)++q)).length=p.length+1+q.length:=by simp;omega
  obtain⟨c,c1,c2⟩:=vo x p[j];rw[Vk];simp only[Vl,show decide (0<((j+1:Nat):Int))=true from Qf (by omega),Qc,pA (show(j:Int)<9223372036854775807 by omega),QP (show j+1<(p.take (j+1)++x::(p.drop (j+1)++q)).length by omega),QP (show j<(p.take (j+1)++x::(p.drop (j+1)++q)).length by omega),QL,g0,g1,c1,Qa,c2,KM,Q3 hlt]
  cases decide (p[j].Qy<x.Qy)with
  |false =>
   simp only[Qb];congr 1;simp[VY]
  |true =>
   simp only[Qc,Int.toNat_natCast];have he:((p.take (j+1)++x::(p.drop (j+1)++q)).set (j+1) p[j]).set j x=p.take j++x::(p.drop j++q):=by
    rw[hs,List.set_append_right _ _ (by omega),List.set_append_right _ _ (by omega),hl0]
    simp only[Nat.add_sub_cancel_left,Nat.sub_self,List.set_cons_succ,List.set_cons_zero];rw[List.drop_eq_getElem_cons hlt];rfl
   rw[he];exact ih (by omega)
def fi(l:List Bid)(hl:l.length≤1048576)(h1:1≤l.length):Q8 l 0 (ln l)=some (Z8 l l.length):=by
 have hr:=J2 (step:=Vc 0 (ln l)) (λi=>(Z8 l (i+1)++l.drop (i+1),((i+1:Nat):Int))) (r:=Z8 l l.length) (l.length-1) (λi hi=>by
   have hlt:i+1<l.length:=by omega
   have hlen:=K4 l (i+1);have hd:l.drop (i+1)=l[i+1]::l.drop (i+1+1):=List.drop_eq_getElem_cons hlt;have hk:=Quh (ln l) ((i+1:Nat):Int) (Z8 l (i+1)) (l.drop (i+1+1)) l[i+1] (by omega) (i+1) (by omega)
   rw[List.take_of_length_le (by omega),List.drop_of_length_le (show(Z8 l (i+1)).length≤i+1 by omega),List.nil_append]at hk
   simp only[Vc,show decide (((i+1:Nat):Int)<ln l)=true from Qf (by rw[Vp];omega),Qc,hd,hk,Qa,Vg (show((i+1:Nat):Int)<9223372036854775807 by omega)]
   rw[show Z8 l (i+1+1)=VY (Z8 l (i+1)) ((KM (Z8 l (i+1)) (gt l ((i+1:Nat):Int)).Qy (i+1):Nat):Int) [gt l ((i+1:Nat):Int)]from rfl,Q3 hlt])
  (by
   rw[show l.length-1+1=l.length by omega]
   simp only[Vc,show decide (((l.length:Nat):Int)<ln l)=false from Qe (by rw[Vp];omega),Qb,List.drop_length,List.append_nil])
 have h0:Z8 l (0+1)++l.drop (0+1)=l:=by
  cases l with
  |nil=>simp at h1
  |cons x t=>simp[Z8,VY,KM,gt]
 unfold Q8;simp only[h0]at hr;rw[show QU (0+1)=1 from rfl,show run (Vc 0 (ln l)) (l,1)=some (Z8 l l.length)from hr];rfl
def aZ(l:List Bid):Q8 l 20 20=some l:=by
 unfold Q8;rw[Vk];rfl
def mH(l:List Bid)(hl:l.length≤20)(h1:1≤l.length):Ez l=some (Z8 l l.length):=by
 have hrm:rm (0+l.length) 24=true:=VU (by omega) (by omega)
 have h7:∀r:List Bid,run (VE r (ln l)) 20=some ():=λr=>by
  rw[Vk];simp only[VE,show decide (20<ln l)=false from Qe (by rw[Vp];omega),Qb,Qa]
 unfold Ez FW VZ V4;simp only[hrm,QL,Qa];by_cases h20:l.length=20
 ·have hln:ln l=20:=by rw[Vp,h20];rfl
  have hins:=fi l (by omega) h1
  have hr:run (Vh (ln l) 20) (l,0,20)=some (Z8 l l.length,20):=by
   rw[Vk];simp only[Vh,show decide (20≤ln l)=true from Qf (by omega),Qc]
   rw[hln]at hins;rw[hins];simp only[Qa];rw[Vk];simp only[Vh,show decide (QU (20+20)≤ln l)=false from Qe (by rw[show QU (20+20)=40 from rfl,hln];omega),Qb,Qa]
  rw[hr];simp only[Qa];rw[hln,aZ];rw[hln]at h7;simp only[Qa,h7]
 ·have hr:run (Vh (ln l) 20) (l,0,20)=some (l,0):=by
   rw[Vk];simp only[Vh,show decide (20≤ln l)=false from Qe (by rw[Vp];omega),Qb,Qa]
  rw[hr];simp only[Qa,fi l (by omega) h1,h7]
def jW(l:List Entry)(x:Entry)(hl:l.length≤1048576):∃r,EM l x=some r∧Bh l x=some r∧r.1.length≤1048576:=by
 have hrm:rm (0+l.length) 32=true:=VU (by omega) (by omega)
 have hrm1:rm (l.length+1) 32=true:=VU (by omega) (by omega)
 obtain⟨b,b1,b2,b3⟩:=WQ (l++[x]) (by simp;omega)
 unfold EM Bh JH;simp only[hrm,hrm1,QL,Qa,b1,b2];cases b with
 |false=>exact⟨(l,false),rfl,rfl,hl⟩
 |true=>exact⟨_,rfl,rfl,by have:=(b3 rfl).1;show(l++_).length≤_;omega⟩
end Go.Proofs.YtkgadcbajihilaaGreatDoor
