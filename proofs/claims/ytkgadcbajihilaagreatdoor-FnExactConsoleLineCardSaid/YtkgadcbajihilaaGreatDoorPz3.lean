import Derived.Lib.ItoaLen
import Derived.Test.YtkgadcbajihilaaGreatDoorPz2
set_option linter.unusedVariables false
set_option linter.unusedSimpArgs false
set_option maxRecDepth 100000
set_option linter.defProp false
noncomputable section
namespace Go.Proofs.YtkgadcbajihilaaGreatDoor
open Go
def LO{l:List QB}{id:Int}(h:¬XG l id<0):∃k:Nat,XG l id=(k:Int)∧k<l.length:=by
 unfold XG at h ⊢;cases hf:l.findIdx? (λx=>decide (x.Qo.Id=id))with
 |none=>rw[hf]at h;simp at h
 |some i=>exact⟨i,rfl,(C6 hf).1⟩
def Z2(x:Hand)(c:Qu):Bool:=decide (c.State=3)&&(decide (c.Qo=x.Qo)&&decide (c.QA=x.QA))
def be(h:Ql)(x:Hand)(hl:h.Qv.length≤1048576):Ci h x=some (h.Qv.any (Z2 x)):=by
 have hs:=MB h.Qv (Z2 x) (r:=true) (step:=ZB h x)
  (λi hi=>by
   simp only[ZB,Q0 hi,QP hi,Q3 hi,Vg (show(i:Int)<9223372036854775807 by omega),Qc,QL,Z2]
   cases decide (h.Qv[i].State=3)<;>cases decide (h.Qv[i].Qo=x.Qo)<;>cases decide (h.Qv[i].QA=x.QA)<;>rfl)
  (by simp only[ZB,Q6 (Qg _),Qb])
 unfold Ci;rw[hs];cases h.Qv.any (Z2 x)<;>rfl
def jI(h:Ql)(x:Hand)(hl:h.Qv.length≤1048576):EL h x=some (decide (x.Qx=3)&&h.Qv.any (Z2 x)):=by
 have hi:=Jo h.Qv (Z2 x) (λi=>(i:Int)) (step:=Vt h.Qv x (ln h.Qv))
  (λi hi=>by
   simp only[Vt,GO,Qa,Q0 hi,QP hi,Q3 hi,Vg (show(i:Int)<9223372036854775807 by omega),Qc,QL,Z2]
   cases decide (h.Qv[i].State=3)<;>cases decide (h.Qv[i].Qo=x.Qo)<;>cases decide (h.Qv[i].QA=x.QA)<;>rfl)
  (by simp only[Vt,Q6 (Qg _),Qb])
 have hc:VK h.Qv x=some (h.Qv.any (Z2 x)):=by
  unfold VK Xl;rw[hi];cases hf:h.Qv.findIdx? (Z2 x)with
  |none =>
   have:h.Qv.any (Z2 x)=false:=by
    rw[List.any_eq_false];intro y hy;have:=List.findIdx?_eq_none_iff.1 hf y hy;simp[this]
   rw[this];rfl
  |some i =>
   obtain⟨hi,hp⟩:=C6 hf;have:h.Qv.any (Z2 x)=true:=List.any_eq_true.2 ⟨_,List.getElem_mem hi,hp⟩;rw[this];show some (decide (0≤(i:Int)))=_;rw[Qf (by omega)]
 unfold EL;rw[hc];cases decide (x.Qx=3)<;>rfl
def PL(h:Ql)(x:Hand):Bool:=!decide (x.Qx=3)||(h.Qv.any (Z2 x)||(!decide (XG h.Qt x.Qo<0)&&decide ((gt h.Qt (XG h.Qt x.Qo)).Qz=x.QA)))
def sJ(h:Ql)(hm:QX h):∃c,Fs h=some c∧Fw h=some c:=by
 unfold QX at hm;obtain⟨m1,m2,m3,m4,m5,m6,m7⟩:=hm;have hs:=Ir h.Qw (PL h) (r:=false) (step:=Ay h)
  (λi hi=>by
   simp only[Ay,Q0 hi,QP hi,Q3 hi,Vg (show(i:Int)<9223372036854775807 by omega),Qc,QL,(XX h.Qt h.Qw[i].Qo m1).1,be h h.Qw[i] m4,Qa,PL]
   by_cases hf:XG h.Qt h.Qw[i].Qo<0
   ·rw[Qf hf]
    cases decide (h.Qw[i].Qx=3)<;>cases h.Qv.any (Z2 h.Qw[i])<;>rfl
   ·obtain⟨k,hk,hlt⟩:=LO hf
    rw[Qe hf];simp only[hk,QP hlt,QL];cases decide (h.Qw[i].Qx=3)<;>cases h.Qv.any (Z2 h.Qw[i])<;>cases decide ((gt h.Qt (k:Int)).Qz=h.Qw[i].QA)<;>rfl)
  (by simp only[Ay,Q6 (Qg _),Qb])
 have hi:=Ir h.Qw (PL h) (r:=false) (step:=AO h h.Qw (ln h.Qw))
  (λi hi=>by
   simp only[AO,Q0 hi,QP hi,Q3 hi,Vg (show(i:Int)<9223372036854775807 by omega),Qc,QL,(XX h.Qt h.Qw[i].Qo m1).2,jI h h.Qw[i] m4,Qa,PL]
   by_cases hf:XG h.Qt h.Qw[i].Qo<0
   ·rw[Qf hf]
    cases decide (h.Qw[i].Qx=3)<;>cases h.Qv.any (Z2 h.Qw[i])<;>rfl
   ·obtain⟨k,hk,hlt⟩:=LO hf
    rw[Qe hf];simp only[hk,QP hlt,QL];cases decide (h.Qw[i].Qx=3)<;>cases h.Qv.any (Z2 h.Qw[i])<;>cases decide ((gt h.Qt (k:Int)).Qz=h.Qw[i].QA)<;>rfl)
  (by simp only[AO,Q6 (Qg _),Qb])
 refine⟨h.Qw.all (PL h),?_,?_⟩
 ·unfold Fs;rw[hs];cases h.Qw.all (PL h)<;>rfl
 ·unfold Fw;rw[hi];cases h.Qw.all (PL h)<;>rfl
theorem Qjq(f:QB):Bl f=XN f:=rfl
def gG(f:QB):∃b,XN f=some b∧(b=true→1≤f.Qo.Kind∧f.Qo.Kind≤8):=by
 unfold XN Js QR;simp only[Qa];cases h1:(decide (1≤f.Qo.Id)&&decide (f.Qo.Id≤999))with
 |false=>exact⟨false,rfl,λh=>by cases h⟩
 |true =>
  cases h2:(decide (1≤f.Qo.Kind)&&decide (f.Qo.Kind≤8))with
  |false=>exact⟨false,rfl,λh=>by cases h⟩
  |true =>
   have hk:1≤f.Qo.Kind∧f.Qo.Kind≤8:=by simpa using h2
   simp only[Qc];cases (decide (0≤f.Qo.Colour)&&decide (f.Qo.Colour≤7))<;>cases (decide (1≤f.Qo.Size)&&decide (f.Qo.Size≤50))<;>cases (decide (0≤f.Qo.Worth)&&decide (f.Qo.Worth≤10000000)) <;>
    cases (decide (1≤f.Place)&&decide (f.Place≤30))<;>cases (decide (0≤f.At)&&decide (f.At≤100000))<;>cases (decide (0≤f.Qz)&&decide (f.Qz≤999))<;>exact⟨_,rfl,λ_=>hk⟩
def tK(k:Int)(h1:1≤k)(h2:k≤8):∃d,GF k=some d∧Gt k=some d:=by
 have:k=1∨k=2∨k=3∨k=4∨k=5∨k=6∨k=7∨k=8:=by omega
 rcases this with rfl|rfl|rfl|rfl|rfl|rfl|rfl|rfl<;>exact⟨_,rfl,rfl⟩
def QiX(f:QB)(now:Int):∃b,ZQ f now=some b∧BT f now=some b:=by
 obtain⟨b,h1,h2⟩:=gG f;unfold ZQ BT HK Hj;rw[Qjq,h1];cases b with
 |false=>exact⟨false,rfl,rfl⟩
 |true =>
  obtain⟨k1,k2⟩:=h2 rfl;obtain⟨d,h3,h4⟩:=tK f.Qo.Kind k1 k2;simp only[Qa,Qc,Qb,Qh,h3,h4];exact⟨_,rfl,rfl⟩
def eU(f:QB)(now:Int):Bool:=(ZQ f now).getD false
def re(f:QB)(now:Int):ZQ f now=some (eU f now)∧BT f now=some (eU f now):=by
 obtain⟨b,h1,h2⟩:=QiX f now;unfold eU;rw[h1,h2];exact⟨rfl,rfl⟩
def RP(h:Ql)(x:Hand):Bool :=
 decide (x.Qx≤2)||((decide (x.Qx=3)&&h.Qv.any (Z2 x))||(!decide (XG h.Qt x.Qo<0)&&eU (gt h.Qt (XG h.Qt x.Qo)) x.At))
def iw(h:Ql)(hm:QX h):∃c,CO h=some c∧CT h=some c:=by
 unfold QX at hm;obtain⟨m1,m2,m3,m4,m5,m6,m7⟩:=hm;have hs:=Ir h.Qw (RP h) (r:=false) (step:=JQ h)
  (λi hi=>by
   simp only[JQ,Q0 hi,QP hi,Q3 hi,Vg (show(i:Int)<9223372036854775807 by omega),Qc,QL,(XX h.Qt h.Qw[i].Qo m1).1,be h h.Qw[i] m4,Qa,RP]
   by_cases hf:XG h.Qt h.Qw[i].Qo<0
   ·rw[Qf hf]
    cases decide (h.Qw[i].Qx≤2)<;>cases decide (h.Qw[i].Qx=3)<;>cases h.Qv.any (Z2 h.Qw[i])<;>rfl
   ·obtain⟨k,hk,hlt⟩:=LO hf
    rw[Qe hf];simp only[hk,QP hlt,QL,(re _ _).1,Qa];cases decide (h.Qw[i].Qx≤2)<;>cases decide (h.Qw[i].Qx=3)<;>cases h.Qv.any (Z2 h.Qw[i])<;>cases eU (gt h.Qt (k:Int)) h.Qw[i].At<;>rfl)
  (by simp only[JQ,Q6 (Qg _),Qb])
 have hi:=Ir h.Qw (RP h) (r:=false) (step:=JN h h.Qw (ln h.Qw))
  (λi hi=>by
   simp only[JN,Q0 hi,QP hi,Q3 hi,Vg (show(i:Int)<9223372036854775807 by omega),Qc,QL,(XX h.Qt h.Qw[i].Qo m1).2,jI h h.Qw[i] m4,Qa,RP]
   by_cases hf:XG h.Qt h.Qw[i].Qo<0
   ·rw[Qf hf]
    cases decide (h.Qw[i].Qx≤2)<;>cases decide (h.Qw[i].Qx=3)<;>cases h.Qv.any (Z2 h.Qw[i])<;>rfl
   ·obtain⟨k,hk,hlt⟩:=LO hf
    rw[Qe hf];simp only[hk,QP hlt,QL,(re _ _).2,Qa];cases decide (h.Qw[i].Qx≤2)<;>cases decide (h.Qw[i].Qx=3)<;>cases h.Qv.any (Z2 h.Qw[i])<;>cases eU (gt h.Qt (k:Int)) h.Qw[i].At<;>rfl)
  (by simp only[JN,Q6 (Qg _),Qb])
 refine⟨h.Qw.all (RP h),?_,?_⟩
 ·unfold CO;rw[hs];cases h.Qw.all (RP h)<;>rfl
 ·unfold CT;rw[hi];cases h.Qw.all (RP h)<;>rfl
def uK:∀{a b:List Int},a.Pairwise (· < ·)→b.Pairwise (· < ·)→(∀x,x∈a↔x∈b)→a=b
 |[],[],_,_,_=>rfl
 |[],y::b,_,_,h=>by have:=(h y).2 (by simp);simp at this
 |x::a,[],_,_,h=>by have:=(h x).1 (by simp);simp at this
 |x::a,y::b,ha,hb,h=>by
  obtain⟨ha1,ha2⟩:=List.pairwise_cons.1 ha;obtain⟨hb1,hb2⟩:=List.pairwise_cons.1 hb;have hxy:x=y:=by
   have h1:=(h x).1 (by simp)
   have h2:=(h y).2 (by simp)
   rcases List.mem_cons.1 h1 with h1|h1
   ·exact h1
   ·rcases List.mem_cons.1 h2 with h2|h2
    ·exact h2.symm
    ·have:=hb1 x h1
     have:=ha1 y h2;omega
  subst hxy;refine congrArg _ (uK ha2 hb2 λz=>?_)
  have hz:=h z;constructor
  ·intro hza
   rcases List.mem_cons.1 (hz.1 (List.mem_cons_of_mem _ hza))with e|e
   ·have:=ha1 z hza;omega
   ·exact e
  ·intro hzb
   rcases List.mem_cons.1 (hz.2 (List.mem_cons_of_mem _ hzb))with e|e
   ·have:=hb1 z hzb;omega
   ·exact e
def oX{l:List Int}{v:Int}(hl:l.Pairwise (· < ·)){n:Nat}(hn:n≤l.length)(h1:∀i (h:i<l.length),i<n→l[i]<v)(h2:∀(h:n<l.length),v<l[n]) :
  (l.take n++[v]++l.drop n).Pairwise (· < ·):=by
 have hd:∀x∈l.drop n,v<x:=by
  intro x hx;obtain⟨i,hi,rfl⟩:=List.mem_iff_getElem.1 hx;rw[List.length_drop]at hi;rw[List.getElem_drop];have hv:=h2 (by omega)
  by_cases h0:i=0
  ·subst h0;simpa using hv
  ·have:=List.pairwise_iff_getElem.1 hl n (n+i) (by omega) (by omega) (by omega)
   omega
 have ht:∀x∈l.take n,x<v:=by
  intro x hx;obtain⟨i,hi,rfl⟩:=List.mem_iff_getElem.1 hx;rw[List.length_take]at hi;rw[List.getElem_take];exact h1 i (by omega) (by omega)
 rw[List.pairwise_append,List.pairwise_append];refine⟨⟨hl.sublist (List.take_sublist _ _),by simp,λx hx y hy=>?_⟩,hl.sublist (List.drop_sublist _ _),λx hx y hy=>?_⟩
 ·simp only[List.mem_singleton]at hy
  subst hy;exact ht x hx
 ·simp only[List.mem_append,List.mem_singleton]at hx
  rcases hx with hx|rfl
  ·have:=ht x hx
   have:=hd y hy;omega
  ·exact hd y hy
def kC(l:List Int)(v:Int)(hl:l.Pairwise (· < ·))(hlen:l.length≤4194304) :
  ∃r,BY l v=some r∧r.Pairwise (· < ·)∧(∀x,x∈r↔x∈l∨x=v)∧r.length≤l.length+1:=by
 let n:=l.findIdx (λx=>!decide (x<v))
 have hnl:n≤l.length:=List.findIdx_le_length;have h1:∀i (h:i<l.length),i<n→l[i]<v:=λi h hi=>by
  have:=List.not_of_lt_findIdx (p:=λx=>!decide (x<v)) hi
  simpa using this
 have h2:∀(h:n<l.length),¬l[n]<v:=λh=>by
  have:=List.findIdx_getElem (p:=λx=>!decide (x<v)) (w:=h)
  simpa using this
 have hrun:run (XL l v) 0=some ((n:Nat):Int):=by
  refine J2 (step:=XL l v) (λi=>(i:Int)) n (λi hi=>?_) ?_
  ·have hil:i<l.length:=by omega
   simp only[XL,Q0 hil,QP hil,Q3 hil,Qc,QL,Qf (h1 i hil hi),Qa,Vg (show(i:Int)<9223372036854775807 by omega)]
  ·by_cases h:n<l.length
   ·simp only[XL,Q0 h,QP h,Q3 h,Qc,QL,Qe (h2 h),Qa,Qb]
   ·simp only[XL,Q6 (show l.length≤n by omega),Qb,Qa]
 unfold BY;rw[hrun];simp only[Qa];by_cases h:n<l.length
 ·simp only[Q0 h,QP h,Q3 h,Qc,QL,Qa]
  by_cases hv:l[n]=v
  ·rw[Qf hv]
   have hrm:rm (0+l.length) 8=true:=by unfold rm;exact Qf (by omega)
   refine⟨l,by rw[hrm];rfl,hl,λx=>⟨.inl,λhx=>?_⟩,by omega⟩
   rcases hx with hx|rfl
   ·exact hx
   ·rw[←hv];exact List.getElem_mem _
  ·rw[Qe hv]
   have hc0:cut l 0 ((n:Nat):Int)=l.take n:=by unfold cut;simp
   have hc1:cut l ((n:Nat):Int) (ln l)=l.drop n:=by unfold cut ln;simp
   have hs0:Ff 0 ((n:Nat):Int) (ln l)=true:=by unfold Ff ln;simp;omega
   have hs1:Ff ((n:Nat):Int) (ln l) (ln l)=true:=by unfold Ff ln;simp;omega
   have hr0:rm (0+(l.take n).length) 8=true:=by unfold rm;exact Qf (by rw[List.length_take];omega)
   have hr1:rm ((l.take n).length+1) 8=true:=by unfold rm;exact Qf (by rw[List.length_take];omega)
   have hr2:rm ((l.take n).length+1+(l.drop n).length) 8=true:=by unfold rm;exact Qf (by rw[List.length_take,List.length_drop];omega)
   refine⟨l.take n++[v]++l.drop n,by simp only[hc0,hc1,hs0,hs1,hr0,hr1,hr2,QL,Qb],?_,λx=>?_,?_⟩
   ·exact oX hl hnl h1 λh'=>by have:=h2 h';omega
   ·have:x∈l↔x∈l.take n∨x∈l.drop n:=by rw[←List.mem_append,List.take_append_drop]
    rw[this];simp only[List.mem_append,List.mem_singleton];constructor
    ·rintro((a|a)|a)<;>simp[a]
    ·rintro((a|a)|a)<;>simp[a]
   ·simp only[List.length_append,List.length_take,List.length_drop,List.length_singleton];omega
 ·have hn:n=l.length:=by omega
  simp only[Q6 (show l.length≤n by omega),Qb,Qa]
  have hc0:cut l 0 ((n:Nat):Int)=l.take n:=by unfold cut;simp
  have hc1:cut l ((n:Nat):Int) (ln l)=l.drop n:=by unfold cut ln;simp
  have hs0:Ff 0 ((n:Nat):Int) (ln l)=true:=by unfold Ff ln;simp;omega
  have hs1:Ff ((n:Nat):Int) (ln l) (ln l)=true:=by unfold Ff ln;simp;omega
  have hr0:rm (0+(l.take n).length) 8=true:=by unfold rm;exact Qf (by rw[List.length_take];omega)
  have hr1:rm ((l.take n).length+1) 8=true:=by unfold rm;exact Qf (by rw[List.length_take];omega)
  have hr2:rm ((l.take n).length+1+(l.drop n).length) 8=true:=by unfold rm;exact Qf (by rw[List.length_take,List.length_drop];omega)
  refine⟨l.take n++[v]++l.drop n,by simp only[hc0,hc1,hs0,hs1,hr0,hr1,hr2,QL],?_,λx=>?_,?_⟩
  ·exact oX hl hnl h1 λh'=>absurd h' h
  ·have:x∈l↔x∈l.take n∨x∈l.drop n:=by rw[←List.mem_append,List.take_append_drop]
   rw[this];simp only[List.mem_append,List.mem_singleton];constructor
   ·rintro((a|a)|a)<;>simp[a]
   ·rintro((a|a)|a)<;>simp[a]
  ·simp only[List.length_append,List.length_take,List.length_drop,List.length_singleton];omega
def Lw(l:List Entry):List Int:=l.flatMap λx=>[x.From,x.To]
def dW(l:List Entry)(i:Nat)(h:i<l.length)(x:Int):x∈Lw (l.take (i+1))↔x∈Lw (l.take i)∨x=l[i].From∨x=l[i].To:=by
 rw[List.take_succ_eq_append_getElem h];unfold Lw;rw[List.flatMap_append,List.mem_append];simp only[List.flatMap_cons,List.flatMap_nil,List.append_nil,List.mem_cons,List.not_mem_nil,or_false]
def al:∀l:List Entry,(Lw l).length=2*l.length
 |[]=>rfl
 |x::l=>by
  have:=al l;unfold Lw at this ⊢;simp only[List.flatMap_cons,List.length_append,List.length_cons,List.length_nil,this];omega
def gH(l:List Entry)(hl:l.length≤1048576):∃r,Cx l=some r∧r.Pairwise (· < ·)∧(∀x,x∈r↔x∈Lw l)∧r.length≤2097152:=by
 obtain⟨v,h1,h2,h3,h4⟩:=Om (n:=l.length) (step:=ZR l) (fin:=λv=>v)
  (λi v=>v.Pairwise (· < ·)∧(∀x,x∈v↔x∈Lw (l.take i))∧v.length≤2*i)
  (λi v hi ⟨q1,q2,q3⟩=>by
   obtain⟨r,e1,e2,e3,e4⟩:=kC v l[i].From q1 (by omega)
   obtain⟨r',f1,f2,f3,f4⟩:=kC r l[i].To e2 (by omega)
   refine⟨r',?_,f2,λx=>?_,by omega⟩
   ·simp only[ZR,Q0 hi,QP hi,Q3 hi,Qc,QL,e1,f1,Qa,Vg (show(i:Int)<9223372036854775807 by omega)]
   ·rw[f3,e3,q2,dW l i hi,or_assoc])
  (λv _=>by simp only[ZR,Q6 (Qg _),Qb])
  [] ⟨List.Pairwise.nil,λx=>by simp[Lw],by simp⟩
 refine⟨v,by unfold Cx;rw[h1];rfl,h2,λx=>by rw[h3,List.take_length],by omega⟩
def eX{zs:List Int}(hs:zs.Pairwise (·≤·)):∀m,m≤zs.length→(Lib.compactUpTo zs.toArray m).Pairwise (· < ·)∧(∀x,x∈Lib.compactUpTo zs.toArray m↔x∈zs.take m)
 |0,_=>by simp[Lib.compactUpTo]
 |m+1,hm=>by
  obtain⟨h1,h2⟩:=eX hs m (by omega)
  have hmz:m<zs.length:=by omega
  have hget:zs.toArray[m]! = zs[m]:=by rw[getElem!_pos _ m (by simpa using hmz)];simp
  rw[Lib.compactUpTo_succ,List.take_succ_eq_append_getElem hmz];by_cases h0:m=0
  ·subst h0
   rw[Lib.keeps_lt_one _ 0 (by omega),if_pos rfl,hget]
   simp[Lib.compactUpTo]
  ·have hget':zs.toArray[m-1]! = zs[m-1]:=by rw[getElem!_pos _ (m-1) (by simp;omega)];simp
   have hle:∀x∈zs.take m,x≤zs[m-1]:=by
    intro x hx;obtain⟨i,hi,rfl⟩:=List.mem_iff_getElem.1 hx;rw[List.length_take]at hi;rw[List.getElem_take];by_cases hi':i=m-1
    ·subst hi';omega
    ·exact List.pairwise_iff_getElem.1 hs i (m-1) (by omega) (by omega) (by omega)
   have hlast:zs[m-1]∈zs.take m:=by
    rw[List.mem_iff_getElem];exact⟨m-1,by rw[List.length_take];omega,List.getElem_take⟩
   have hstep:zs[m-1]≤zs[m]:=List.pairwise_iff_getElem.1 hs (m-1) m (by omega) (by omega) (by omega)
   by_cases he:zs[m]=zs[m-1]
   ·rw[Lib.keeps_neg (by omega) (by rw[hget,hget',he])]
    simp only[Bool.false_eq_true,if_false,List.append_nil];refine⟨h1,λx=>?_⟩
    rw[h2,List.mem_append,List.mem_singleton];exact⟨.inl,λh=>h.elim id λh=>by rw[h,he];exact hlast⟩
   ·rw[Lib.keeps_pos (by rw[hget,hget'];exact he),if_pos rfl,hget]
    refine⟨List.pairwise_append.2 ⟨h1,by simp,λx hx y hy=>?_⟩,λx=>?_⟩
    ·simp only[List.mem_singleton]at hy
     subst hy;have:=hle x ((h2 x).1 hx);omega
    ·rw[List.mem_append,List.mem_append,h2]
def rG(l:List Int):(Zz (Al l)).Pairwise (· < ·)∧∀x,x∈Zz (Al l)↔x∈l:=by
 have hs:(Al l).Pairwise (·≤·):=by
  have:=List.pairwise_mergeSort (le:=λx y:Int=>decide (x≤y)) (λa b c h1 h2=>by simp at *;omega) (λa b=>by simp;omega) l
  unfold Al;exact this.imp λh=>by simpa using h
 obtain⟨h1,h2⟩:=eX hs (Al l).length (Qg _);refine⟨h1,λx=>?_⟩
 have:=h2 x;rw[List.take_length]at this;exact this.trans (by unfold Al;rw[List.mem_mergeSort])
def iC(l:List Entry)(hl:l.length≤1048576):Cz l=some (Zz (Al (Lw l))):=by
 have hrun:run (JF l (ln l)) ([],0)=some (Lw l):=by
  have:=J2 (step:=JF l (ln l)) (λi=>(Lw (l.take i),(i:Int))) (r:=Lw l) l.length (λi hi=>by
    have hlen:(Lw (l.take i)).length≤2*i:=by rw[al,List.length_take];omega
    have hrm:rm ((Lw (l.take i)).length+2) 8=true:=by unfold rm;exact Qf (by omega)
    have he:Lw (l.take (i+1))=Lw (l.take i)++[l[i].From,l[i].To]:=by unfold Lw;rw[List.take_succ_eq_append_getElem hi,List.flatMap_append];rfl
    simp only[JF,Q0 hi,QP hi,Q3 hi,Qc,QL,hrm,he,Vg (show(i:Int)<9223372036854775807 by omega)])
   (by simp only[JF,Q6 (Qg _),Qb,List.take_length])
  simpa[Lw]using this
 have ha:=al l;generalize hacc:Lw l=a at *;have hal:a.length≤2097152:=by omega
 have hl2:ln [a,[]]=2:=rfl;have hc:CS [a,[]]=some a:=by
  unfold CS;have w0:QU (0+ln a)=ln a:=by rw[VD]<;>unfold ln<;>omega
  have w1:QU (ln a+ln ([]:List Int))=ln a:=by rw[VD]<;>unfold ln<;>simp<;>omega
  have hneg:decide (ln a<0)=false:=Qe (by unfold ln;omega)
  have s0:Xp [a,[]] [a,[]] (ln [a,[]]) (0,0)=some (.inl (ln a,1)):=by
   have g0:gt [a,([]:List Int)] 0=a:=rfl;simp only[Xp,hl2,g0,show Q1 [a,([]:List Int)] 0=true from rfl,show decide ((0:Int)<2)=true from rfl,w0,hneg,Qc,Qb,QL,show QU (0+1)=1 from rfl]
  have s1:Xp [a,[]] [a,[]] (ln [a,[]]) (ln a,1)=some (.inl (ln a,2)):=by
   have g1:gt [a,([]:List Int)] 1=[]:=rfl;simp only[Xp,hl2,g1,show Q1 [a,([]:List Int)] 1=true from rfl,show decide ((1:Int)<2)=true from rfl,w1,hneg,Qc,Qb,QL,show QU (1+1)=2 from rfl]
  have s2:Xp [a,[]] [a,[]] (ln [a,[]]) (ln a,2)=some (.inr (ln a)):=rfl;have r1:run (Xp [a,[]] [a,[]] (ln [a,[]])) (0,0)=some (ln a):=by
   rw[Vk,s0];show run _ (ln a,1)=_;rw[Vk,s1];show run _ (ln a,2)=_;rw[Vk,s2];rfl
  have hg:Cv (ln a)=some []:=by
   unfold Cv nd;rw[show(decide (0≤ln a)&&decide (ln a≤17592186044416))=true by unfold ln;simp;omega]
   rfl
  have t0:XO [a,[]] (ln [a,[]]) ([],0)=some (.inl (a,1)):=by
   have hrm:rm (([]:List Int).length+a.length) 8=true:=by unfold rm;exact Qf (by simp;omega)
   show(bif decide ((0:Int)<2)then nd (Q1 [a,[]] 0)<|nd (rm (([]:List Int).length+a.length) 8)<|some (Sum.inl ([]++a,QU (0+1)))else some (Sum.inr []))=_;rw[hrm];rfl
  have t1:XO [a,[]] (ln [a,[]]) (a,1)=some (.inl (a,2)):=by
   have hrm:rm (a.length+([]:List Int).length) 8=true:=by unfold rm;exact Qf (by simp;omega)
   show(bif decide ((1:Int)<2)then nd (Q1 [a,[]] 1)<|nd (rm (a.length+([]:List Int).length) 8)<|some (Sum.inl (a++[],QU (1+1)))else some (Sum.inr a))=_;rw[hrm,List.append_nil];rfl
  have t2:XO [a,[]] (ln [a,[]]) (a,2)=some (.inr a):=rfl;have r2:run (XO [a,[]] (ln [a,[]])) ([],0)=some a:=by
   rw[Vk,t0];show run _ (a,1)=_;rw[Vk,t1];show run _ (a,2)=_;rw[Vk,t2];rfl
  rw[r1];simp only[Qa,hg,r2]
 unfold Cz HY;have hsl:(Al a).length=a.length:=by unfold Al;simp
 rw[hrun];simp only[Qa,hc,hsl,show decide (a.length<4611686018427387904)=true from Qf (by omega),QL]
def n0(l:List Entry)(hl:l.length≤1048576):∃r,Cx l=some r∧Cz l=some r∧r.length≤2097152:=by
 obtain⟨r,h1,h2,h3,h4⟩:=gH l hl;obtain⟨q1,q2⟩:=rG (Lw l);have:Zz (Al (Lw l))=r:=uK q1 h2 λx=>(q2 x).trans (h3 x).symm
 exact⟨r,h1,by rw[iC l hl,this],h4⟩
def pu(x y:Int):QU (QU x+y)=QU (x+y):=by unfold QU;omega
def Qfh(x y:Int):QU (QU x-y)=QU (x-y):=by unfold QU;omega
def Qit(x y:Int):QU (QU x-QU y)=QU (x-y):=by unfold QU;omega
def ML(l:List Entry)(a:Int):Int:=(l.map λx=>if x.To=a then x.Qy else 0).sum
def GW(l:List Entry)(a:Int):Int:=(l.map λx=>if x.From=a then x.Qy else 0).sum
def ai(l:List Entry)(a:Int)(i:Nat)(h:i<l.length):ML (l.take (i+1)) a=ML (l.take i) a+(if l[i].To=a then l[i].Qy else 0):=by
 unfold ML;rw[List.take_succ_eq_append_getElem h,List.map_append,List.sum_append];rw[List.map_cons,List.map_nil,List.sum_cons,List.sum_nil,Int.add_zero]
def Sg(l:List Entry)(a:Int)(i:Nat)(h:i<l.length):GW (l.take (i+1)) a=GW (l.take i) a+(if l[i].From=a then l[i].Qy else 0):=by
 unfold GW;rw[List.take_succ_eq_append_getElem h,List.map_append,List.sum_append];rw[List.map_cons,List.map_nil,List.sum_cons,List.sum_nil,Int.add_zero]
def SA(l:List Entry)(a:Int)(hl:l.length≤1048576):∃v,Z6 l a=some v∧Z3 l a=some v:=by
 obtain⟨b,e1,e2,e3⟩:=Rk l hl;cases b with
 |false =>
  refine⟨0,?_,by unfold Z3;rw[e2];rfl⟩
  unfold Z6;rw[Vk];show Option.bind (Option.bind (Option.bind (bif decide ((0:Int)<ln l)then(Jz l).bind λr=>some r else some false) _) _) _=_
  rw[e1];by_cases h:(0:Int)<ln l
  ·rw[Qf h];rfl
  ·rw[Qe h];rfl
 |true =>
  refine⟨QU (ML l a-GW l a),?_,?_⟩
  ·unfold Z6
   have hr:run (AX l a) (0,0)=some (QU (ML l a-GW l a)):=by
    have:=J2 (step:=AX l a) (λi=>(QU (ML (l.take i) a-GW (l.take i) a),(i:Int))) (r:=QU (ML l a-GW l a)) l.length (λi hi=>by
      simp only[AX,Q0 hi,QP hi,Q3 hi,Qc,QL,e1,Qa,Vg (show(i:Int)<9223372036854775807 by omega),ai l a i hi,Sg l a i hi]
      by_cases h1:l[i].To=a<;>by_cases h2:l[i].From=a
      ·rw[Qf h1,Qf h2,if_pos h1,if_pos h2,Qc,Qc,pu,Qfh]
       exact congrArg (λz=>some (Sum.inl (QU z,_))) (by omega)
      ·rw[Qf h1,Qe h2,if_pos h1,if_neg h2,Qc,Qb,pu]
       exact congrArg (λz=>some (Sum.inl (QU z,_))) (by omega)
      ·rw[Qe h1,Qf h2,if_neg h1,if_pos h2,Qb,Qc,Qfh]
       exact congrArg (λz=>some (Sum.inl (QU z,_))) (by omega)
      ·rw[Qe h1,Qe h2,if_neg h1,if_neg h2,Qb,Qb]
       exact congrArg (λz=>some (Sum.inl (QU z,_))) (by omega))
     (by simp only[AX,Q6 (Qg _),Qb,Qa,List.take_length])
    simpa[ML,GW,QU]using this
   rw[hr];rfl
  ·unfold Z3 Kg HF
   have h1:run (AQ a l (ln l)) (0,0)=some (QU (ML l a)):=by
    have:=J2 (step:=AQ a l (ln l)) (λi=>(QU (ML (l.take i) a),(i:Int))) (r:=QU (ML l a)) l.length (λi hi=>by
      simp only[AQ,Q0 hi,QP hi,Q3 hi,Qc,QL,Vg (show(i:Int)<9223372036854775807 by omega),ai l a i hi]
      by_cases h1:l[i].To=a
      ·rw[Qf h1,if_pos h1,Qc,pu]
      ·rw[Qe h1,if_neg h1,Qb,Int.add_zero])
     (by simp only[AQ,Q6 (Qg _),Qb,List.take_length])
    simpa[ML,QU]using this
   have h2:run (Ze a l (ln l)) (0,0)=some (QU (GW l a)):=by
    have:=J2 (step:=Ze a l (ln l)) (λi=>(QU (GW (l.take i) a),(i:Int))) (r:=QU (GW l a)) l.length (λi hi=>by
      simp only[Ze,Q0 hi,QP hi,Q3 hi,Qc,QL,Vg (show(i:Int)<9223372036854775807 by omega),Sg l a i hi]
      by_cases h1:l[i].From=a
      ·rw[Qf h1,if_pos h1,Qc,pu]
      ·rw[Qe h1,if_neg h1,Qb,Int.add_zero])
     (by simp only[Ze,Q6 (Qg _),Qb,List.take_length])
    simpa[GW,QU]using this
   simp only[e2,h1,h2,Qa,Qh,Qb,Qit]
def lR(l:List Entry)(hl:l.length≤1048576):∀a,Z6 l a=Z3 l a:=λa=>by
 obtain⟨v,h1,h2⟩:=SA l a hl;rw[h1,h2]
def mo(h:Ql)(hs:QX h):∃c,Es h=some c∧Et h=some c:=by
 obtain⟨_,_,_,_,_,_,hb⟩:=hs;obtain⟨r,a1,a2,a3⟩:=n0 h.Book hb;have hl:BU h r=X6 h r (ln r):=by
  funext ⟨v,i⟩;simp only[BU,X6,lR h.Book hb]
 obtain⟨n,hn,_⟩:=Om (n:=r.length) (step:=X6 h r (ln r)) (fin:=λv=>v) (λ_ _=>True)
  (λi v hi _=>by
   obtain⟨x,_,hx⟩:=SA h.Book r[i] hb;exact⟨_,by simp only[X6,Q0 hi,QP hi,Q3 hi,Qc,QL,hx,Qa,Vg (show(i:Int)<9223372036854775807 by omega)];rfl,trivial⟩)
  (λv _=>by simp only[X6,Q6 (Qg _),Qb]) 0 trivial
 obtain⟨x,x1,x2⟩:=SA h.Book 0 hb;refine⟨bif decide (n=0)then decide (0≤x)else false,?_,?_⟩
 ·unfold Es
  simp only[a1,hl,hn,x1,Qa];cases decide (n=0)<;>rfl
 ·unfold Et
  simp only[a2,hn,x2,Qa];cases decide (n=0)<;>rfl
def nj(h:Ql)(hm:QX h)(ht:VV h=some true):(∀x∈h.Qs,1≤x.Id)∧h.Qw.length≤100∧XT h.Qw=some true∧XQ h.Qw=some true:=by
 obtain⟨m1,m2,m3,m4,m5,m6,m7⟩:=hm;obtain⟨f,f1,f2,f3⟩:=Sj h.Qt m1;obtain⟨s,s1,s2⟩:=P4 h.Qn m2.1 (λx hx=>m2.2 x hx)
 obtain⟨t,t1,t2,t3⟩:=TA h.Qs m3;obtain⟨c,c1,c2,c3⟩:=Kj h.Qv m4;obtain⟨n,n1,n2,n3⟩:=YU h.Qw;unfold VV at ht;simp only[QR,f1,s1,t1,c1,n1,Qa]at ht;cases hN:(decide (1≤h.No)&&decide (h.No≤9))with
 |false=>rw[hN]at ht;cases ht
 |true =>
 rw[hN]at ht;cases f with
 |false=>cases ht
 |true =>
 cases s with
 |false=>cases ht
 |true =>
 cases t with
 |false=>cases ht
 |true =>
 cases c with
 |false=>cases ht
 |true =>
 cases n with
 |false=>cases ht
 |true=>exact⟨(t3 rfl).2,(n3 rfl).1,n1,n2⟩
def Qd2(l:List Hand)(t:Int)(hl:l.length≤1048576):∃r,CH l t=some r∧decide (ln r=0)=decide (Jj l t l.length<0):=by
 have hr:=Fj l (λx=>decide (x.Qo=t)) (λx=>x) (step:=X8 l t)
  (λi out hi ho=>by
   have hrm:rm (out.length+1) 40=true:=by unfold rm;exact Qf (by omega)
   simp only[X8,Q0 hi,QP hi,Q3 hi,Vg (show(i:Int)<9223372036854775807 by omega),Qc,QL,hrm]
   cases decide (l[i].Qo=t)<;>rfl)
  (λout=>by simp only[X8,Q6 (Qg _),Qb])
 refine⟨(l.filter λx=>decide (x.Qo=t)).map λx=>x,by unfold CH;rw[hr];rfl,?_⟩
 rw[Bool.eq_iff_iff,decide_eq_true_eq,decide_eq_true_eq];unfold ln;rw[List.length_map];constructor
 ·intro h0
  rcases L2 l t l.length with h|⟨j,hj,h⟩
  ·omega
  ·exfalso
   obtain⟨_,q⟩:=Mz l t l.length j h;rw[Q3 hj]at q;have:l[j]∈l.filter λx=>decide (x.Qo=t):=List.mem_filter.2 ⟨List.getElem_mem hj,by simpa using q⟩
   have:=List.length_pos_of_mem this;omega
 ·intro h0
  cases hf:l.filter (λx=>decide (x.Qo=t))with
  |nil=>rfl
  |cons x r =>
   exfalso;have hx:x∈l.filter λx=>decide (x.Qo=t):=by rw[hf];simp
   obtain⟨h1,h2⟩:=List.mem_filter.1 hx;obtain⟨i,hi,rfl⟩:=List.mem_iff_getElem.1 h1;obtain⟨j,_,q⟩:=OD l t l.length i hi (by rw[Q3 hi];simpa using h2)
   omega
def kW(h:Ql)(hm:QX h)(ht:VV h=some true):∃c,Dv h=some c∧DH h=some c:=by
 obtain⟨hs,hl,c1,c2⟩:=nj h hm ht;obtain⟨m1,m2,m3,m4,m5,m6,m7⟩:=hm;obtain⟨r1,r2,a1,a2,a3,a4,a5⟩:=ru h.Qw h.No hl c1 c2;obtain⟨b,b1,b2,_⟩:=GK (n:=h.Qt.length) (r:=false) (s1:=Zm h r1) (s2:=Zo h r2 h.Qt (ln h.Qt)) (λi hi _=>by
   obtain⟨r,e1,e2⟩:=Qd2 h.Qw h.Qt[i].Qo.Id m6;obtain⟨c,d1,d2⟩:=ro h.Qs h.Qt[i].Qo.Id m3 hs;have hsw:=LW h.Qs h.Qt[i].Qo.Id m3;have hw:decide ((bif decide (h.Qt[i].Qo.Id=0)then -1 else DI h.Qs h.Qt[i].Qo.Id)<(0:Int))=decide (c=0):=by
    rw[d2];by_cases h0:h.Qt[i].Qo.Id=0
    ·rw[Qf h0];rfl
    ·rw[Qe h0]
     rcases Io h.Qs h.Qt[i].Qo.Id with⟨p1,p2⟩|⟨k,hk,p1,_,p2⟩
     ·rw[p1,Qb,p2];rfl
     ·rw[p2,Qb,p1,Qe (show ¬(k:Int)<0 by omega)];rfl
   have hin:decide (h.Qt[i].Qo.Id∈r1)=decide (h.Qt[i].Qo.Id∈r2):=by
    rw[Bool.eq_iff_iff,decide_eq_true_eq,decide_eq_true_eq];exact a3 _
   simp only[Zm,Zo,Q0 hi,QP hi,Q3 hi,Vg (show(i:Int)<9223372036854775807 by omega),Qc,QL,e1,e2,d1,hsw,hw,fJ h.Qw _ m6,
    QkM r1 _ (by omega),QhC r2 _ (by omega),hin,Qa]
   cases decide (Jj h.Qw h.Qt[i].Qo.Id h.Qw.length<0)<;>cases decide (c=0)<;>cases decide (h.Qt[i].Qo.Id∈r2)<;>first|exact⟨true,rfl,rfl⟩|exact⟨false,rfl,rfl⟩)
  (by simp only[Zm,Q6 (Qg _),Qb]) (by simp only[Zo,Q6 (Qg _),Qb])
 refine⟨b,?_,?_⟩
 ·unfold Dv
  simp only[a1,b1,Qa];cases b<;>rfl
 ·unfold DH
  simp only[a2,b2,Qa];cases b<;>rfl
def Qbn(h:Ql)(hm:QX h):∃c,FQ h=some c∧FU h=some c:=by
 obtain⟨b,b1,b2⟩:=gW h hm;unfold FQ FU;rw[b2];rw[b1];cases b with
 |false=>exact⟨_,rfl,rfl⟩
 |true =>
  obtain⟨c,c1,c2⟩:=kW h hm b1;obtain⟨d,d1,d2⟩:=sJ h hm;obtain⟨e,e1,e2⟩:=iw h hm;obtain⟨k,k1,k2⟩:=mo h hm;simp only[c1,c2,d1,d2,e1,e2,k1,k2,Qa];cases c<;>cases d<;>cases e<;>cases k<;>exact⟨_,rfl,rfl⟩
def py{n:Int}(h0:0≤n)(h1:n<256):IntKind.u8.wrap n=n:=by
 unfold IntKind.wrap;simp only[show IntKind.u8.bits=8 from rfl,show IntKind.u8.signed=false from rfl];simp;omega
def Qc7(n:Int):i64 (QU n):=by unfold i64 QU;omega
def xN(x:Int):-10<x.tmod 10∧x.tmod 10<10:=by
 refine⟨?_,Int.tmod_lt_of_pos x (by omega)⟩
 have h:=Int.tmod_lt_of_pos (-x) (b:=10) (by omega)
 rw[Int.neg_tmod]at h;omega
def CG{x y:List UInt8}(hx:x.length≤1000000000000)(hy:y.length≤1000000000000):VM x y=true:=by
 unfold VM;exact Qf (by omega)
def A9(x y:List UInt8):(QS x y).length=x.length+y.length:=by simp[QS]
def wy(vn x:Int)(s:List UInt8)(hx:x≠0)(hu:x.natAbs≤9223372036854775808)(hs:s.length≤100) :
  J9 vn (s,x)=some (.inl (UInt8.ofNat (48+x.natAbs%10)::s,x.tdiv 10)):=by
 obtain⟨b1,b2⟩:=xN x;have h1:(x.tmod 10).natAbs=x.natAbs%10:=Int.natAbs_tmod x 10;have h2:(x.tdiv 10).natAbs=x.natAbs / 10:=Int.natAbs_tdiv x 10;have ew:QU (x.tdiv 10)=x.tdiv 10:=VD (by omega) (by omega)
 have ez:(!decide (x=0))=true:=by simp[hx]
 simp only[J9,ez,ew,Qc];by_cases hn:x.tmod 10<0
 ·have e1:QU (-(x.tmod 10))=-(x.tmod 10):=VD (by omega) (by omega)
  have e2:QU (48+-(x.tmod 10))=48+-(x.tmod 10):=VD (by omega) (by omega)
  have e3:(48+-(x.tmod 10)).toNat=48+x.natAbs%10:=by omega
  rw[Qf hn,Qc,e1,e2,py (by omega) (by omega),e3,CG (by simp) (by omega)]
  rfl
 ·have e2:QU (48+x.tmod 10)=48+x.tmod 10:=VD (by omega) (by omega)
  have e3:(48+x.tmod 10).toNat=48+x.natAbs%10:=by omega
  rw[Qe hn,Qb,e2,py (by omega) (by omega),e3,CG (by simp) (by omega)]
  rfl
def QbS(vn:Int):∀(u:Nat) (x:Int) (s:List UInt8),x.natAbs=u→0<u→u≤9223372036854775808→s.length+Lib.nDigits u≤100→run (J9 vn) (s,x)=some (Lib.decDigits u++s):=by
 intro u
 induction u using Nat.strongRecOn with
 |_ u ih =>
  intro x s hx h0 h1 hs;have hpos:=Lib.nDigits_pos u;have h2:(x.tdiv 10).natAbs=x.natAbs / 10:=Int.natAbs_tdiv x 10;rw[Vk,wy vn x s (by omega) (by omega) (by omega)]
  show run (J9 vn) (UInt8.ofNat (48+x.natAbs%10)::s,x.tdiv 10)=_;by_cases hu:u<10
  ·have hz:x.tdiv 10=0:=by omega
   rw[hz,Vk,Lib.decDigits,dif_pos hu,hx,Nat.mod_eq_of_lt hu];rfl
  ·rw[ih (u / 10) (by omega) (x.tdiv 10) _ (by omega) (by omega) (by omega) (by
    rw[Lib.nDigits_big hu]at hs;simp only[List.length_cons];omega),hx]
   conv=>rhs;rw[Lib.decDigits,dif_neg hu]
   simp
def J8(n:Int)(h:i64 n):Q4 n=some (Lib.itoa n):=by
 unfold i64 at h;unfold Q4;by_cases h0:n=0
 ·subst h0
  have e:Lib.itoa 0=[48]:=by
   unfold Lib.itoa;rw[if_neg (by omega),show(0:Int).toNat=0 from rfl,Lib.decDigits,dif_pos (by omega)]
   rfl
  rw[e];rfl
 ·have hd:=Lib.nDigits_le20 n.natAbs (by omega)
  rw[Qe h0,Qb,QbS n n.natAbs n [] rfl (by omega) (by omega) (by simp only[List.length_nil];omega),List.append_nil]
  simp only[Qa];by_cases hn:n<0
  ·rw[Qf hn,Qc,CG (by simp) (by rw[Lib.decDigits_length];omega)]
   unfold Lib.itoa;rw[if_pos hn];rfl
  ·rw[Qe hn,Qb]
   unfold Lib.itoa;rw[if_neg hn,show n.natAbs=n.toNat by omega]
def A8(n:Int)(h:i64 n):Vi n=some (Lib.itoa n):=by
 unfold i64 at h;unfold Vi strconv_Itoa;rw[Qf h.1,Qf h.2];rfl
def VN(n:Int)(h:i64 n):(Lib.itoa n).length≤21:=Lib.itoa_length_le n h.1 h.2
def MW(L:List (List UInt8)):Prop:=L.length≤1048576∧∀x∈L,x.length≤200
def Sx(sep:List UInt8)(hsep:sep.length=1):∀(L:List (List UInt8)),(∀x∈L,x.length≤200)→(Lib.joinTail sep L).length≤L.length*201
 |[],_=>by simp[Lib.joinTail]
 |x::L,h=>by
  have h1:=Sx sep hsep L λy hy=>h y (by simp[hy])
  have h2:=h x (by simp)
  have e:Lib.joinTail sep (x::L)=sep++x++Lib.joinTail sep L:=by simp[Lib.joinTail]
  rw[e];simp only[List.length_append,List.length_cons,hsep];omega
def T5(sep:List UInt8)(hsep:sep.length=1):∀(L:List (List UInt8)),(∀x∈L,x.length≤200)→(Lib.join L sep).length≤L.length*201
 |[],_=>by rw[Lib.join_nil];simp
 |x::L,h=>by
  rw[Lib.join_cons];have h1:=Sx sep hsep L λy hy=>h y (by simp[hy])
  have h2:=h x (by simp)
  simp only[List.length_append,List.length_cons];omega
def rX(sep:List UInt8)(L:List (List UInt8))(i:Nat)(h:i+1<L.length):Lib.join (L.take (i+1+1)) sep=Lib.join (L.take (i+1)) sep++sep++L[i+1]:=by
 cases L with
 |nil=>simp at h
 |cons x r =>
  have hr:i<r.length:=by simpa using h
  rw[List.take_succ_cons,List.take_succ_cons,Lib.join_cons,Lib.join_cons,Lib.joinTail_take_succ sep r i r[i] (List.getElem?_eq_getElem hr)];simp[List.append_assoc]
def mw{L:List (List UInt8)}(h:∀x∈L,x.length≤200)(i:Nat):∀x∈L.take i,x.length≤200:=λx hx=>h x (List.mem_of_mem_take hx)
def eJ(c:UInt8)(L:List (List UInt8))(hL:MW L){step:List UInt8×Int→Option ((List UInt8×Int)⊕List UInt8)}
  (h1:∀(i:Nat) (s:List UInt8) (h:i<L.length),s.length≤300000000→step (s,(i:Int))=some (.inl (if 0<i then QS (QS s [c]) L[i]else QS s L[i],((i+1:Nat):Int)))) (h2:∀s,step (s,(L.length:Int))=some (.inr s)) :
  run step ([],0)=some (Lib.join L [c]):=by
 obtain⟨hl,hx⟩:=hL;have:=J2 (step:=step) (λi=>(Lib.join (L.take i) [c],(i:Int))) (r:=Lib.join L [c]) L.length (λi hi=>by
  have hb:=T5 [c] rfl (L.take i) (mw hx i);have ht:(L.take i).length=i:=by simp;omega
  rw[ht]at hb;rw[h1 i _ hi (by omega)]
  cases i with
  |zero =>
   rw[if_neg (by omega)]
   congr 3;rw[List.take_zero,Lib.join_nil,List.take_succ_eq_append_getElem hi,List.take_zero];simp[QS,Lib.join_one]
  |succ i =>
   rw[if_pos (by omega),rX [c] L i hi]
   rfl) (by rw[h2,List.take_length])
 simpa[Lib.join_nil]using this
def lH(L:List (List UInt8))(hL:MW L){step:List UInt8×Int→Option ((List UInt8×Int)⊕List UInt8)}
  (h1:∀(i:Nat) (s:List UInt8) (h:i<L.length),s.length≤300000000→step (s,(i:Int))=some (.inl (if 0<i then QS (QS s [32]) L[i]else QS s L[i],((i+1:Nat):Int)))) (h2:∀s,step (s,(L.length:Int))=some (.inr s)) :
  run step ([],0)=some (Lib.join L [32]):=eJ 32 L hL h1 h2
def H0(L:List (List UInt8)):List UInt8:=if L=[]then[45]else Lib.join L [32]
def UU(L:List (List UInt8))(hL:MW L):DY L=some (H0 L):=by
 have hr:=lH L hL (step:=Cj L) (λi s hi hs=>by
   have hx:=hL.2 L[i] (List.getElem_mem hi);have hl:=hL.1;simp only[Cj,Q0 hi,QP hi,Q3 hi,Vg (show(i:Int)<9223372036854775807 by omega),Qc,QL]
   by_cases h0:0<i
   ·have e2:(QS s [32]).length≤1000000000000:=by rw[A9];simp only[List.length_cons,List.length_nil];omega
    rw[Qf (show(0:Int)<i by omega),Qc,CG (x:=s) (y:=[32]) (by omega) (by simp),CG (x:=QS s [32]) (y:=L[i]) e2 (by omega),if_pos h0]
    rfl
   ·rw[Qe (show ¬(0:Int)<i by omega),Qb,CG (x:=s) (y:=L[i]) (by omega) (by omega),if_neg h0]
    rfl)
  (λs=>by simp only[Cj,Q6 (Qg _),Qb])
 unfold DY H0;rw[hr];cases L with
 |nil=>rfl
 |cons x L =>
  rw[if_neg (by simp)]
  simp only[Qa,show decide (ln (x::L)=0)=false from Qe (by rw[Vp];simp;omega),Qb]
def U5(L:List (List UInt8))(hL:MW L):strings_Join L [32]=some (Lib.join L [32]):=by
 have hb:=T5 [32] rfl L hL.2;have hl:=hL.1;unfold strings_Join;rw[Qf (by omega),Qf (by omega)];rfl
def UV(L:List (List UInt8))(hL:MW L):FH L=some (H0 L):=by
 unfold FH H0;cases L with
 |nil=>rfl
 |cons x L =>
  rw[if_neg (by simp),U5 _ hL]
  simp only[Qa,show decide (ln (x::L)=0)=false from Qe (by rw[Vp];simp;omega),Qb]
def Bg{α:Type}(l:List α)(f:α→List UInt8){step:List (List UInt8)×Int→Option ((List (List UInt8)×Int)⊕List (List UInt8))}
  (h1:∀(i:Nat) (out:List (List UInt8)) (h:i<l.length),out.length≤i→step (out,(i:Int))=some (.inl (out++[f l[i]],((i+1:Nat):Int)))) (h2:∀out,step (out,(l.length:Int))=some (.inr out)) :
  run step ([],0)=some (l.map f):=by
 have:=Fj l (λ_=>true) f (step:=step) (λi out h ho=>by rw[h1 i out h ho];rfl) h2
 rw[this,List.filter_eq_self.2 (λ_ _=>rfl)]
def LC{α:Type}{l:List α}{f:α→List UInt8}(hl:l.length≤1048576)(h:∀x∈l,(f x).length≤200):MW (l.map f):=by
 refine⟨by rw[List.length_map];exact hl,λy hy=>?_⟩
 obtain⟨x,hx,rfl⟩:=List.mem_map.1 hy;exact h x hx
def ck(l:List Int)(hl:l.length≤1048576)(hx:∀x∈l,i64 x):X4 l=some (H0 (l.map Lib.itoa))∧XJ l=some (H0 (l.map Lib.itoa)):=by
 have hsh:MW (l.map Lib.itoa):=LC hl λx h=>Nat.le_trans (VN x (hx x h)) (by omega)
 have hs:=Bg l Lib.itoa (step:=Jm l) (λi out hi ho=>by
   simp only[Jm,Q0 hi,QP hi,Q3 hi,Vg (show(i:Int)<9223372036854775807 by omega),VU (show out.length+1≤2000000 by omega) (show 16≤1024 by omega),Qc,QL,J8 _ (hx _ (List.getElem_mem hi)),Qa])
  (λout=>by simp only[Jm,Q6 (Qg _),Qb])
 have hi:=Bg l Lib.itoa (step:=Jn l (ln l)) (λi out hi ho=>by
   simp only[Jn,Q0 hi,QP hi,Q3 hi,Vg (show(i:Int)<9223372036854775807 by omega),VU (show out.length+1≤2000000 by omega) (show 16≤1024 by omega),Qc,QL,A8 _ (hx _ (List.getElem_mem hi)),Qa])
  (λout=>by simp only[Jn,Q6 (Qg _),Qb])
 refine⟨?_,?_⟩
 ·unfold X4;rw[hs];simp only[Qa,UU _ hsh]
 ·unfold XJ;rw[hi];simp only[Qa,UV _ hsh]
def Lt(l:List Int)(hl:l.length≤1048576)(hx:∀x∈l,i64 x):∃r,X4 l=some r∧XJ l=some r:=⟨_,ck l hl hx⟩
def lE(h:Ql)(h1:i64 h.No)(h2:i64 h.Now)(h3:h.Qt.length≤1048576)(h4:h.Qv.length≤1048576)(h5:h.Qw.length≤1048576)(h6:h.Book.length≤1048576):∃r,BH h=some r∧Bw h=some r:=by
 have hlen:∀{α:Type} (l:List α),l.length≤1048576→i64 (ln l):=λl hl=>by unfold i64;rw[Vp];omega
 obtain⟨r,r1,r2⟩:=Lt [h.No,h.Now,ln h.Qt,ln h.Qv,ln h.Qw,ln h.Book] (by simp) (by
  intro x hx;simp only[List.mem_cons,List.not_mem_nil,or_false]at hx
  rcases hx with rfl|rfl|rfl|rfl|rfl|rfl
  ·exact h1
  ·exact h2
  ·exact hlen _ h3
  ·exact hlen _ h4
  ·exact hlen _ h5
  ·exact hlen _ h6)
 exact⟨r,by unfold BH;rw[r1];rfl,by unfold Bw;rw[r2];rfl⟩
def lD(c:Int):∃r,Dk c=some r∧Df c=some r:=by
 have big:∀{x:List UInt8},x.length≤100→∀{y:List UInt8},y.length≤100→VM x y=true:=λhx _ hy=>CG (by omega) (by omega)
 have hm:∀n:Int,i64 (n.tmod 10):=λn=>by have:=xN n;unfold i64;omega
 have hw:=Qc7;have tail:∀(s:List UInt8) (a b d:Int),s.length≤1→i64 a→i64 b→i64 d→∃r,
   ((Q4 a).bind λr2=>nd (VM s r2)<|nd (VM (QS s r2) [46])<|(Q4 b).bind λr3=>nd (VM (QS (QS s r2) [46]) r3)<|(Q4 d).bind λr4=>nd (VM (QS (QS (QS s r2) [46]) r3) r4)<|some (QS (QS (QS (QS s r2) [46]) r3) r4))=some r ∧
   ((Vi a).bind λr2=>nd (VM s r2)<|nd (VM (QS s r2) [46])<|(Vi b).bind λr3=>nd (VM (QS (QS s r2) [46]) r3)<|(Vi d).bind λr4=>nd (VM (QS (QS (QS s r2) [46]) r3) r4)<|some (QS (QS (QS (QS s r2) [46]) r3) r4))=some r:=by
  intro s a b d hs ha hb hd;have la:=VN a ha;have lb:=VN b hb;have ld:=VN d hd;have l2:(QS s (Lib.itoa a)).length≤22:=by rw[A9];omega
  have l3:(QS (QS s (Lib.itoa a)) [46]).length≤23:=by rw[A9];simp only[List.length_cons,List.length_nil];omega
  have l4:(QS (QS (QS s (Lib.itoa a)) [46]) (Lib.itoa b)).length≤44:=by rw[A9];omega
  simp only[J8 a ha,J8 b hb,J8 d hd,A8 a ha,A8 b hb,A8 d hd,Qa,big (show s.length≤100 by omega) (show(Lib.itoa a).length≤100 by omega),
   big (show(QS s (Lib.itoa a)).length≤100 by omega) (show([46]:List UInt8).length≤100 by simp),big (show(QS (QS s (Lib.itoa a)) [46]).length≤100 by omega) (show(Lib.itoa b).length≤100 by omega),
   big (show(QS (QS (QS s (Lib.itoa a)) [46]) (Lib.itoa b)).length≤100 by omega) (show(Lib.itoa d).length≤100 by omega),QL]
  exact⟨_,rfl,rfl⟩
 unfold Dk Df QR QO;simp only[Qa];cases (decide (-1000000000≤c)&&decide (c≤1000000000))with
 |false=>exact⟨[],rfl,rfl⟩
 |true =>
  simp only[Qh,Qb];cases decide (c<0)with
  |true=>exact tail [45] _ _ _ (by simp) (hw _) (hm _) (hm _)
  |false=>exact tail [] _ _ _ (by simp) (hw _) (hm _) (hm _)
def d5{x y:List UInt8}(hx:x.length≤150)(hy:y.length≤150):VM x y=true:=CG (by omega) (by omega)
def rD(c:UInt8):([c]:List UInt8).length≤150:=by simp
def WD(x:Qr):List UInt8:=QS (QS (Lib.itoa x.Id) [58]) (bif !decide (x.Qo=0)then Lib.itoa x.Qo else[46])
def rJ(x:Qr)(h1:i64 x.Id)(h2:i64 x.Qo):(WD x).length≤200:=by
 have a:=VN _ h1;have b:=VN _ h2;unfold WD;cases (!decide (x.Qo=0))<;>simp only[Qc,Qb,A9,List.length_cons,List.length_nil]<;>omega
def jl(l:List Qr)(hl:l.length≤1048576)(hx:∀x∈l,i64 x.Id∧i64 x.Qo):∃r,Bt l=some r∧Bx l=some r:=by
 have hsh:MW (l.map WD):=LC hl λx h=>rJ x (hx x h).1 (hx x h).2
 have fits:∀{a b:List UInt8},a.length≤21→b.length≤21→VM a [58]=true∧VM (QS a [58]) b=true:=λ{a b} ha hb =>
  ⟨d5 (by omega) (rD _),d5 (by rw[A9];simp only[List.length_cons,List.length_nil];omega) (by omega)⟩
 have hs:=Bg l WD (step:=Zl l) (λi out hi ho=>by
   have hm:=hx _ (List.getElem_mem hi);have a:=VN _ hm.1;have b:=VN _ hm.2;simp only[Zl,Q0 hi,QP hi,Q3 hi,Vg (show(i:Int)<9223372036854775807 by omega),VU (show out.length+1≤2000000 by omega) (show 16≤1024 by omega),Qc,QL,J8 _ hm.1,J8 _ hm.2,Qa,
    (fits a b).1,(fits a b).2,(fits a (show([46]:List UInt8).length≤21 by simp)).2,WD]
   cases decide (l[i].Qo=0)<;>rfl)
  (λout=>by simp only[Zl,Q6 (Qg _),Qb])
 have hi:=Bg l WD (step:=Zs l (ln l)) (λi out hi ho=>by
   have hm:=hx _ (List.getElem_mem hi);have a:=VN _ hm.1;have b:=VN _ hm.2;simp only[Zs,Q0 hi,QP hi,Q3 hi,Vg (show(i:Int)<9223372036854775807 by omega),VU (show out.length+1≤2000000 by omega) (show 16≤1024 by omega),Qc,QL,A8 _ hm.1,A8 _ hm.2,Qa,
    (fits a b).1,(fits a b).2,(fits a (show([46]:List UInt8).length≤21 by simp)).2,WD]
   cases decide (l[i].Qo=0)<;>rfl)
  (λout=>by simp only[Zs,Q6 (Qg _),Qb])
 refine⟨H0 (l.map WD),?_,?_⟩
 ·unfold Bt;rw[hs];simp only[Qa,UU _ hsh]
 ·unfold Bx;rw[hi];simp only[Qa,UV _ hsh]
def aU(x:Qu):List UInt8:=bif decide (0≤x.State)&&decide (x.State≤3)then cut [111,112,102,115] x.State (QU (x.State+1))else[63]
def NF(x:Qu):List UInt8:=QS (QS (QS (QS (QS (Lib.itoa x.Id) [58]) (Lib.itoa x.QA)) [62]) (Lib.itoa x.Qo)) (aU x)
def lV{α:Type}(l:List α)(a b:Int):(cut l a b).length≤l.length:=by
 unfold cut;simp;omega
def mU(x:Qu):(aU x).length≤4:=by
 unfold aU;cases (decide (0≤x.State)&&decide (x.State≤3))with
 |true=>exact lV _ _ _
 |false=>simp
def mQ(x:Qu)(h1:i64 x.Id)(h2:i64 x.QA)(h3:i64 x.Qo):(NF x).length≤200:=by
 have a:=VN _ h1;have b:=VN _ h2;have c:=VN _ h3;have d:=mU x;unfold NF;simp only[A9,List.length_cons,List.length_nil];omega
def Mt{a b c d:List UInt8}(ha:a.length≤21)(hb:b.length≤21)(hc:c.length≤21)(hd:d.length≤21) :
  VM a [58]=true∧VM (QS a [58]) b=true∧VM (QS (QS a [58]) b) [62]=true∧VM (QS (QS (QS a [58]) b) [62]) c=true∧VM (QS (QS (QS (QS a [58]) b) [62]) c) d=true:=by
 refine⟨d5 ?_ ?_,d5 ?_ ?_,d5 ?_ ?_,d5 ?_ ?_,d5 ?_ ?_⟩<;>(try simp only[A9,List.length_cons,List.length_nil])<;>omega
def gY(l:List Qu)(hl:l.length≤1048576)(hx:∀x∈l,i64 x.Id∧i64 x.QA∧i64 x.Qo):∃r,AG l=some r∧AD l=some r:=by
 have hsh:MW (l.map NF):=LC hl λx h=>mQ x (hx x h).1 (hx x h).2.1 (hx x h).2.2
 have hslB:∀s:Int,(decide (0≤s)&&decide (s≤3))=true→Ff s (QU (s+1)) (ln [111,112,102,115])=true:=by
  intro s hs;simp only[Bool.and_eq_true,decide_eq_true_eq]at hs;rw[VD (by omega) (by omega)]
  unfold Ff;rw[Vp];simp;omega
 have hs:=Bg l NF (step:=JM l) (λi out hi ho=>by
   obtain⟨m1,m2,m3⟩:=hx _ (List.getElem_mem hi);have a:=VN _ m1;have b:=VN _ m2;have c:=VN _ m3;obtain⟨f1,f2,f3,f4,f5⟩:=Mt a b c (show(cut [111,112,102,115] l[i].State (QU (l[i].State+1))).length≤21 from Nat.le_trans (lV _ _ _) (by simp))
   obtain⟨_,_,_,_,f6⟩:=Mt a b c (show([63]:List UInt8).length≤21 by simp)
   have hsl:=hslB l[i].State;simp only[JM,Q0 hi,QP hi,Q3 hi,Vg (show(i:Int)<9223372036854775807 by omega),VU (show out.length+1≤2000000 by omega) (show 16≤1024 by omega),Qc,QL,J8 _ m1,J8 _ m2,J8 _ m3,Qa,
    f1,f2,f3,f4,f5,f6,NF,aU,QR]
   cases hst:(decide (0≤l[i].State)&&decide (l[i].State≤3))with
   |false=>rfl
   |true=>rw[hsl hst];rfl)
  (λout=>by simp only[JM,Q6 (Qg _),Qb])
 have hi:=Bg l NF (step:=JO l (ln l)) (λi out hi ho=>by
   obtain⟨m1,m2,m3⟩:=hx _ (List.getElem_mem hi);have a:=VN _ m1;have b:=VN _ m2;have c:=VN _ m3;obtain⟨f1,f2,f3,f4,f5⟩:=Mt a b c (show(cut [111,112,102,115] l[i].State (QU (l[i].State+1))).length≤21 from Nat.le_trans (lV _ _ _) (by simp))
   obtain⟨_,_,_,_,f6⟩:=Mt a b c (show([63]:List UInt8).length≤21 by simp)
   have hsl:=hslB l[i].State;simp only[JO,Q0 hi,QP hi,Q3 hi,Vg (show(i:Int)<9223372036854775807 by omega),VU (show out.length+1≤2000000 by omega) (show 16≤1024 by omega),Qc,QL,A8 _ m1,A8 _ m2,A8 _ m3,Qa,
    f1,f2,f3,f4,f5,f6,NF,aU,QO]
   cases hst:(decide (0≤l[i].State)&&decide (l[i].State≤3))with
   |false=>rfl
   |true=>rw[hsl hst];rfl)
  (λout=>by simp only[JO,Q6 (Qg _),Qb])
 refine⟨H0 (l.map NF),?_,?_⟩
 ·unfold AG;rw[hs];simp only[Qa,UU _ hsh]
 ·unfold AD;rw[hi];simp only[Qa,UV _ hsh]
def jo(h:Int):∃c,Zw h=some c∧Ch h=some c∧c.length≤6:=by
 by_cases hk:1≤h∧h≤5
 ·obtain⟨h2,h3⟩:=hk
  have:h=1∨h=2∨h=3∨h=4∨h=5:=by omega
  rcases this with rfl|rfl|rfl|rfl|rfl<;>exact⟨_,rfl,rfl,by decide⟩
 ·have e:(decide (1≤h)&&decide (h≤5))=false:=by
   by_cases h2:1≤h
   ·have h3:¬h≤5:=by omega
    simp[h2,h3]
   ·simp[h2]
  exact⟨[],by unfold Zw QR;simp[e],by unfold Ch QO;simp[e],by simp⟩
def L1(h:Int):List UInt8:=(Zw h).getD []
def dr(h:Int):Zw h=some (L1 h)∧Ch h=some (L1 h)∧(L1 h).length≤6:=by
 obtain⟨c,h1,h2,h3⟩:=jo h;unfold L1;rw[h1,h2];exact⟨rfl,rfl,h3⟩
def N1(x:Hand):List UInt8:=QS (QS (QS (L1 x.Qx) (Lib.itoa x.QA)) [43]) (Lib.itoa x.At)
def rU(x:Hand)(h1:i64 x.QA)(h2:i64 x.At):(N1 x).length≤200:=by
 have a:=VN _ h1;have b:=VN _ h2;have c:=(dr x.Qx).2.2;unfold N1;simp only[A9,List.length_cons,List.length_nil];omega
def vu(l:List Hand)(t:Int)(h:l.length≤1048576):CH l t=some (l.filter λx=>decide (x.Qo=t))∧Hn l t=some (l.filter λx=>decide (x.Qo=t)):=by
 have hr:=Fj l (λx=>decide (x.Qo=t)) (λx=>x) (step:=X8 l t) (λi out hi ho=>by
   simp only[X8,Q0 hi,QP hi,Q3 hi,Vg (show(i:Int)<9223372036854775807 by omega),VU (show out.length+1≤2000000 by omega) (show 40≤1024 by omega),Qc,QL]
   cases decide (l[i].Qo=t)<;>rfl)
  (λout=>by simp only[X8,Q6 (Qg _),Qb])
 rw[List.map_id']at hr;exact⟨by unfold CH;rw[hr];rfl,by unfold Hn;rw[show GV t l (ln l)=X8 l t from rfl,hr];rfl⟩
def nH(a b c:List UInt8):QS (QS a b) c=QS a (QS b c):=by simp[QS]
def QbH(l:List Hand)(t:Int)(hl0:l.length≤1048576)(hx0:∀x∈l,i64 x.QA∧i64 x.At):∃r,FO l t=some r∧FZ l t=some r:=by
 obtain⟨e1,e2⟩:=vu l t hl0;have hl:(l.filter λx=>decide (x.Qo=t)).length≤1048576:=Nat.le_trans (List.length_filter_le _ _) hl0
 have hx:∀x∈l.filter (λx=>decide (x.Qo=t)),i64 x.QA∧i64 x.At:=λx h=>hx0 x (List.mem_filter.1 h).1
 generalize l.filter (λx=>decide (x.Qo=t))=m at e1 e2 hl hx
 have hsh:MW (m.map N1):=LC hl λx h=>rU x (hx x h).1 (hx x h).2
 have hi:=Bg m N1 (step:=Ca m (ln m)) (λi out hi ho=>by
   obtain⟨m1,m2⟩:=hx _ (List.getElem_mem hi);have a:=VN _ m1;have b:=VN _ m2;obtain⟨_,q2,q3⟩:=dr m[i].Qx;have f1:VM (L1 m[i].Qx) (Lib.itoa m[i].QA)=true:=d5 (by omega) (by omega)
   have f2:VM (QS (L1 m[i].Qx) (Lib.itoa m[i].QA)) [43]=true:=d5 (by rw[A9];omega) (rD _)
   have f3:VM (QS (QS (L1 m[i].Qx) (Lib.itoa m[i].QA)) [43]) (Lib.itoa m[i].At)=true:=d5 (by rw[A9,A9];simp only[List.length_cons,List.length_nil];omega) (by omega)
   simp only[Ca,Q0 hi,QP hi,Q3 hi,Vg (show(i:Int)<9223372036854775807 by omega),VU (show out.length+1≤2000000 by omega) (show 16≤1024 by omega),Qc,QL,A8 _ m1,A8 _ m2,q2,Qa,f1,f2,f3]
   rfl)
  (λout=>by simp only[Ca,Q6 (Qg _),Qb])
 have hs:=lH (m.map N1) hsh (step:=Cq m) (λi s hi hs=>by
   have him:i<m.length:=by simpa using hi
   obtain⟨m1,m2⟩:=hx _ (List.getElem_mem him);have a:=VN _ m1;have b:=VN _ m2;obtain⟨q1,_,q3⟩:=dr m[i].Qx;have eg:(m.map N1)[i]=N1 m[i]:=by simp
   have fit:∀{x y:List UInt8},x.length≤400000000→y.length≤400000000→VM x y=true:=λh1 h2=>CG (by omega) (by omega)
   have ends:∀p:List UInt8,p.length≤300000001→VM p (L1 m[i].Qx)=true∧VM (QS p (L1 m[i].Qx)) (Lib.itoa m[i].QA)=true∧VM (QS (QS p (L1 m[i].Qx)) (Lib.itoa m[i].QA)) [43]=true ∧
     VM (QS (QS (QS p (L1 m[i].Qx)) (Lib.itoa m[i].QA)) [43]) (Lib.itoa m[i].At)=true:=by
    intro p hp;refine⟨fit ?_ ?_,fit ?_ ?_,fit ?_ ?_,fit ?_ ?_⟩<;>(try simp only[A9,List.length_cons,List.length_nil])<;>omega
   have asc:∀p:List UInt8,QS (QS (QS (QS p (L1 m[i].Qx)) (Lib.itoa m[i].QA)) [43]) (Lib.itoa m[i].At)=QS p (N1 m[i]):=λp=>by unfold N1;simp only[nH]
   simp only[Cq,Q0 him,QP him,Q3 him,Vg (show(i:Int)<9223372036854775807 by omega),Qc,QL,J8 _ m1,J8 _ m2,q1,Qa,eg]
   by_cases h0:0<i
   ·obtain⟨g1,g2,g3,g4⟩:=ends (QS s [32]) (by rw[A9];simp only[List.length_cons,List.length_nil];omega)
    rw[Qf (show(0:Int)<i by omega),if_pos h0,fit (x:=s) (y:=[32]) (by omega) (by simp)]
    simp only[Qc,QL,g1,g2,g3,g4,asc]
   ·obtain⟨g1,g2,g3,g4⟩:=ends s (by omega)
    rw[Qe (show ¬(0:Int)<i by omega),if_neg h0]
    simp only[Qb,QL,g1,g2,g3,g4,asc])
  (λs=>by
   rw[List.length_map];simp only[Cq,Q6 (Qg _),Qb])
 refine⟨H0 (m.map N1),?_,?_⟩
 ·unfold FO
  rw[e1];simp only[Qa];rw[hs];unfold H0;cases m with
  |nil=>rfl
  |cons x m =>
   rw[if_neg (by simp)]
   simp only[Qa,show decide (ln (x::m)=0)=false from Qe (by rw[Vp];simp;omega),Qb]
 ·unfold FZ
  rw[e2];simp only[Qa];rw[hi];unfold H0;cases m with
  |nil=>rfl
  |cons x m =>
   rw[if_neg (by simp)]
   simp only[Qa,U5 _ hsh,show decide (ln ((x::m).map N1)=0)=false from Qe (by rw[Vp];simp;omega),Qb]
def oF{n:Nat}(f:Nat→Int)(h:∀i,i<n→0<i→f (i-1)<f i):∀j i,i<j→j<n→f i<f j:=by
 intro j
 induction j with
 |zero=>intro i h1 _;omega
 |succ j ih =>
  intro i h1 h2;have h3:=h (j+1) h2 (by omega)
  rw[show j+1-1=j by omega]at h3
  by_cases hij:i=j
  ·subst hij;exact h3
  ·have:=ih i (by omega) (by omega);omega
def Mo(l:List Qr)(h:∀i (hi:i<l.length) (h0:0<i),(l[i-1]'(by omega)).Id<l[i].Id)(i j:Nat)(hi:i<l.length)(hj:j<l.length)(he:l[i].Id=l[j].Id):i=j:=by
 have hu:=oF (n:=l.length) (λi=>(gt l (i:Int)).Id) (λi h1 h2=>by
  show(gt l ((i-1:Nat):Int)).Id<(gt l (i:Int)).Id;rw[Q3 h1,Q3 (show i-1<l.length by omega)];exact h i h1 h2)
 by_cases h1:i<j
 ·have:=hu j i h1 hj
  simp only[Q3 hi,Q3 hj]at this;omega
 ·by_cases h2:j<i
  ·have:=hu i j h2 hi
   simp only[Q3 hi,Q3 hj]at this;omega
  ·omega
def Y1(l:List Qr)(t:Int)(hl:l.length≤1048576):Zt l t=some (bif decide (t=0)||decide (DI l t<0)then 0 else(gt l (DI l t)).Id):=by
 have hr:=Jo l (λx=>!decide (t=0)&&decide (x.Qo=t)) (λi=>(gt l (i:Int)).Id) (step:=J3 l t)
  (λi hi=>by
   simp only[J3,Q0 hi,QP hi,Q3 hi,Vg (show(i:Int)<9223372036854775807 by omega),Qc,QL]
   cases decide (t=0)<;>cases decide (l[i].Qo=t)<;>rfl)
  (by simp only[J3,Q6 (Qg _),Qb])
 unfold Zt DI;rw[hr];cases decide (t=0)with
 |true =>
  have:l.findIdx? (λx=>!true&&decide (x.Qo=t))=none:=by rw[List.findIdx?_eq_none_iff];intro x _;rfl
  rw[this];rfl
 |false =>
  have e:(λx:Qr=>!false&&decide (x.Qo=t))=(λx:Qr=>decide (x.Qo=t)):=by funext x;simp
  rw[e];cases l.findIdx? (λx=>decide (x.Qo=t))with
  |none=>rfl
  |some i =>
   simp only[Qa,J1,Bool.false_or,Qe (show ¬(i:Int)<0 by omega),Qb]
def E3(l:List Qr)(t:Int):Bool:=!(decide (t=0)||decide (DI l t<0))
def KX(l:List Qr)(t:Int)(hl:l.length≤1048576):∃c,X7 l t=some c∧decide (c<0)=!E3 l t:=by
 rw[LW l t hl];unfold E3;cases decide (t=0)with
 |true=>exact⟨-1,rfl,rfl⟩
 |false=>exact⟨DI l t,rfl,by simp⟩
def oB(l:List Hand)(x:Hand)(hl:l.length≤1048576):∃r,F5 l x=some r∧Gb l x=some r∧r.1.length≤1048576:=by
 have hrm:rm (0+l.length) 40=true:=VU (by omega) (by omega)
 have hrm1:rm (l.length+1) 40=true:=VU (by omega) (by omega)
 unfold F5 Gb XW;have tail:∀s:Int,∃r,((Bm s x).bind λr=>nd (rm (0+l.length) 40)<|nd (rm (l.length+1) 40)<|(XT (l++[(⟨x.Qo,x.Qx,x.QA,x.At,r⟩:Hand)])).bind λr2=>(bif !r2 then nd (rm (0+l.length) 40)<|some (l,false)else some (l++[(⟨x.Qo,x.Qx,x.QA,x.At,r⟩:Hand)],true)))=some r ∧
   ((ZY s x).bind λr=>(nd (rm (0+l.length) 40)<|some l).bind λr2=>nd (rm (r2.length+1) 40)<|(XQ (r2++[(⟨x.Qo,x.Qx,x.QA,x.At,r⟩:Hand)])).bind λr3=>(bif !r3 then(nd (rm (0+l.length) 40)<|some l).bind λr4=>some (r4,false)else some (r2++[(⟨x.Qo,x.Qx,x.QA,x.At,r⟩:Hand)],true)))=some r∧r.1.length≤1048576:=by
  intro s;obtain⟨c,c1,c2⟩:=aJ s x;obtain⟨b,b1,b2,b3⟩:=YU (l++[(⟨x.Qo,x.Qx,x.QA,x.At,c⟩:Hand)]);simp only[c1,c2,Qa,hrm,hrm1,QL,b1,b2];cases b with
  |false=>exact⟨(l,false),rfl,rfl,hl⟩
  |true=>exact⟨_,rfl,rfl,by have:=(b3 rfl).1;show(l++_).length≤_;omega⟩
 by_cases h0:0<l.length
 ·simp only[show decide (0<ln l)=true from Qf (by rw[Vp];omega),Qc,show QU (ln l-1)=((l.length-1:Nat):Int)from by rw[Vp,VD]<;>omega,QP (show l.length-1<l.length by omega),QL]
  exact tail _
 ·simp only[show decide (0<ln l)=false from Qe (by rw[Vp];omega),Qb]
  exact tail 0
end Go.Proofs.YtkgadcbajihilaaGreatDoor
