import Derived.Test.YtoilkmgiofimjaaGreatDoorPz3
namespace Go.Proofs.YtoilkmgiofimjaaGreatDoor
open Go
set_option linter.unusedVariables false
set_option linter.unusedSimpArgs false
theorem lJ{n:Nat}(f:Nat→Int)(h:∀i,i<n→0<i→f (i-1)<f i):∀j i,i<j→j<n→f i<f j:=by
 intro j
 induction j with
 |zero=>intro i h1 _;omega
 |succ j ih =>
  intro i h1 h2;have h3:=h (j+1) h2 (by omega)
  rw[show j+1-1=j by omega]at h3
  by_cases hij:i=j
  ·subst hij;exact h3
  ·have:=ih i (by omega) (by omega);omega
theorem Kd(l:List Slot)(h:∀i (hi:i<l.length) (h0:0<i),(l[i-1]'(by omega)).Id<l[i].Id)(i j:Nat)(hi:i<l.length)(hj:j<l.length)(he:l[i].Id=l[j].Id):i=j:=by
 have hu:=lJ (n:=l.length) (λi=>(gt l (i:Int)).Id) (λi h1 h2=>by
  show(gt l ((i-1:Nat):Int)).Id<(gt l (i:Int)).Id;rw[QC h1,QC (show i-1<l.length by omega)];exact h i h1 h2)
 by_cases h1:i<j
 ·have:=hu j i h1 hj
  simp only[QC hi,QC hj]at this;omega
 ·by_cases h2:j<i
  ·have:=hu i j h2 hi
   simp only[QC hi,QC hj]at this;omega
  ·omega
theorem TL(l:List Slot)(t:Int)(hl:l.length≤1048576):J2 l t=some (bif decide (t=0)||decide (CB l t<0)then 0 else(gt l (CB l t)).Id):=by
 have hr:=X3 l (λx=>!decide (t=0)&&decide (x.Thing=t)) (λi=>(gt l (i:Int)).Id) (step:=JL l t)
  (λi hi=>by
   simp only[JL,Qy hi,Qs hi,QC hi,QM (show(i:Int)<9223372036854775807 by omega),Qc,Qn]
   cases decide (t=0)<;>cases decide (l[i].Thing=t)<;>rfl)
  (by simp only[JL,QP (Qg _),Qb])
 unfold J2 CB;rw[hr];cases decide (t=0)with
 |true =>
  have:l.findIdx? (λx=>!true&&decide (x.Thing=t))=none:=by rw[List.findIdx?_eq_none_iff];intro x _;rfl
  rw[this];rfl
 |false =>
  have e:(λx:Slot=>!false&&decide (x.Thing=t))=(λx:Slot=>decide (x.Thing=t)):=by funext x;simp
  rw[e];cases l.findIdx? (λx=>decide (x.Thing=t))with
  |none=>rfl
  |some i =>
   simp only[Qa,evO,Bool.false_or,Qe (show ¬(i:Int)<0 by omega),Qb]
def DP(l:List Slot)(t:Int):Bool:=!(decide (t=0)||decide (CB l t<0))
theorem HI(l:List Slot)(t:Int)(hl:l.length≤1048576):∃c,XG l t=some c∧decide (c<0)=!DP l t:=by
 rw[IR l t hl];unfold DP;cases decide (t=0)with
 |true=>exact⟨-1,rfl,rfl⟩
 |false=>exact⟨CB l t,rfl,by simp⟩
theorem kV(l:List Hand)(x:Hand)(hl:l.length≤1048576):∃r,EH l x=some r∧Ep l x=some r∧r.1.length≤1048576:=by
 have hrm:rm (0+l.length) 40=true:=Vp (by omega) (by omega)
 have hrm1:rm (l.length+1) 40=true:=Vp (by omega) (by omega)
 unfold EH Ep Xt;have tail:∀s:Int,∃r,((Au s x).bind λr=>nd (rm (0+l.length) 40)<|nd (rm (l.length+1) 40)<|(Xm (l++[(⟨x.Thing,x.Holder,x.Who,x.At,r⟩:Hand)])).bind λr2=>(bif (!r2)then nd (rm (0+l.length) 40)<|some (l,false)else some (l++[(⟨x.Thing,x.Holder,x.Who,x.At,r⟩:Hand)],true)))=some r ∧
   ((Zq s x).bind λr=>(nd (rm (0+l.length) 40)<|some l).bind λr2=>nd (rm (r2.length+1) 40)<|(Xu (r2++[(⟨x.Thing,x.Holder,x.Who,x.At,r⟩:Hand)])).bind λr3=>(bif (!r3)then(nd (rm (0+l.length) 40)<|some l).bind λr4=>some (r4,false)else some (r2++[(⟨x.Thing,x.Holder,x.Who,x.At,r⟩:Hand)],true)))=some r∧r.1.length≤1048576:=by
  intro s;obtain⟨c,c1,c2⟩:=U7 s x;obtain⟨b,b1,b2,b3⟩:=TQ (l++[(⟨x.Thing,x.Holder,x.Who,x.At,c⟩:Hand)]);simp only[c1,c2,Qa,hrm,hrm1,Qn,b1,b2];cases b with
  |false=>exact⟨(l,false),rfl,rfl,hl⟩
  |true=>exact⟨_,rfl,rfl,by have:=(b3 rfl).1;show(l++_).length≤_;omega⟩
 by_cases h0:0<l.length
 ·simp only[show decide (0<ln l)=true from Qf (by rw[Q5];omega),Qc,show w64 (ln l-1)=((l.length-1:Nat):Int)from by rw[Q5,VA]<;>omega,Qs (show l.length-1<l.length by omega),Qn]
  exact tail _
 ·simp only[show decide (0<ln l)=false from Qe (by rw[Q5];omega),Qb]
  exact tail 0
theorem sM(l:List Slot)(t:Int)(hl:l.length≤1048576):∃r,El l t=some r∧En l t=some r∧r.1.length=l.length∧(DP l t=false→r.2=false)∧(r.2=true→t≠0∧JC l=some true∧∃(k:Nat) (hk:k<l.length),l[k].Thing=t∧r.1=l.set k ⟨l[k].Id,l[k].Size,0⟩):=by
 obtain⟨c,c1,c2,c3⟩:=Rs l hl;have hrm:rm (0+l.length) 24=true:=Vp (by omega) (by omega)
 unfold El En Xg DP;simp only[hrm,Qn,c1,c2,TL l t hl,IR l t hl,Qa];cases c with
 |false=>exact⟨(l,false),rfl,rfl,rfl,λ_=>rfl,λh=>by cases h⟩
 |true =>
  obtain⟨s1,s2,s3⟩:=c3 rfl;cases ht:decide (t=0)with
  |true=>exact⟨(l,false),rfl,rfl,rfl,λ_=>rfl,λh=>by cases h⟩
  |false =>
   rcases Gh l t with⟨_,h2⟩|⟨k,hk,h2,h3,_⟩
   ·rw[h2];exact⟨(l,false),rfl,rfl,rfl,λ_=>rfl,λh=>by cases h⟩
   ·rw[h2]
    have hid:1≤l[k].Id:=s2 _ (List.getElem_mem hk);simp only[Bool.false_or,Qh,Qb,Qe (show ¬(k:Int)<0 by omega),QC hk,Qs hk,Qn,Qe (show ¬l[k].Id=0 by omega),Int.toNat_natCast]
    have hr:=X0 (step:=Jb l[k].Id) (λi=>(if i≤k then l else l.set k ⟨l[k].Id,l[k].Size,0⟩,(i:Int))) (r:=l.set k ⟨l[k].Id,l[k].Size,0⟩) l.length (λi hi=>by
      have hw:=QM (show(i:Int)<9223372036854775807 by omega)
      by_cases hik:i<k
      ·have hne:¬l[i].Id=l[k].Id:=λe=>by have:=Kd l s3 i k hi hk e;omega
       simp only[Jb,if_pos (show i≤k by omega),if_pos (show i+1≤k by omega),Qy hi,Qs hi,QC hi,hw,Qe hne,Qc,Qb,Qn]
      ·by_cases hek:i=k
       ·subst hek
        simp only[Jb,if_pos (Qg i),if_neg (show ¬i+1≤i by omega),Qy hi,Qs hi,QC hi,hw,decide_true,Qc,Qn,Int.toNat_natCast]
       ·have hne:¬l[i].Id=l[k].Id:=λe=>by have:=Kd l s3 i k hi hk e;omega
        have hi':i<(l.set k ⟨l[k].Id,l[k].Size,0⟩).length:=by rw[List.length_set];exact hi
        have hg:gt (l.set k ⟨l[k].Id,l[k].Size,0⟩) (i:Int)=l[i]:=by rw[aJ l k _ i hi,if_neg hek,QC hi]
        simp only[Jb,if_neg (show ¬i≤k by omega),if_neg (show ¬i+1≤k by omega),Qy hi',Qs hi',hg,hw,Qe hne,Qc,Qb,Qn])
     (by
      simp only[Jb,if_neg (show ¬l.length≤k by omega)]
      rw[show decide ((l.length:Int)<ln (l.set k ⟨l[k].Id,l[k].Size,0⟩))=false from Qe (by rw[Q5,List.length_set];omega)]
      rfl)
    simp only[show run (Jb l[k].Id) (l,0)=some (l.set k ⟨l[k].Id,l[k].Size,0⟩)from hr,Qa];exact⟨_,rfl,rfl,List.length_set,λh=>(by simp at h),λ_=>⟨of_decide_eq_false ht,trivial,k,hk,h3,rfl⟩⟩
theorem wZ(l:List Slot)(t:Int)(hl:l.length≤1048576):∃r,El l t=some r∧En l t=some r∧r.1.length=l.length∧(DP l t=false→r.2=false):=by
 obtain⟨r,r1,r2,r3,r4,_⟩:=sM l t hl;exact⟨r,r1,r2,r3,r4⟩
theorem bO(h:House)(t p w:Int)(hm:Qu h):∃r,BJ h t p w=some r∧BH h t p w=some r∧Qu r.1∧(DP h.Slots t=false→r.2=false)∧r.1.Book=h.Book∧r.1.Now=h.Now∧r.1.No=h.No:=by
 have hm7:=hm;obtain⟨m1,m2,m3,m4,m5,m6,m7⟩:=hm7;obtain⟨a,a1,a2,a3,a4⟩:=wZ h.Slots t m3;obtain⟨b,b1,b2,b3⟩:=kV h.Chain ⟨t,p,w,h.Now,0⟩ m6;unfold BJ BH;simp only[X8 h hm,XD h hm,a1,a2,b1,b2,Qa];have w1:Qu ⟨h.No,h.Finds,h.Secrets,a.1,h.Claims,h.Trials,b.1,h.Book,h.Now⟩:=smH hm m1 m2 (by omega) m4 m5 b3 m7
 cases ha:a.2 with
 |true=>exact⟨_,rfl,rfl,w1,(λhs=>by rw[a4 hs]at ha;cases ha),rfl,rfl,rfl⟩
 |false=>exact⟨_,rfl,rfl,w1,(λ_=>rfl),rfl,rfl,rfl⟩
def Ji(l:List Claim)(t:Int):Nat→Int
 |0=>-1
 |n+1=>if(gt l (n:Int)).Thing=t∧(gt l (n:Int)).State=1∧(Ji l t n<0∨(gt l (n:Int)).At<(gt l (Ji l t n)).At)then(n:Int)else Ji l t n
theorem Mt(l:List Claim)(t:Int):∀n,Ji l t n=-1∨∃j:Nat,j<n∧Ji l t n=(j:Int)
 |0=>.inl rfl
 |n+1=>by
  unfold Ji
  split
  ·exact .inr ⟨n,by omega,rfl⟩
  ·rcases Mt l t n with h|⟨j,h1,h2⟩
   ·exact .inl h
   ·exact .inr ⟨j,by omega,h2⟩
theorem YP(l:List Claim)(t:Int):∀(n j:Nat),Ji l t n=(j:Int)→(gt l (j:Int)).Thing=t∧(gt l (j:Int)).State=1
 |0,j,h=>by unfold Ji at h;omega
 |n+1,j,h=>by
  unfold Ji at h
  split at h
  ·rename_i hc
   have:n=j:=by omega
   subst this;exact⟨hc.1,hc.2.1⟩
  ·exact YP l t n j h
theorem bh(l:List Claim)(t:Int)(hl:l.length≤1048576):∃c,Zk l t=some c∧Zn l t=some c∧(c=0∨∃k:Nat,∃hk:k<l.length,l[k].Id=c∧l[k].Thing=t∧l[k].State=1):=by
 have hcase:∀i:Nat,(Ji l t (i+1)=(i:Int)∧(gt l (i:Int)).Thing=t∧(gt l (i:Int)).State=1∧(Ji l t i=-1∨∃j:Nat,j<i∧Ji l t i=(j:Int)∧(gt l (i:Int)).At<(gt l (j:Int)).At)) ∨
   (Ji l t (i+1)=Ji l t i∧(¬(gt l (i:Int)).Thing=t∨¬(gt l (i:Int)).State=1∨∃j:Nat,j<i∧Ji l t i=(j:Int)∧¬(gt l (i:Int)).At<(gt l (j:Int)).At)):=by
  intro i;have e:Ji l t (i+1)=(if(gt l (i:Int)).Thing=t∧(gt l (i:Int)).State=1∧(Ji l t i<0∨(gt l (i:Int)).At<(gt l (Ji l t i)).At)then(i:Int)else Ji l t i):=rfl
  by_cases hc:(gt l (i:Int)).Thing=t∧(gt l (i:Int)).State=1∧(Ji l t i<0∨(gt l (i:Int)).At<(gt l (Ji l t i)).At)
  ·rw[if_pos hc]at e
   refine .inl ⟨e,hc.1,hc.2.1,?_⟩
   rcases Mt l t i with h|⟨j,hj,h⟩
   ·exact .inl h
   ·refine .inr ⟨j,hj,h,?_⟩
    rcases hc.2.2 with h'|h'
    ·omega
    ·rw[h]at h';exact h'
  ·rw[if_neg hc]at e
   refine .inr ⟨e,?_⟩;by_cases h1:(gt l (i:Int)).Thing=t
   ·by_cases h2:(gt l (i:Int)).State=1
    ·rcases Mt l t i with h|⟨j,hj,h⟩
     ·exact absurd ⟨h1,h2,.inl (by omega)⟩ hc
     ·refine .inr (.inr ⟨j,hj,h,λh'=>hc ⟨h1,h2,.inr (by rw[h];exact h')⟩⟩)
    ·exact .inr (.inl h2)
   ·exact .inl h1
 have hs:=X0 (step:=VF l t) (λi=>(Ji l t i,(i:Int))) (r:=Ji l t l.length) l.length (λi hi=>by
   have hw:=QM (show(i:Int)<9223372036854775807 by omega)
   rcases hcase i with⟨e,h1,h2,h3|⟨j,hj,h3,h4⟩⟩|⟨e,h1|h2|⟨j,hj,h3,h4⟩⟩
   ·simp only[VF,e,h3,h1,h2,Qy hi,Qs hi,hw,decide_true,Qc,Qn];rfl
   ·simp only[VF,e,h3,h1,h2,Qy hi,Qs hi,hw,decide_true,Qc,Qn,Qs (show j<l.length by omega),Qe (show ¬(j:Int)<0 by omega),Qb,Qf h4];rfl
   ·simp only[VF,e,Qe h1,Qy hi,Qs hi,hw,Qc,Qb,Qn];rfl
   ·cases decide ((gt l (i:Int)).Thing=t)<;>simp only[VF,e,Qe h2,Qy hi,Qs hi,hw,Qc,Qb,Qn]<;>cases decide ((gt l (i:Int)).Thing=t)<;>rfl
   ·simp only[VF,e,h3,Qy hi,Qs hi,hw,Qc,Qb,Qn,Qs (show j<l.length by omega),Qe (show ¬(j:Int)<0 by omega),Qe h4]
    cases decide ((gt l (i:Int)).Thing=t)<;>cases decide ((gt l (i:Int)).State=1)<;>rfl)
  (by simp only[VF,QP (Qg _),Qb])
 have hi:=X0 (step:=VG t l (ln l)) (λi=>(bif decide (Ji l t i<0)then(⟨0,0,0,0,0⟩:Claim)else gt l (Ji l t i),decide (0≤Ji l t i),(i:Int))) (r:=bif decide (Ji l t l.length<0)then(⟨0,0,0,0,0⟩:Claim)else gt l (Ji l t l.length)) l.length (λi hi=>by
   have hw:=QM (show(i:Int)<9223372036854775807 by omega)
   have hn:decide ((i:Int)<0)=false:=Qe (by omega)
   have hn':decide (0≤(i:Int))=true:=Qf (by omega)
   rcases hcase i with⟨e,h1,h2,h3|⟨j,hj,h3,h4⟩⟩|⟨e,h1|h2|⟨j,hj,h3,h4⟩⟩
   ·simp only[VG,e,h3,h1,h2,Qy hi,Qs hi,hw,decide_true,Qc,Qn,hn,hn'];rfl
   ·simp only[VG,e,h3,h1,h2,Qy hi,Qs hi,hw,decide_true,Qc,Qn,hn,hn',Qe (show ¬(j:Int)<0 by omega),Qf (show 0≤(j:Int)by omega),Qb,Qf h4];rfl
   ·simp only[VG,e,Qe h1,Qy hi,Qs hi,hw,Qc,Qb,Qn];rfl
   ·simp only[VG,e,Qe h2,Qy hi,Qs hi,hw,Qc,Qb,Qn]
    cases decide ((gt l (i:Int)).Thing=t)<;>rfl
   ·simp only[VG,e,h3,Qy hi,Qs hi,hw,Qc,Qb,Qn,Qe (show ¬(j:Int)<0 by omega),Qf (show 0≤(j:Int)by omega),Qe h4]
    cases decide ((gt l (i:Int)).Thing=t)<;>cases decide ((gt l (i:Int)).State=1)<;>rfl)
  (by simp only[VG,QP (Qg _),Qb])
 have hi':run (VG t l (ln l)) ((⟨0,0,0,0,0⟩:Claim),false,0)=some (bif decide (Ji l t l.length<0)then(⟨0,0,0,0,0⟩:Claim)else gt l (Ji l t l.length)):=hi;unfold Zk Zn;rw[show run (VF l t) ((-1),0)=some (Ji l t l.length)from hs,hi']
 rcases Mt l t l.length with h|⟨j,hj,h⟩
 ·rw[h];exact⟨0,rfl,rfl,.inl rfl⟩
 ·rw[h]
  simp only[Qa,Qe (show ¬(j:Int)<0 by omega),Qb,Qs hj,QC hj,Qn]
  have hc:=YP l t l.length j h;rw[QC hj]at hc;exact⟨_,rfl,rfl,.inr ⟨j,hj,rfl,hc⟩⟩
theorem Sz(l:List Claim)(t:Int)(hl:l.length≤1048576):∃c,Zk l t=some c∧Zn l t=some c∧(c=0∨∃k:Nat,∃hk:k<l.length,l[k].Id=c):=by
 obtain⟨c,h1,h2,h3⟩:=bh l t hl;exact⟨c,h1,h2,h3.imp id λ⟨k,hk,h,_⟩=>⟨k,hk,h⟩⟩
theorem Sm(l:List Find)(id:Int):Xh l id=-1∨∃k:Nat,k<l.length∧Xh l id=(k:Int):=by
 unfold Xh;cases hf:l.findIdx? (λx=>decide (x.Thing.Id=id))with
 |none=>exact .inl rfl
 |some i =>
  obtain⟨hi,hp⟩:=B6 hf;exact .inr ⟨i,hi,rfl⟩
theorem dK(f:Find):∃b,Xj f=some b∧(b=true→1≤f.Thing.Kind∧f.Thing.Kind≤8):=by
 unfold Xj XM Qq;simp only[Qa];cases h1:(decide (1≤f.Thing.Id)&&decide (f.Thing.Id≤999))with
 |false=>exact⟨false,rfl,λh=>by cases h⟩
 |true =>
  cases h2:(decide (1≤f.Thing.Kind)&&decide (f.Thing.Kind≤8))with
  |false=>exact⟨false,rfl,λh=>by cases h⟩
  |true =>
   have hk:1≤f.Thing.Kind∧f.Thing.Kind≤8:=by simpa using h2
   simp only[Qc];cases (decide (0≤f.Thing.Colour)&&decide (f.Thing.Colour≤7))<;>cases (decide (1≤f.Thing.Size)&&decide (f.Thing.Size≤50))<;>cases (decide (0≤f.Thing.Worth)&&decide (f.Thing.Worth≤10000000)) <;>
    cases (decide (1≤f.Place)&&decide (f.Place≤30))<;>cases (decide (0≤f.At)&&decide (f.At≤100000))<;>cases (decide (0≤f.Finder)&&decide (f.Finder≤999))<;>exact⟨_,rfl,λ_=>hk⟩
theorem sG(k:Int)(h1:1≤k)(h2:k≤8):∃d,EY k=some d∧E5 k=some d:=by
 have:k=1∨k=2∨k=3∨k=4∨k=5∨k=6∨k=7∨k=8:=by omega
 rcases this with rfl|rfl|rfl|rfl|rfl|rfl|rfl|rfl<;>exact⟨_,rfl,rfl⟩
theorem zQ(f:Find)(now:Int):∃b,Zo f now=some b∧A9 f now=some b:=by
 obtain⟨b,h1,h2⟩:=dK f;unfold Zo A9 FU FI;rw[show AF f=Xj f from rfl,h1];cases b with
 |false=>exact⟨false,rfl,rfl⟩
 |true =>
  obtain⟨k1,k2⟩:=h2 rfl;obtain⟨d,h3,h4⟩:=sG f.Thing.Kind k1 k2;simp only[Qa,Qc,Qb,Qh,h3,h4];exact⟨_,rfl,rfl⟩
noncomputable def fL(f:Find)(now:Int):Bool:=(Zo f now).getD false
theorem qL(f:Find)(now:Int):Zo f now=some (fL f now)∧A9 f now=some (fL f now):=by
 obtain⟨b,h1,h2⟩:=zQ f now;unfold fL;rw[h1,h2];exact⟨rfl,rfl⟩
theorem ji(f:Find)(l:List Claim)(now:Int)(hl:l.length≤1048576):∃c,CQ f l now=some c∧CO f l now=some c:=by
 obtain⟨p,p1,p2,_⟩:=Sz l f.Thing.Id hl;obtain⟨d,d1,d2⟩:=zQ f now;have hs:=Km l (λx=>decide (x.Thing=f.Thing.Id)&&decide (x.State=0)) (r:=(0:Int)) (step:=Cq l now f)
  (λi hi=>by
   simp only[Cq,Qy hi,Qs hi,QC hi,QM (show(i:Int)<9223372036854775807 by omega),Qc,Qn,Qa]
   cases (decide (l[i].Thing=f.Thing.Id)&&decide (l[i].State=0))<;>rfl)
  (by simp only[Cq,QP (Qg _),Qb])
 have hi:=X3 l (λx=>decide (x.Thing=f.Thing.Id)&&decide (x.State=0)) (λi=>(i:Int)) (step:=Q6 l f.Thing (ln l))
  (λi hi=>by
   simp only[Q6,Gq,Qy hi,Qs hi,QC hi,QM (show(i:Int)<9223372036854775807 by omega),Qc,Qn,Qa]
   cases (decide (l[i].Thing=f.Thing.Id)&&decide (l[i].State=0))<;>rfl)
  (by simp only[Q6,QP (Qg _),Qb])
 have hc:Vh l f.Thing=some (l.any (λx=>decide (x.Thing=f.Thing.Id)&&decide (x.State=0))):=by
  unfold Vh V5;rw[hi];cases hf:l.findIdx? (λx=>decide (x.Thing=f.Thing.Id)&&decide (x.State=0))with
  |none =>
   have:l.any (λx=>decide (x.Thing=f.Thing.Id)&&decide (x.State=0))=false:=by
    rw[List.any_eq_false];intro x hx;have:=List.findIdx?_eq_none_iff.1 hf x hx;simpa using this
   rw[this];rfl
  |some i =>
   obtain⟨hi',hp⟩:=B6 hf;rw[List.any_eq_true.2 ⟨_,List.getElem_mem hi',hp⟩];simp only[Qa,evO,Qf (show(0:Int)≤(i:Int)by omega)]
 unfold CQ CO;rw[p1,p2,d1,d2,hs,hc];simp only[Qa];have hlt:decide (f.Thing.Worth≤5000)=!decide (5000<f.Thing.Worth):=by
  by_cases h:5000<f.Thing.Worth
  ·rw[Qf h,Qe (by omega)];rfl
  ·rw[Qe h,Qf (by omega)];rfl
 rw[hlt];generalize l.any (λx=>decide (x.Thing=f.Thing.Id)&&decide (x.State=0))=q
 cases decide (p=0)<;>cases q<;>cases d<;>cases (decide (f.Thing.Kind=7)||decide (f.Thing.Worth=0))<;>cases decide (5000<f.Thing.Worth)<;>cases decide (f.Finder=0)<;>exact⟨_,rfl,rfl⟩
theorem yJ(h:House)(c:Int)(hl:h.Trials.length≤1048576):∃r,Em h c=some r∧EJ h c=some r:=by
 have hs:=X3 h.Trials (λx=>decide (x.Claim=c)) (λi=>(h.Trials.getD i default,true)) (step:=Bk c h (⟨0,0,0,0⟩:Trial))
  (λi hi=>by
   simp only[Bk,Qy hi,Qs hi,QC hi,QM (show(i:Int)<9223372036854775807 by omega),Qc,Qn,List.getD_eq_getElem?_getD,List.getElem?_eq_getElem hi,Option.getD_some]
   cases decide (h.Trials[i].Claim=c)<;>rfl)
  (by simp only[Bk,QP (Qg _),Qb])
 have hi:=X3 h.Trials (λx=>decide (x.Claim=c)) (λi=>(i:Int)) (step:=Q2 h.Trials c (ln h.Trials))
  (λi hi=>by
   simp only[Q2,FL,Qa,Qy hi,Qs hi,QC hi,QM (show(i:Int)<9223372036854775807 by omega),Qc,Qn]
   cases decide (h.Trials[i].Claim=c)<;>rfl)
  (by simp only[Q2,QP (Qg _),Qb])
 unfold Em EJ GY VY;rw[hs,hi];cases hf:h.Trials.findIdx? (λx=>decide (x.Claim=c))with
 |none=>exact⟨_,rfl,rfl⟩
 |some i =>
  obtain⟨hlt,_⟩:=B6 hf;have hd:decide ((i:Int)<0)=false:=Qe (by omega)
  refine⟨(h.Trials[i],true),?_,?_⟩
  ·simp only[Qa,c8,List.getD_eq_getElem?_getD,List.getElem?_eq_getElem hlt,Option.getD_some]
  ·simp only[Qa,c8,hd,Qb,Qs hlt,Qn,QC hlt]
theorem rX(l:List Mark)(hl:l.length≤1048576)(h:Az l=some true):∀x∈l,i64 x.Question:=by
 intro x hx;obtain⟨i,hi,rfl⟩:=List.getElem_of_mem hx;refine LM (n:=l.length) (P:=λi=>∀h:i<l.length,i64 l[i].Question) (λs:Int=>s) (λi s hi hs=>?_) (λi s hi hs hP s' e=>?_) (s0:=(0:Int)) rfl h i hi hi
 ·subst hs
  unfold Jz;rw[Qy hi,Qc];exact Sp.bind λb=>Sp.cond Sp.ret (Sp.inl (QM (by omega)))
 ·subst hs
  refine hP λh'=>?_
  simp only[Jz,Qy hi,Qs hi,QC hi,Qc,Qn,Qq,Qa]at e;refine Classical.byContradiction λhn=>?_
  rw[G0 (n:=l[i].Question) (a:=1) (b:=20) (by omega) (by omega) hn]at e
  revert e;simp
theorem cn:i64 0:=by unfold i64;omega
theorem oW(l:List Mark)(c v:Int)(hl:l.length≤1048576){q:Int}(h:Ze l c v=some q):i64 q:=by
 unfold Ze at h;obtain⟨b,h1,h2⟩:=Option.bind_eq_some_iff.1 h;cases b with
 |true=>injection h2 with h2;subst h2;exact cn
 |false =>
  have hm:Az l=some true:=by
   cases hz:decide (ln l=0)with
   |true=>rw[hz]at h1;cases h1
   |false =>
    rw[hz,Qb]at h1;obtain⟨m,m1,m2⟩:=Option.bind_eq_some_iff.1 h1;cases m with
    |true=>exact m1
    |false=>cases m2
  simp only[Qb]at h2;obtain⟨r3,_,h2⟩:=Option.bind_eq_some_iff.1 h2;obtain⟨r4,_,h2⟩:=Option.bind_eq_some_iff.1 h2;generalize (w64 (r4+v)).tmod (ln l)=j at h2;cases hn:(!decide (ln l=0))with
  |false=>rw[hn]at h2;cases h2
  |true =>
   rw[hn]at h2;simp only[Qn]at h2;cases hi:inb l j with
   |false=>rw[hi]at h2;cases h2
   |true =>
    rw[hi]at h2;simp only[Qn]at h2;injection h2 with h2
    subst h2;obtain⟨p1,p2⟩:=B3.1 hi;have:gt l j=l[j.toNat]'(by omega):=by unfold gt;rw[List.getD_eq_getElem?_getD,List.getElem?_eq_getElem (by omega)];rfl
    rw[this];exact rX l hl hm _ (List.getElem_mem _)
theorem Qju(l:List Mark)(x:Trial)(hl:l.length≤1048576):∃q,Xv l x=some q∧XW l x=some q∧i64 q:=by
 obtain⟨q,q1,q2⟩:=PI l x hl;refine⟨q,q1,q2,?_⟩;unfold Xv at q1;obtain⟨s,_,h⟩:=Option.bind_eq_some_iff.1 q1;cases hs:(!decide (s=0))with
 |true=>rw[hs]at h;injection h with h;subst h;exact cn
 |false =>
  rw[hs,Qb]at h;obtain⟨r,r1,r2⟩:=Option.bind_eq_some_iff.1 h;injection r2 with r2
  subst r2;exact oW _ _ _ hl r1
theorem pq(f:Int):∃s,Dw f=some s∧DE f=some s:=by
 unfold Dw DE Qq;by_cases h:0≤f∧f≤5
 ·rcases(by omega:f=0∨f=1∨f=2∨f=3∨f=4∨f=5)with rfl|rfl|rfl|rfl|rfl|rfl<;>exact⟨_,rfl,rfl⟩
 ·have h1:(decide (0≤f)&&decide (f≤5))=false:=by
   rw[Bool.eq_false_iff];simpa using h
  have h2:(decide (f<0)||decide (6≤f))=true:=by
   simp only[Bool.or_eq_true,decide_eq_true_eq];omega
  rw[h1,h2];exact⟨_,rfl,rfl⟩
theorem oP(l:List Find)(now:Int)(hl:l.length≤1048576)(hx:∀x∈l,i64 x.Thing.Id):∃o,Cb l now=some o∧Cl l now=some o∧o.length≤1048576∧∀x∈o,i64 x:=by
 have hS:=D2 l (λf=>fL f now) (λf=>f.Thing.Id) (step:=Z0 l now) (λi o hi ho=>by
   simp only[Z0,Qy hi,Qs hi,QC hi,QM (show(i:Int)<9223372036854775807 by omega),Vp (show o.length+1≤2000000 by omega) (show 8≤1024 by omega),Qc,Qn,(qL _ _).1,Qa]
   cases fL l[i] now<;>rfl)
  (λo=>by simp only[Z0,QP (Qg _),Qb])
 have hI:=D2 l (λf=>fL f now) (λf=>f.Thing.Id) (step:=ZQ now l (ln l)) (λi o hi ho=>by
   simp only[ZQ,Qy hi,Qs hi,QC hi,QM (show(i:Int)<9223372036854775807 by omega),Vp (show o.length+1≤2000000 by omega) (show 8≤1024 by omega),Qc,Qn,(qL _ _).2,Qa]
   cases fL l[i] now<;>rfl)
  (λo=>by simp only[ZQ,QP (Qg _),Qb])
 refine⟨(l.filter λf=>fL f now).map λf=>f.Thing.Id,?_,?_,?_,?_⟩
 ·unfold Cb;rw[hS];rfl
 ·unfold Cl;rw[hI];rfl
 ·rw[List.length_map];exact Nat.le_trans (List.length_filter_le _ _) hl
 ·intro x hm
  obtain⟨f,hf,rfl⟩:=List.mem_map.1 hm;exact hx f (List.mem_filter.1 hf).1
def ib:List UInt8:=[97,115,107]
def Up:List UInt8:=[115,116,111,114,121]
def T7:List UInt8:=[102,97,116,101]
def L3:List UInt8:=[98,97,108,97,110,99,101]
def uJ:List UInt8:=[100,117,101]
def bx:List UInt8:=[115,108,111,116,115]
def TO:List UInt8:=[99,108,97,105,109,115]
def co:List UInt8:=[104,111,117,115,101]
def aN:List UInt8:=[97,117,100,105,116]
theorem so(a:House)(w:List UInt8)(hm:Qu a)(hk:Lk a)(hw:w∈[uJ,bx,TO,co,aN]):∃s,JH a w=some s∧Cr a w []=some s:=by
 have hm':=hm;obtain⟨m1,m2,m3,m4,m5,m6,m7⟩:=hm';simp only[List.mem_cons,List.not_mem_nil,or_false]at hw
 rcases hw with rfl|rfl|rfl|rfl|rfl
 ·obtain⟨o,o1,o2,o3,o4⟩:=oP a.Finds a.Now m1 hk.finds
  obtain⟨s,s1,s2⟩:=Ib o o3 o4;refine⟨s,?_,?_⟩
  ·show(Cb a.Finds a.Now).bind _=_
   rw[o1,Qa,s1];rfl
  ·show(Cl a.Finds a.Now).bind _=_
   rw[o2,Qa,s2];rfl
 ·obtain⟨s,s1,s2⟩:=db a.Slots m3 hk.slots
  refine⟨s,?_,?_⟩
  ·show(A3 a.Slots).bind _=_
   rw[s1];rfl
  ·show(AL a.Slots).bind _=_
   rw[s2];rfl
 ·obtain⟨s,s1,s2⟩:=bM a.Claims m4 hk.claims
  refine⟨s,?_,?_⟩
  ·show(Z1 a.Claims).bind _=_
   rw[s1];rfl
  ·show(ZV a.Claims).bind _=_
   rw[s2];rfl
 ·obtain⟨s,s1,s2⟩:=eH a hk.no hk.now m1 m4 m6 m7
  refine⟨s,?_,?_⟩
  ·show(AS a).bind _=_
   rw[s1];rfl
  ·show(AM a).bind _=_
   rw[s2];rfl
 ·obtain⟨c,c1,c2⟩:=yA a hm
  refine⟨bif !decide (c=[])then c else[111,107],?_,?_⟩
  ·show(Ej a).bind _=_
   rw[c1,Qa];cases decide (c=[])<;>rfl
  ·show(Ew a).bind _=_
   rw[c2,Qa];cases decide (c=[])<;>rfl
theorem xI(a:House)(w:List UInt8)(n:Int)(hm:Qu a)(hk:Lk a)(hw:w∈[ib,Up,T7,L3]):∃s,J3 a w n=some s∧Cr a w [n]=some s:=by
 have hm':=hm;obtain⟨m1,m2,m3,m4,m5,m6,m7⟩:=hm';simp only[List.mem_cons,List.not_mem_nil,or_false]at hw
 rcases hw with rfl|rfl|rfl|rfl
 ·obtain⟨t,t1,t2⟩:=yJ a n m5
  obtain⟨c1,c2⟩:=Ey a.Claims n m4;have e1:J3 a ib n=(Em a n).bind λr=>(JO a.Claims n).bind λr2=>(bif ((!r.2)||(decide (r2<0)))then some [110,111]else nd (inb a.Claims r2)<|(BE a.Secrets (gt a.Claims r2).Thing).bind λr3=>(Xv r3 r.1).bind λr4=>(Qv r4).bind λr5=>some r5):=rfl
  have e2:Cr a ib [n]=(EJ a n).bind λr=>(Xn a.Claims n).bind λr2=>(bif ((!r.2)||(decide (r2<0)))then some [110,111]else nd (inb a.Claims r2)<|(BN a.Secrets (gt a.Claims r2).Thing).bind λr3=>(XW r3 r.1).bind λr4=>(QK r4).bind λr5=>some r5):=rfl
  rw[e1,e2,t1,t2];simp only[Qa,c1,c2]
  rcases G8 a.Claims n with h|⟨k,hk',h,_⟩
  ·rw[h]
   cases t.2<;>exact⟨_,rfl,rfl⟩
  ·rw[h]
   obtain⟨m,g1,g2,g3⟩:=TJ a.Secrets (gt a.Claims (k:Int)).Thing m2.1 m2.2;obtain⟨q,q1,q2,q3⟩:=Qju m t.1 g3;simp only[Qs hk',Qn,g1,g2,q1,q2,JQ q q3,Aj q q3,Qa,show decide ((k:Int)<0)=false from Qe (by omega),Bool.or_false]
   cases t.2<;>exact⟨_,rfl,rfl⟩
 ·obtain⟨s,s1,s2⟩:=xo a.Chain n m6 hk.chain
  refine⟨s,?_,?_⟩
  ·show(EC a.Chain n).bind _=_
   rw[s1];rfl
  ·show(Ez a.Chain n).bind _=_
   rw[s2];rfl
 ·obtain⟨c1,c2⟩:=Xw a.Finds n m1
  have e1:J3 a T7 n=(VZ a.Finds n).bind λr7=>(bif (decide (r7<0))then some [110,111]else nd (inb a.Finds r7)<|(CQ (gt a.Finds r7) a.Claims a.Now).bind λr8=>(Dw r8).bind λr9=>some r9):=rfl
  have e2:Cr a T7 [n]=(Xf a.Finds n).bind λr7=>(bif (decide (r7<0))then some [110,111]else nd (inb a.Finds r7)<|(CO (gt a.Finds r7) a.Claims a.Now).bind λr8=>(DE r8).bind λr9=>some r9):=rfl
  rw[e1,e2,c1,c2];simp only[Qa];by_cases h:Xh a.Finds n<0
  ·rw[Qf h];exact⟨_,rfl,rfl⟩
  ·obtain⟨k,hk1,hk2⟩:=Ir h
   obtain⟨v,v1,v2⟩:=ji (gt a.Finds (Xh a.Finds n)) a.Claims a.Now m4;obtain⟨s,s1,s2⟩:=pq v;rw[Qe h,show inb a.Finds (Xh a.Finds n)=true by rw[hk1];exact Qs hk2]
   simp only[Qb,Qn,v1,v2,s1,s2,Qa];exact⟨_,rfl,rfl⟩
 ·obtain⟨v,v1,v2⟩:=PL a.Book n m7
  obtain⟨s,s1,s2⟩:=dP v;refine⟨s,?_,?_⟩
  ·show(Zx a.Book n).bind _=_
   rw[v1,Qa,s1];rfl
  ·show(Zu a.Book n).bind _=_
   rw[v2,Qa,s2];rfl
theorem jp{n:Nat}(p:Nat→Bool){step:Int→Option (Int⊕Int)}(h1:∀i,i<n→step (i:Int)=some (bif p i then .inl ((i+1:Nat):Int)else .inr (i:Int)))(h2:step (n:Int)=some (.inr (n:Int))):∃k:Nat,k≤n∧run step 0=some (k:Int):=by
 have key:∀(m i:Nat),i+m=n→∃k:Nat,k≤n∧run step (i:Int)=some (k:Int):=by
  intro m
  induction m with
  |zero =>
   intro i hi;have:i=n:=by omega
   subst this;exact⟨i,Qg _,by rw[QS,h2];rfl⟩
  |succ m ih =>
   intro i hi;cases hp:p i with
   |false=>exact⟨i,by omega,by rw[QS,h1 i (by omega),hp];rfl⟩
   |true =>
    obtain⟨k,k1,k2⟩:=ih (i+1) (by omega)
    exact⟨k,k1,by rw[QS,h1 i (by omega),hp];exact k2⟩
 exact key n 0 (by omega)
theorem Hu{α:Type}(l:List α)(k:Nat):cut l (k:Int) (ln l)=l.drop k:=by
 unfold cut ln;simp
theorem Pk{k n:Nat}(h:k≤n):slB (k:Int) (n:Int) (n:Int)=true:=by unfold slB;simp;omega
theorem O3{α:Type}(l:List α)(k:Nat)(x:α):(cut l 0 (k:Int)++[x])++cut l (k:Int) (ln l)=Vt l (k:Int) [x]:=by
 rw[JK,Hu];simp[Vt]
theorem HL{α:Type}(l:List α)(k:Nat)(hk:k≤l.length)(x:α):(Vt l (k:Int) [x]).length=l.length+1:=by
 simp[Vt];omega
theorem Tx{α:Type}(l:List α)(k:Nat)(hk:k≤l.length)(x:α)(b:Nat)(hl:l.length≤1048576)(hb:b≤1024):Gu l (k:Int) [x] b=true:=by
 unfold Gu;have:(l.length+1)*b≤1048577*1024:=Nat.mul_le_mul (by omega) hb
 simp;omega
theorem ja{α:Type}(l:List α)(k:Nat)(hk:k≤l.length)(x:α):(Vt l (k:Int) [x])[k]?=some x:=by
 simp[Vt,List.getElem?_append,Nat.min_eq_left hk]
theorem mR{α:Type}(l:List α)(k:Nat)(hk:k≤l.length)(x:α)(j:Nat)(hj:j<l.length):(Vt l (k:Int) [x])[if j<k then j else j+1]?=some l[j]:=by
 by_cases h:j<k
 ·rw[if_pos h];simp[Vt,List.getElem?_append,Nat.min_eq_left hk,h]
 ·rw[if_neg h]
  simp only[Vt,Int.toNat_natCast,List.singleton_append];rw[List.getElem?_append_right (by simp;omega)]
  simp only[List.length_take,Nat.min_eq_left hk];rw[show j+1-k=(j-k)+1 by omega,List.getElem?_cons_succ,List.getElem?_drop,show k+(j-k)=j by omega,List.getElem?_eq_getElem hj]
theorem be{α:Type}[Inhabited α](key:α→Int)(l:List α)(k:Nat)(hk:k≤l.length)(x:α)(up:∀i (hi:i<(Vt l (k:Int) [x]).length) (h0:0<i),key ((Vt l (k:Int) [x])[i-1]'(by omega))<key (Vt l (k:Int) [x])[i])(j:Nat)(hj:j<l.length)(he:key l[j]=key x):False:=by
 have hlen:=HL l k hk x;have hu:=lJ (n:=(Vt l (k:Int) [x]).length) (λi=>key (gt (Vt l (k:Int) [x]) (i:Int))) (λi h1 h2=>by
  show key (gt (Vt l (k:Int) [x]) ((i-1:Nat):Int))<key (gt (Vt l (k:Int) [x]) (i:Int));rw[QC h1,QC (show i-1<(Vt l (k:Int) [x]).length by omega)];exact up i h1 h2)
 have g1:gt (Vt l (k:Int) [x]) (k:Int)=x:=by
  have hlt:k<(Vt l (k:Int) [x]).length:=by omega
  rw[QC hlt];have:=ja l k hk x;rw[List.getElem?_eq_getElem hlt]at this;exact Option.some.inj this
 have hidx:(if j<k then j else j+1)<(Vt l (k:Int) [x]).length:=by split<;>omega
 have g2:gt (Vt l (k:Int) [x]) ((if j<k then j else j+1:Nat):Int)=l[j]:=by
  rw[QC hidx];have:=mR l k hk x j hj;rw[List.getElem?_eq_getElem hidx]at this;exact Option.some.inj this
 by_cases h:j<k
 ·have:=hu k (if j<k then j else j+1) (by rw[if_pos h];exact h) (by omega)
  simp only[g1,g2]at this;omega
 ·have:=hu (if j<k then j else j+1) k (by rw[if_neg h];omega) hidx
  simp only[g1,g2]at this;omega
end Go.Proofs.YtoilkmgiofimjaaGreatDoor
