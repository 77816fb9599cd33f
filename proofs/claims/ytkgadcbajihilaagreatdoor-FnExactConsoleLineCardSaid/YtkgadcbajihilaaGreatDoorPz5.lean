import Derived.Test.YtkgadcbajihilaaGreatDoorPz4
set_option linter.unusedVariables false
set_option linter.unusedSimpArgs false
set_option linter.defProp false
namespace Go.Proofs.YtkgadcbajihilaaGreatDoor
open Go
def yf(x:Bid):∃b,KF x=some b∧((QR x.QA 1 999).bind λr=>(bif !r then some true else(QR x.Qy 1 10000000).bind λr2=>some (!r2)))=some (!b)∧(b=true→1≤x.QA∧1≤x.Qy∧x.Qy≤10000000):=by
 unfold KF QO QR;simp only[Qa];cases h1:(decide (1≤x.QA)&&decide (x.QA≤999))with
 |false=>exact⟨false,rfl,rfl,λh=>by cases h⟩
 |true =>
  cases h2:(decide (1≤x.Qy)&&decide (x.Qy≤10000000))with
  |false=>exact⟨false,rfl,rfl,λh=>by cases h⟩
  |true =>
   simp only[Bool.and_eq_true,decide_eq_true_eq]at h1 h2;exact⟨true,rfl,rfl,λ_=>⟨h1.1,h2.1,h2.2⟩⟩
def Yd(l:List Bid)(i:Nat)(hi:i<l.length)(hl:l.length≤1048576) :
  run (AW l (i:Int)) 0=some (bif (l.take i).any (λy=>decide (y.QA=l[i].QA))then .ret false else .brk ()):=by
 have hlen:(l.take i).length=i:=by simp;omega
 exact MB (l.take i) (λy=>decide (y.QA=l[i].QA)) (r:=false) (step:=AW l (i:Int))
  (λk hk=>by
   rw[hlen]at hk;have hkl:k<l.length:=by omega
   have e:(l.take i)[k]'(by rw[hlen];exact hk)=l[k]:=by simp
   simp only[AW,e,show decide ((k:Int)<(i:Int))=true from Qf (by omega),QP hi,Q3 hi,QP hkl,Q3 hkl,Vg (show(k:Int)<9223372036854775807 by omega),Qc,QL]
   cases decide (l[k].QA=l[i].QA)<;>rfl)
  (by rw[hlen];simp only[AW,show decide ((i:Int)<(i:Int))=false from Qe (by omega),Qb])
def WX(p:List Bid)(x:Bid)(hp:p.length≤1048576):VT p x=some (p.any (λy=>decide (y.QA=x.QA))):=by
 have hi:=Jo p (λy=>decide (y.QA=x.QA)) (λi=>(i:Int)) (step:=VG p x (ln p))
  (λi hi=>by
   simp only[VG,Hp,Q0 hi,QP hi,Q3 hi,Vg (show(i:Int)<9223372036854775807 by omega),Qc,QL,Qa]
   cases decide (p[i].QA=x.QA)<;>rfl)
  (by simp only[VG,Q6 (Qg _),Qb])
 unfold VT Xy;rw[hi];cases hf:p.findIdx? (λy=>decide (y.QA=x.QA))with
 |none =>
  have:p.any (λy=>decide (y.QA=x.QA))=false:=by
   rw[List.any_eq_false];intro y hy;have:=List.findIdx?_eq_none_iff.1 hf y hy;simpa using this
  rw[this];rfl
 |some i =>
  obtain⟨hi',hp'⟩:=C6 hf;rw[List.any_eq_true.2 ⟨_,List.getElem_mem hi',hp'⟩];simp only[Qa,J1,Qf (show(0:Int)≤(i:Int)by omega)]
def QcB(l:List Bid)(hl:l.length≤1048576):∃b,Ke l=some b∧Kd l=some b∧(b=true→l.length≤20∧∀x∈l,1≤x.QA∧1≤x.Qy∧x.Qy≤10000000):=by
 obtain⟨b,h1,h2,h3⟩:=GK (n:=l.length) (r:=false) (s1:=AZ l) (s2:=Cl l l (ln l)) (λi hi _=>by
   obtain⟨b,q1,q2,_⟩:=yf l[i];have hsl:Ff 0 (i:Int) (ln l)=true:=Md (by omega)
   simp only[AZ,Cl,Q0 hi,QP hi,Q3 hi,Vg (show(i:Int)<9223372036854775807 by omega),Qc,QL,q1,q2,Qa,Yd l i hi hl,Za,hsl,WX (l.take i) l[i] (by simp;omega)]
   cases b<;>cases (l.take i).any (λy=>decide (y.QA=l[i].QA))<;>first|exact⟨true,rfl,rfl⟩|exact⟨false,rfl,rfl⟩)
  (by simp only[AZ,Q6 (Qg _),Qb]) (by simp only[Cl,Q6 (Qg _),Qb])
 refine⟨b&&decide ((l.length:Int)≤20),(D6 _ h1).1,(D6 _ h2).2,λhb=>?_⟩
 simp only[Bool.and_eq_true,decide_eq_true_eq]at hb;refine⟨by omega,λx hx=>?_⟩
 obtain⟨i,hi,rfl⟩:=List.getElem_of_mem hx;have hstep:=(h3 hb.1 i hi).1;obtain⟨c,q1,q2,q3⟩:=yf l[i];simp only[AZ,Q0 hi,QP hi,Q3 hi,Qc,QL,q2,Qa]at hstep;cases c with
 |true=>exact q3 rfl
 |false=>simp at hstep
def bZ(l:List Bid):∀i,i≤l.length→∀x∈Z8 l i,x∈l
 |0,_,x,hx=>by simp[Z8]at hx
 |i+1,hi,x,hx=>by
  unfold Z8 at hx;simp only[VY,Int.toNat_natCast,List.mem_append,List.mem_singleton]at hx
  rcases hx with h|h|h
  ·exact bZ l i (by omega) x (List.mem_of_mem_take h)
  ·subst h;rw[Q3 (show i<l.length by omega)];exact List.getElem_mem _
  ·exact bZ l i (by omega) x (List.mem_of_mem_drop h)
def Qj6(l:List Bid)(hl:l.length≤1048576):∃r,IC l=some r∧IL l=some r∧(r=(0,0)∨(1≤r.1∧1≤r.2∧r.2≤10000000)):=by
 obtain⟨b,b1,b2,b3⟩:=QcB l hl;unfold IC IL;rw[b1,b2];simp only[Qa];by_cases h0:ln l=0
 ·rw[Qf h0];exact⟨(0,0),rfl,rfl,.inl rfl⟩
 ·rw[Qe h0]
  have hpos:1≤l.length:=by rw[Vp]at h0;omega
  cases b with
  |false=>exact⟨(0,0),rfl,rfl,.inl rfl⟩
  |true =>
   obtain⟨h20,hall⟩:=b3 rfl;have hlen:=K4 l l.length;have hmem:=bZ l l.length (Qg _);have hi0:0<(Z8 l l.length).length:=by omega
   have e0:Q1 (Z8 l l.length) 0=true:=QP hi0;have g0:gt (Z8 l l.length) 0=(Z8 l l.length)[0]:=Q3 hi0;have p0:=hall _ (hmem _ (List.getElem_mem hi0));simp only[Qb,Qh,Qa,sn l hl,mH l h20 hpos,e0,QL,g0];by_cases h1:l.length=1
   ·rw[show decide (ln (Z8 l l.length)=1)=true from Qf (by rw[Vp,hlen,h1];rfl)]
    exact⟨_,rfl,rfl,.inr ⟨p0.1,by show(1:Int)≤1;omega,by show(1:Int)≤10000000;omega⟩⟩
   ·have hi1:1<(Z8 l l.length).length:=by omega
    have e1:Q1 (Z8 l l.length) 1=true:=QP hi1;have g1:gt (Z8 l l.length) 1=(Z8 l l.length)[1]:=Q3 hi1;have p1:=hall _ (hmem _ (List.getElem_mem hi1));rw[show decide (ln (Z8 l l.length)=1)=false from Qe (by rw[Vp,hlen];omega),e1,g1]
    exact⟨_,rfl,rfl,.inr ⟨p0.1,p1.2.1,p1.2.2⟩⟩
def ka(c:Int)(h0:0≤c)(h1:c≤10000000):∃a b,a≤c∧En c [1,9]=some [a,b]∧Ea c [1,9]=some [a,b]:=by
 have t1:(c*1).tdiv 10=c / 10:=by rw[Int.mul_one,Int.tdiv_eq_ediv_of_nonneg h0]
 have t9:(c*9).tdiv 10=c*9 / 10:=Int.tdiv_eq_ediv_of_nonneg (by omega)
 have hb1:=Int.ediv_nonneg h0 (show(0:Int)≤10 by omega)
 have s4:run (ZK c [1,9] []) (0,0)=some (.brk 10):=by
  rw[Vk];show run (ZK c [1,9] []) (1,1)=_;rw[Vk];show run (ZK c [1,9] []) (10,2)=_;rw[Vk];rfl
 have i6:run (ZM c [1,9] [] [1,9] (ln ([1,9]:List Int))) (0,0)=some (.brk 10):=by
  rw[Vk];show run (ZM c [1,9] [] [1,9] (ln ([1,9]:List Int))) (1,1)=_;rw[Vk];show run (ZM c [1,9] [] [1,9] (ln ([1,9]:List Int))) (10,2)=_;rw[Vk];rfl
 have w1:QU ((QU (c*1)).tdiv 10)=c / 10:=by rw[VD (n:=c*1) (by omega) (by omega),t1,VD]<;>omega
 have w9:QU ((QU (c*9)).tdiv 10)=c*9 / 10:=by rw[VD (n:=c*9) (by omega) (by omega),t9,VD]<;>omega
 have s13:run (Jf c [1,9] 10) ([],c,0)=some ([c / 10,c*9 / 10],c-c / 10-c*9 / 10):=by
  rw[Vk];simp only[Jf,show decide ((0:Int)<ln ([1,9]:List Int))=true from rfl,show Q1 ([1,9]:List Int) 0=true from rfl,show(!decide ((10:Int)=0))=true from rfl,show gt ([1,9]:List Int) 0=1 from rfl,List.nil_append,w1,Qc,QL,VU (show([]:List Int).length+1≤2000000 by simp) (show 8≤1024 by omega),show Q1 ([c / 10]:List Int) 0=true from rfl,show gt ([c / 10]:List Int) 0=c / 10 from rfl,show QU (0+1)=1 from rfl,Qa]
  rw[Vk];simp only[Jf,show decide ((1:Int)<ln ([1,9]:List Int))=true from rfl,show Q1 ([1,9]:List Int) 1=true from rfl,show(!decide ((10:Int)=0))=true from rfl,show gt ([1,9]:List Int) 1=9 from rfl,w9,Qc,QL,VU (show([c / 10]:List Int).length+1≤2000000 by simp) (show 8≤1024 by omega),show([c / 10]++[c*9 / 10]:List Int)=[c / 10,c*9 / 10]from rfl,show Q1 ([c / 10,c*9 / 10]:List Int) 1=true from rfl,show gt ([c / 10,c*9 / 10]:List Int) 1=c*9 / 10 from rfl,show QU (1+1)=2 from rfl,Qa]
  rw[Vk];simp only[Jf,show decide ((2:Int)<ln ([1,9]:List Int))=false from rfl,Qb,Qa];rw[VD (n:=c-c / 10) (by omega) (by omega),VD (by omega) (by omega)]
 have i16:run (Ji c 10 [1,9] (ln ([1,9]:List Int))) ([],c,0)=some ([c / 10,c*9 / 10],c-c / 10-c*9 / 10):=by
  rw[Vk];simp only[Ji,show decide ((0:Int)<ln ([1,9]:List Int))=true from rfl,show Q1 ([1,9]:List Int) 0=true from rfl,show(!decide ((10:Int)=0))=true from rfl,show gt ([1,9]:List Int) 0=1 from rfl,List.nil_append,w1,Qc,QL,VU (show([]:List Int).length+1≤2000000 by simp) (show 8≤1024 by omega),show QU (0+1)=1 from rfl,Qa]
  rw[Vk];simp only[Ji,show decide ((1:Int)<ln ([1,9]:List Int))=true from rfl,show Q1 ([1,9]:List Int) 1=true from rfl,show(!decide ((10:Int)=0))=true from rfl,show gt ([1,9]:List Int) 1=9 from rfl,w9,Qc,QL,VU (show([c / 10]:List Int).length+1≤2000000 by simp) (show 8≤1024 by omega),show([c / 10]++[c*9 / 10]:List Int)=[c / 10,c*9 / 10]from rfl,show QU (1+1)=2 from rfl,Qa]
  rw[Vk];simp only[Ji,show decide ((2:Int)<ln ([1,9]:List Int))=false from rfl,Qb,Qa];rw[VD (n:=c-c / 10) (by omega) (by omega),VD (by omega) (by omega)]
 have hin1:(decide (0≤c)&&decide (c≤10000000))=true:=by rw[Qf h0,Qf h1];rfl
 have hleft:c-c / 10-c*9 / 10=0∨c-c / 10-c*9 / 10=1:=by omega
 refine⟨c / 10+(c-c / 10-c*9 / 10),c*9 / 10,by omega,?_,?_⟩
 ·unfold En QR
  simp only[s4,J1,Qa,hin1,Qh,Qb,show(decide ((1:Int)≤ln ([1,9]:List Int))&&decide (ln ([1,9]:List Int)≤20))=true from rfl,show decide ((10:Int)=0)=false from rfl,Bool.or_self,s13]
  rcases hleft with h|h
  ·rw[h,Vk]
   simp only[Zq,show decide ((0:Int)<0)=false from rfl,Qb,Qa,Int.add_zero]
  ·rw[h,Vk]
   simp only[Zq,show decide ((0:Int)<1)=true from rfl,Qc,show Q1 ([c / 10,c*9 / 10]:List Int) 0=true from rfl,QL,show gt ([c / 10,c*9 / 10]:List Int) 0=c / 10 from rfl,Qa,show QU (0+1)=1 from rfl];rw[Vk];simp only[Zq,show decide ((1:Int)<1)=false from rfl,Qb,Qa];rw[VD (by omega) (by omega)];rfl
 ·unfold Ea QO
  simp only[i6,J1,Qa,hin1,Qh,Qb,show(decide ((1:Int)≤ln ([1,9]:List Int))&&decide (ln ([1,9]:List Int)≤20))=true from rfl,show decide ((10:Int)=0)=false from rfl,i16]
  rcases hleft with h|h
  ·rw[h,Vk]
   simp only[Zi,show decide ((0:Int)<0)=false from rfl,Qb,Qa,Int.add_zero]
  ·rw[h,Vk]
   simp only[Zi,show decide ((0:Int)<1)=true from rfl,Qc,show Q1 ([c / 10,c*9 / 10]:List Int) 0=true from rfl,QL,show gt ([c / 10,c*9 / 10]:List Int) 0=c / 10 from rfl,show(!decide (ln (([c / 10,c*9 / 10]:List Int).set (0:Int).toNat (QU (c / 10+1)))=0))=true from rfl,Qa,show QU (1-1)=0 from rfl];rw[Vk];simp only[Zi,show decide ((0:Int)<0)=false from rfl,Qb,Qa];rw[VD (by omega) (by omega)];rfl
def wY(p f:Int)(h0:0≤p)(h1:p≤10000000):∃s,F2 p f=some s∧Gi p f=some s∧((¬(1≤f∧f≤999)∧s=[⟨0,p⟩])∨(1≤f∧∃a b,a≤p∧s=[⟨f,a⟩,⟨0,b⟩])):=by
 obtain⟨a,b,hab,s1,s2⟩:=ka p h0 h1;unfold F2 Gi QR QO;simp only[Qa,Qf h0,Qf h1,Bool.and_self,Qh,Qb,s1,s2,show Q1 ([a,b]:List Int) 0=true from rfl,show Q1 ([a,b]:List Int) 1=true from rfl,QL,show gt ([a,b]:List Int) 0=a from rfl,show gt ([a,b]:List Int) 1=b from rfl];by_cases hf:1≤f∧f≤999
 ·rw[Qf hf.1,Qf hf.2]
  exact⟨_,rfl,rfl,.inr ⟨hf.1,a,b,hab,rfl⟩⟩
 ·rw[show(decide (1≤f)&&decide (f≤999))=false from by rw[Bool.eq_false_iff];simpa using λh=>by omega]
  exact⟨_,rfl,rfl,.inl ⟨hf,rfl⟩⟩
def QeG(p f:Int)(h0:0≤p)(h1:p≤10000000):∃s,F2 p f=some s∧Gi p f=some s∧((¬(1≤f∧f≤999)∧s=[⟨0,p⟩])∨(1≤f∧∃a b,s=[⟨f,a⟩,⟨0,b⟩])):=by
 obtain⟨s,s1,s2,s3⟩:=wY p f h0 h1;refine⟨s,s1,s2,?_⟩
 rcases s3 with h|⟨h,a,b,_,e⟩
 ·exact .inl h
 ·exact .inr ⟨h,a,b,e⟩
def rS(l:List QB)(hl:l.length≤1048576)(h:J0 l=some true):∀i (hi:i<l.length),0≤l[i].Qz∧l[i].Qz≤999:=by
 have hb:∀f:QB,XN f=some true→0≤f.Qz∧f.Qz≤999:=by
  intro f hf;obtain⟨b,b1,_,_⟩:=SM f.Qo;unfold XN QR at hf;rw[b1]at hf;simp only[Qa]at hf;revert hf;cases b<;>cases (decide (1≤f.Place)&&decide (f.Place≤30))<;>cases (decide (0≤f.At)&&decide (f.At≤100000))<;>simp
 intro i hi;obtain⟨b,h1,h2,h3⟩:=GK (n:=l.length) (r:=false) (s1:=V2 l) (s2:=V2 l) (λi hi _=>by
   obtain⟨b,q1,q2,_⟩:=Ou l[i];simp only[V2,Q0 hi,QP hi,Q3 hi,Vg (show(i:Int)<9223372036854775807 by omega),Qc,QL,q1,Qa]
   by_cases h0:0<i
   ·simp only[show decide (0<(i:Int))=true from Qf (by omega),Ds h0 (by omega),QP (show i-1<l.length by omega),Qc,QL]
    cases b<;>cases decide (l[i].Qo.Id≤(gt l ((i-1:Nat):Int)).Qo.Id)<;>first|exact⟨true,rfl,rfl⟩|exact⟨false,rfl,rfl⟩
   ·simp only[show decide (0<(i:Int))=false from Qe (by omega),Qb]
    cases b<;>first|exact⟨true,rfl,rfl⟩|exact⟨false,rfl,rfl⟩)
  (by simp only[V2,Q6 (Qg _),Qb]) (by simp only[V2,Q6 (Qg _),Qb])
 have he:=(D6 (n:=l.length) (k:=20) _ h1).1;have hb':b=true:=by
  unfold J0 at h;rw[show(ln l:Int)=(l.length:Int)from rfl]at h;rw[he]at h;simp at h;exact h.1
 have hstep:=(h3 hb' i hi).1;obtain⟨c,q1,q2,q3⟩:=Ou l[i];simp only[V2,Q0 hi,QP hi,Q3 hi,Qc,QL,q1,Qa]at hstep;cases c with
 |true=>exact hb _ q1
 |false=>simp at hstep
def pay(h:Ql)(a b c:Int)(hm:QX h):∃r,EM h.Book ⟨a,b,c,h.Now⟩=some r∧Bh h.Book ⟨a,b,c,h.Now⟩=some r∧r.1.length≤1048576 ∧
  CE h a b c=some (bif decide (c=0)then(h,true)else(⟨h.No,h.Qt,h.Qn,h.Qs,h.Qv,h.Qq,h.Qw,r.1,h.Now⟩,r.2)):=by
 obtain⟨r,r1,r2,r3⟩:=jW h.Book ⟨a,b,c,h.Now⟩ hm.2.2.2.2.2.2;refine⟨r,r1,r2,r3,?_⟩;unfold CE;rw[r1];cases decide (c=0)<;>rfl
def co(h x:Ql)(b:Bool)(hm:QX h)(hx:QX x):((Vj h x b).bind λr=>some (r.1,r.2))=some (Gj h x b):=by
 rw[Hl h x b hm hx];rfl
def yN(h:Ql)(t:Int)(l:List Bid)(hm:QX h)(hl:l.length≤1048576):∃r,C0 h t l=some r∧EY h t l=some r∧QX r.1:=by
 have hm7:=hm;obtain⟨m1,m2,m3,m4,m5,m6,m7⟩:=hm7;obtain⟨w,w1,w2⟩:=KX h.Qs t m3;obtain⟨⟨who,price⟩,p1,p2,p3⟩:=Qj6 l hl;unfold C0 EY DO;simp only[p1,p2,(XX h.Qt t m1).1,(XX h.Qt t m1).2,(JR h hm).1,(JR h hm).2,Jx h hm,X3 h hm,w1,w2,Qa]
 rcases U2 h.Qt t with hx|⟨k,hk,hx⟩
 ·rw[hx]
  refine⟨(h,false),rfl,?_,hm⟩;cases Zy h<;>rfl
 ·rw[hx,Qe (show ¬(k:Int)<0 by omega)]
  rcases p3 with p3|⟨q1,q2,q3⟩
  ·injection p3 with e1 e2
   subst e1 e2;refine⟨(h,false),rfl,?_,hm⟩;cases Zy h with
   |false=>rfl
   |true =>
    cases E3 h.Qs t with
    |false=>rfl
    |true=>simp only[QP hk,QL];rfl
  ·simp only at q1 q2 q3
   rw[show decide (who=0)=false from Qe (by omega)]
   cases hb:Zy h with
   |false=>exact⟨(h,false),rfl,rfl,hm⟩
   |true =>
    have ho:=On h hm hb;obtain⟨f,f1,f2⟩:=nq h.Qt[k] h.Qv h.Now m4;have hfin:=rS h.Qt m1 ho.fS k hk;obtain⟨g,g1,g2,g3,g4,g5,g6,g7⟩:=iZ h t 4 who hm;simp only[Qb,Qh,Qa,QP hk,Q3 hk,QL,f1];by_cases hf:f=3
    ·subst hf
     obtain⟨s,s1,s2,s3⟩:=QeG price h.Qt[k].Qz (by omega) (by omega)
     obtain⟨e,e1,e2,e3,e4⟩:=pay g.1 who 0 price g3;rw[g5,g6]at e1 e2;have hpr:decide (price=0)=false:=Qe (by omega)
     rw[hpr]at e4;have n:=g3;obtain⟨n1,n2,n3,n4,n5,n6,n7⟩:=n;have o1:QX ⟨g.1.No,g.1.Qt,g.1.Qn,g.1.Qs,g.1.Qv,g.1.Qq,g.1.Qw,e.1,g.1.Now⟩:=⟨n1,n2,n3,n4,n5,n6,e3⟩;simp only[decide_true,Qh,Qb,g1,e4,s1,Qa]
     rcases s3 with⟨hno,rfl⟩|⟨hyes,a,b,rfl⟩
     ·have hf0:h.Qt[k].Qz=0:=by omega
      have hspec:(bif decide (ln ([⟨0,price⟩]:List Share)=2)then(none:Option (Ql×Bool))else some (h,false))=some (h,false):=rfl;simp only[show decide (ln ([⟨0,price⟩]:List Share)=2)=false from rfl,Qb,co h _ _ hm o1];refine⟨Gj h ⟨g.1.No,g.1.Qt,g.1.Qn,g.1.Qs,g.1.Qv,g.1.Qq,g.1.Qw,e.1,g.1.Now⟩ (g.2&&e.2),?_,?_,Dj _ _ _ hm o1⟩
      ·cases g.2<;>rfl
      ·cases hi:E3 h.Qs t with
       |false=>rw[g4 hi];rfl
       |true =>
        simp only[Qh,Qb,QP hk,Q3 hk,QL,f2,Qa,decide_true,Qh,g2,e2,s2,show decide (h.Qt[k].Qz=0)=true from Qf hf0];cases e.2<;>simp only[Qc,Qb,Qh,Qa,Fb h _ _ hm o1 (show[g.2,true,true].length≤1048576 by simp),Fb h _ _ hm o1 (show[g.2,false,true].length≤1048576 by simp),List.all_cons,List.all_nil,Bool.and_true,id_eq]
     ·have hf0:decide (h.Qt[k].Qz=0)=false:=Qe (by omega)
      obtain⟨d,d1,d2,d3,d4⟩:=pay ⟨g.1.No,g.1.Qt,g.1.Qn,g.1.Qs,g.1.Qv,g.1.Qq,g.1.Qw,e.1,g.1.Now⟩ 0 h.Qt[k].Qz a o1;simp only[g6]at d1 d2;have o2:QX ⟨g.1.No,g.1.Qt,g.1.Qn,g.1.Qs,g.1.Qv,g.1.Qq,g.1.Qw,d.1,g.1.Now⟩:=⟨n1,n2,n3,n4,n5,n6,d3⟩;simp only[show decide (ln ([⟨h.Qt[k].Qz,a⟩,⟨0,b⟩]:List Share)=2)=true from rfl,Qc,show Q1 ([⟨h.Qt[k].Qz,a⟩,⟨0,b⟩]:List Share) 0=true from rfl,QL,show gt ([⟨h.Qt[k].Qz,a⟩,⟨0,b⟩]:List Share) 0=⟨h.Qt[k].Qz,a⟩from rfl,d4,Qa];refine⟨bif decide (a=0)then Gj h ⟨g.1.No,g.1.Qt,g.1.Qn,g.1.Qs,g.1.Qv,g.1.Qq,g.1.Qw,e.1,g.1.Now⟩ (g.2&&e.2)else Gj h ⟨g.1.No,g.1.Qt,g.1.Qn,g.1.Qs,g.1.Qv,g.1.Qq,g.1.Qw,d.1,g.1.Now⟩ (g.2&&(e.2&&d.2)),?_,?_,?_⟩
      ·cases decide (a=0)with
       |true=>simp only[Qc,co h _ _ hm o1];cases g.2<;>cases e.2<;>rfl
       |false=>simp only[Qb,co h _ _ hm o2];cases g.2<;>cases e.2<;>rfl
      ·cases hi:E3 h.Qs t with
       |false =>
        rw[g4 hi];simp only[Qi,Bool.false_and,KW];cases decide (a=0)<;>rfl
       |true =>
        simp only[Qh,Qb,QP hk,Q3 hk,QL,f2,Qa,decide_true,Qh,g2,e2,s2,hf0,Qi,show Q1 ([⟨h.Qt[k].Qz,a⟩,⟨0,b⟩]:List Share) 0=true from rfl,show gt ([⟨h.Qt[k].Qz,a⟩,⟨0,b⟩]:List Share) 0=⟨h.Qt[k].Qz,a⟩from rfl,Qc];cases he:e.2 with
        |false =>
         simp only[Qb,Qa,Fb h _ _ hm o1 (show[g.2,false,true].length≤1048576 by simp),List.all_cons,List.all_nil,Bool.and_true,id_eq,Bool.false_and,Bool.and_false,KW]
         cases decide (a=0)<;>rfl
        |true =>
         cases ha:decide (a=0)with
         |true=>simp only[Qc,Qb,Qh,Qa,Fb h _ _ hm o1 (show[g.2,true,true].length≤1048576 by simp),List.all_cons,List.all_nil,Bool.and_true,id_eq]
         |false=>simp only[Qc,Qb,Qi,Qa,d2,Fb h _ _ hm o2 (show[g.2,true,d.2].length≤1048576 by simp),List.all_cons,List.all_nil,Bool.and_true,Bool.true_and,id_eq]
      ·cases decide (a=0)with
       |true=>exact Dj _ _ _ hm o1
       |false=>exact Dj _ _ _ hm o2
    ·simp only[Qe hf,Qi,Qc]
     refine⟨(h,false),rfl,?_,hm⟩;cases E3 h.Qs t with
     |false=>rfl
     |true=>simp only[Qh,Qb,QP hk,Q3 hk,QL,f2,Qa,Qe hf,Qi,Qc]
def l9(l:List QB)(id:Int):XG l id=-1∨∃k:Nat,∃hk:k<l.length,XG l id=(k:Int)∧l[k].Qo.Id=id:=by
 unfold XG;cases hf:l.findIdx? (λx=>decide (x.Qo.Id=id))with
 |none=>exact .inl rfl
 |some i =>
  obtain⟨hi,hp⟩:=C6 hf;exact .inr ⟨i,hi,rfl,by simpa using hp⟩
def Qdj(l:List QB)(f:QB)(hl:l.length≤1048576):∃r,FL l f=some r∧HX l f=some r∧r.1.length≤1048576:=by
 obtain⟨k,hk,hr⟩:=qO (n:=l.length) (λi=>decide ((gt l (i:Int)).Qo.Id<f.Qo.Id)) (step:=Ck l f)
  (λi hi=>by
   simp only[Ck,Q0 hi,QP hi,Vg (show(i:Int)<9223372036854775807 by omega),Qc,QL,Qa]
   cases decide ((gt l (i:Int)).Qo.Id<f.Qo.Id)<;>rfl)
  (by simp only[Ck,Q6 (Qg _),Qb];rfl)
 have hr2:run (GP l f l) 0=some (k:Int):=hr;have hlen:=K8 l k hk f;obtain⟨b,b1,b2,b3⟩:=fq (VY l (k:Int) [f]) (by omega)
 have hrm:rm (0+l.length) 64=true:=VU (by omega) (by omega)
 have hrm1:rm (0+(cut l 0 (k:Int)).length) 64=true:=VU (by rw[Za,List.length_take];omega) (by omega)
 have hrm2:rm ((cut l 0 (k:Int)).length+1) 64=true:=VU (by rw[Za,List.length_take];omega) (by omega)
 have hrm3:rm ((cut l 0 (k:Int)).length+1+(cut l (k:Int) (ln l)).length) 64=true:=VU (by rw[Za,KB,List.length_take,List.length_drop];omega) (by omega)
 have hs:FL l f=some (bif b then(VY l (k:Int) [f],true)else(l,false)):=by
  unfold FL;simp only[hr,Vp,Md hk,Td hk,Qa,QL];rw[←Vp];simp only[hrm1,hrm2,hrm3,hrm,S8,b1,QL,Qa];cases b<;>rfl
 refine⟨_,hs,?_,?_⟩
 ·unfold HX J6
  simp only[hrm,QL,Qa,(XX l f.Qo.Id hl).2,hr2,Y4 l k hk f 64 hl (by omega),b2]
  rcases l9 l f.Qo.Id with h|⟨j,hj,h,hid⟩
  ·rw[h];cases b<;>rfl
  ·rw[h,Qf (show(0:Int)≤(j:Int)by omega)]
   cases b with
   |false=>rfl
   |true=>exact absurd (gk (λx:QB=>x.Qo.Id) l k hk f (b3 rfl).2.2 j hj hid) id
 ·cases b with
  |false=>exact hl
  |true=>have:=(b3 rfl).1;show(VY l (k:Int) [f]).length≤_;omega
def za(l:List Qm)(t:Int)(hl:l.length≤1048576):Bj l t=some (-1)∨∃k:Nat,∃hk:k<l.length,Bj l t=some (k:Int)∧l[k].Qo=t:=by
 have hi:=Jo l (λx=>decide (x.Qo=t)) (λi=>(i:Int)) (step:=Vb l t (ln l))
  (λi hi=>by
   simp only[Vb,Ed,Qa,Q0 hi,QP hi,Q3 hi,Vg (show(i:Int)<9223372036854775807 by omega),Qc,QL]
   cases decide (l[i].Qo=t)<;>rfl)
  (by simp only[Vb,Q6 (Qg _),Qb])
 unfold Bj VP;rw[hi];cases hf:l.findIdx? (λx=>decide (x.Qo=t))with
 |none=>exact .inl rfl
 |some i =>
  obtain⟨hi',hp⟩:=C6 hf;exact .inr ⟨i,hi',rfl,by simpa using hp⟩
def wO{α:Type}{sm:α→Prop}{l:List α}(h:tX sm l)(k:Nat):tX sm (l.take k):=⟨by have:=h.1;rw[List.length_take];omega,λx hx=>h.2 x (List.mem_of_mem_take hx)⟩
def yY{α:Type}{sm:α→Prop}{l:List α}(h:tX sm l)(k:Nat):tX sm (l.drop k):=⟨by have:=h.1;rw[List.length_drop];omega,λx hx=>h.2 x (List.mem_of_mem_drop hx)⟩
def tF(l:List Qm)(x:Qm)(hm:tX JU l)(hx:x.Marks.length≤1048576):∃r,Dz l x=some r∧FD l x=some r∧tX JU r.1:=by
 have hl:=hm.1;obtain⟨k,hk,hr⟩:=qO (n:=l.length) (λi=>decide ((gt l (i:Int)).Qo<x.Qo)) (step:=Aj l x)
  (λi hi=>by
   simp only[Aj,Q0 hi,QP hi,Vg (show(i:Int)<9223372036854775807 by omega),Qc,QL,Qa]
   cases decide ((gt l (i:Int)).Qo<x.Qo)<;>rfl)
  (by simp only[Aj,Q6 (Qg _),Qb];rfl)
 have hr2:run (Fc l x l) 0=some (k:Int):=hr;have hlen:=K8 l k hk x;have hmem:∀y∈VY l (k:Int) [x],JU y:=by
  intro y hy;simp only[VY,Int.toNat_natCast,List.singleton_append,List.mem_append,List.mem_cons]at hy
  rcases hy with h|h|h
  ·exact hm.2 y (List.mem_of_mem_take h)
  ·subst h;exact hx
  ·exact hm.2 y (List.mem_of_mem_drop h)
 obtain⟨b,b1,b2,b3⟩:=WB (VY l (k:Int) [x]) (by omega) hmem
 have hrm1:rm ((cut l 0 (k:Int)).length+[x].length) 40=true:=VU (by rw[Za,List.length_take];simp;omega) (by omega)
 have hrm3:rm ((cut l 0 (k:Int)).length+[x].length+(cut l (k:Int) (ln l)).length) 40=true:=VU (by rw[Za,KB,List.length_take,List.length_drop];simp;omega) (by omega)
 have c1:Jw (cut l 0 (k:Int))=some (cut l 0 (k:Int)):=by rw[Za];exact SW _ (wO hm k)
 have c2:Jw (cut l (k:Int) (ln l))=some (cut l (k:Int) (ln l)):=by rw[KB];exact SW _ (yY hm k)
 have c3:Jw [x]=some [x]:=SW _ ⟨by simp,λy hy=>by simp at hy;subst hy;exact hx⟩
 have hs:Dz l x=some (bif b then(VY l (k:Int) [x],true)else(l,false)):=by
  unfold Dz;simp only[hr,Qa];rw[show Ff 0 (k:Int) (ln l)=true from Md hk,show Ff (k:Int) (ln l) (ln l)=true from Td hk];simp only[QL,c1,c2,c3,hrm1,hrm3,S8,b1,SW l hm,Qa];cases b<;>rfl
 refine⟨_,hs,?_,?_⟩
 ·unfold FD Jk
  simp only[TW l hm,Qa,hr2,VU (show 0+x.Marks.length≤2000000 by omega) (show 16≤1024 by omega),QL,show(⟨x.Qo,x.Marks,x.Salt⟩:Qm)=x from rfl,Y4 l k hk x 40 hl (by omega),b2]
  rcases za l x.Qo hl with h|⟨j,hj,h,hid⟩
  ·rw[h];cases b<;>rfl
  ·rw[h]
   simp only[Qa,Qf (show(0:Int)≤(j:Int)by omega)]
   cases b with
   |false=>rfl
   |true=>exact absurd (gk (λx:Qm=>x.Qo) l k hk x (b3 rfl).2 j hj hid) id
 ·cases b with
  |false=>exact hm
  |true=>exact⟨by have:=(b3 rfl).1;show(VY l (k:Int) [x]).length≤_;omega,hmem⟩
def zj(l:List Qr)(x:Qo)(hl:l.length≤1048576):∃r,Gc l x=some r∧F8 l x=some r∧r.1.length=l.length∧(r.2=true→1≤x.Id∧∃y∈r.1,y.Qo=x.Id):=by
 obtain⟨c,c1,c2,c3⟩:=UQ l hl;obtain⟨t,t1,t2,t3⟩:=SM x;have hrm:rm (0+l.length) 24=true:=VU (by omega) (by omega)
 obtain⟨v,hv,hq⟩:=Om (n:=l.length) (step:=VX l x.Size) (fin:=λv=>v) (λi v=>v=-1∨∃j:Nat,j<i∧j<l.length∧v=(j:Int))
  (λi v hi hv=>by
   have hw:=Vg (show(i:Int)<9223372036854775807 by omega)
   have hcase:VX l x.Size (v,(i:Int))=some (.inl ((i:Int),((i+1:Nat):Int)))∨VX l x.Size (v,(i:Int))=some (.inl (v,((i+1:Nat):Int))):=by
    rcases hv with rfl|⟨j,hj,hjl,rfl⟩
    ·simp only[VX,Q0 hi,QP hi,Q3 hi,hw,Qc,QL,show decide ((-1:Int)<0)=true from rfl]
     cases decide (l[i].Qo=0)<;>cases decide (x.Size≤l[i].Size)<;>first|exact .inl rfl|exact .inr rfl
    ·simp only[VX,Q0 hi,QP hi,Q3 hi,QP hjl,Q3 hjl,hw,Qc,Qb,QL,Qe (show ¬(j:Int)<0 by omega)]
     cases decide (l[i].Qo=0)<;>cases decide (x.Size≤l[i].Size)<;>cases decide (l[i].Size<l[j].Size)<;>first|exact .inl rfl|exact .inr rfl
   rcases hcase with h|h
   ·exact⟨_,h,.inr ⟨i,by omega,hi,rfl⟩⟩
   ·refine⟨_,h,?_⟩
    rcases hv with h'|⟨j,hj,hjl,h'⟩
    ·exact .inl h'
    ·exact .inr ⟨j,by omega,hjl,h'⟩)
  (λv _=>by simp only[VX,Q6 (Qg _),Qb]) (-1) (.inl rfl)
 have hf:HO l x.Size=some v:=by
  unfold HO;rw[show EA l x.Size l (ln l)=VX l x.Size from by funext ⟨k,i⟩;simp only[EA,VX];cases decide (i<ln l)<;>cases Q1 l i<;>rfl,hv];rfl
 have hsf:CB l x.Size=some (bif decide (v<0)then 0 else(gt l v).Id):=by
  unfold CB;rw[hv]
  rcases hq with rfl|⟨j,_,hjl,rfl⟩
  ·rfl
  ·simp only[Qa,Qe (show ¬(j:Int)<0 by omega),Qb,QP hjl,QL]
 unfold Gc F8 XF;simp only[hrm,QL,c1,c2,t1,t2,hf,hsf,Y1 l x.Id hl,LW l x.Id hl,Qa];cases c with
 |false=>exact⟨(l,false),rfl,rfl,rfl,λh=>by cases h⟩
 |true =>
  obtain⟨s1,s2,s3⟩:=c3 rfl;cases t with
  |false=>exact⟨(l,false),rfl,rfl,rfl,λh=>by cases h⟩
  |true =>
   rcases hq with rfl|⟨k,_,hk,rfl⟩
   ·exact⟨(l,false),rfl,rfl,rfl,λh=>by cases h⟩
   ·have hid:1≤l[k].Id:=s2 _ (List.getElem_mem hk)
    have hsame:(!decide ((bif decide (x.Id=0)||decide (DI l x.Id<0)then(0:Int)else(gt l (DI l x.Id)).Id)=0))=decide (0≤(bif decide (x.Id=0)then(-1:Int)else DI l x.Id)):=by
     cases decide (x.Id=0)with
     |true=>rfl
     |false =>
      rcases Io l x.Id with⟨_,h2⟩|⟨j,hj,h2,_,_⟩
      ·rw[h2];rfl
      ·rw[h2]
       have:=s2 _ (List.getElem_mem hj);simp only[Bool.false_or,Qe (show ¬(j:Int)<0 by omega),Qb,Q3 hj,Qe (show ¬l[j].Id=0 by omega),Qf (show(0:Int)≤(j:Int)by omega)];rfl
    simp only[Qh,Qb,Qe (show ¬(k:Int)<0 by omega),Q3 hk,QP hk,QL,Qe (show ¬l[k].Id=0 by omega),Int.toNat_natCast,Qa,hsame]
    cases decide (0≤(bif decide (x.Id=0)then(-1:Int)else DI l x.Id))with
    |true=>exact⟨(l,false),rfl,rfl,rfl,λh=>by cases h⟩
    |false =>
     have hr:=J2 (step:=Ju x l[k].Id) (λi=>(if i≤k then l else l.set k ⟨l[k].Id,l[k].Size,x.Id⟩,(i:Int))) (r:=l.set k ⟨l[k].Id,l[k].Size,x.Id⟩) l.length (λi hi=>by
       have hw:=Vg (show(i:Int)<9223372036854775807 by omega)
       by_cases hik:i<k
       ·have hne:¬l[i].Id=l[k].Id:=λe=>by have:=Mo l s3 i k hi hk e;omega
        simp only[Ju,if_pos (show i≤k by omega),if_pos (show i+1≤k by omega),Q0 hi,QP hi,Q3 hi,hw,Qe hne,Qc,Qb,QL]
       ·by_cases hek:i=k
        ·subst hek
         simp only[Ju,if_pos (Qg i),if_neg (show ¬i+1≤i by omega),Q0 hi,QP hi,Q3 hi,hw,decide_true,Qc,QL,Int.toNat_natCast]
        ·have hne:¬l[i].Id=l[k].Id:=λe=>by have:=Mo l s3 i k hi hk e;omega
         have hi':i<(l.set k ⟨l[k].Id,l[k].Size,x.Id⟩).length:=by rw[List.length_set];exact hi
         have hg:gt (l.set k ⟨l[k].Id,l[k].Size,x.Id⟩) (i:Int)=l[i]:=by rw[iN l k _ i hi,if_neg hek,Q3 hi]
         simp only[Ju,if_neg (show ¬i≤k by omega),if_neg (show ¬i+1≤k by omega),Q0 hi',QP hi',hg,hw,Qe hne,Qc,Qb,QL])
      (by
       simp only[Ju,if_neg (show ¬l.length≤k by omega)]
       rw[show decide ((l.length:Int)<ln (l.set k ⟨l[k].Id,l[k].Size,x.Id⟩))=false from Qe (by rw[Vp,List.length_set];omega)]
       rfl)
     simp only[Qb,show run (Ju x l[k].Id) (l,0)=some (l.set k ⟨l[k].Id,l[k].Size,x.Id⟩)from hr,Qa];exact⟨_,rfl,rfl,List.length_set,λ_=>⟨t3 rfl,_,List.mem_iff_getElem.2 ⟨k,by simpa using hk,List.getElem_set_self (by simpa using hk)⟩,rfl⟩⟩
def QdJ(l:List Qr)(x:Qo)(hl:l.length≤1048576):∃r,Gc l x=some r∧F8 l x=some r∧r.1.length=l.length:=by
 obtain⟨r,r1,r2,r3,_⟩:=zj l x hl;exact⟨r,r1,r2,r3⟩
def uS(h:Ql)(f:QB)(m:List Mark)(s:Int)(hm:QX h)(hk:m.length≤1048576):∃r,CY h f m s=some r∧ES h f m s=some r∧QX r.1:=by
 have hm7:=hm;obtain⟨m1,m2,m3,m4,m5,m6,m7⟩:=hm7;obtain⟨a,a1,a2,a3⟩:=Qdj h.Qt f m1;obtain⟨b,b1,b2,b3⟩:=tF h.Qn ⟨f.Qo.Id,m,s⟩ m2 hk;obtain⟨c,c1,c2,c3⟩:=QdJ h.Qs f.Qo m3;obtain⟨d,d1,d2,d3⟩:=oB h.Qw ⟨f.Qo.Id,2,h.No,h.Now,0⟩ m6;have w:QX ⟨h.No,a.1,b.1,c.1,h.Qv,h.Qq,d.1,h.Book,h.Now⟩:=⟨a3,b3,by show c.1.length≤_;omega,m4,m5,d3,m7⟩
 refine⟨Gj h ⟨h.No,a.1,b.1,c.1,h.Qv,h.Qq,d.1,h.Book,h.Now⟩ (a.2&&(b.2&&(c.2&&d.2))),?_,?_,Dj _ _ _ hm w⟩
 ·unfold CY
  simp only[Jx h hm,a1,b1,c1,d1,Hl h _ _ hm w,Qa];cases a.2<;>cases b.2<;>cases c.2<;>rfl
 ·unfold ES
  simp only[X3 h hm,a2,b2,c2,d2,Fb h _ _ hm w (show[a.2,b.2,c.2,d.2].length≤1048576 by simp),Qa,List.all_cons,List.all_nil,Bool.and_true,id_eq]
def OC(l:List Qu)(hl:l.length≤2097152)(h:V5 l=some true):∀i (hi:i<l.length) (h0:0<i),(l[i-1]'(by omega)).Id<l[i].Id:=by
 intro i hi h0;have ho:=(Mb l h hl).2 i hi;unfold It at ho;simp only[Bool.and_eq_true,Bool.or_eq_true,Q3 hi,Q3 (show i-1<l.length by omega)]at ho
 have:=ho.2.2.2.2.2.1;simp at this;omega
def wq{α:Type}[Inhabited α](key:α→Int)(l:List α)(k:Nat)(hk:k≤l.length)(x:α)(up:∀i (hi:i<(VY l (k:Int) [x]).length) (h0:0<i),key ((VY l (k:Int) [x])[i-1]'(by omega))<key (VY l (k:Int) [x])[i])(j:Nat)(hj:j<l.length):if j<k then key l[j]<key x else key x<key l[j]:=by
 have hlen:=K8 l k hk x;have hu:=oF (n:=(VY l (k:Int) [x]).length) (λi=>key (gt (VY l (k:Int) [x]) (i:Int))) (λi h1 h2=>by
  show key (gt (VY l (k:Int) [x]) ((i-1:Nat):Int))<key (gt (VY l (k:Int) [x]) (i:Int));rw[Q3 h1,Q3 (show i-1<(VY l (k:Int) [x]).length by omega)];exact up i h1 h2)
 have g1:gt (VY l (k:Int) [x]) (k:Int)=x:=by
  have hlt:k<(VY l (k:Int) [x]).length:=by omega
  rw[Q3 hlt];have:=nC l k hk x;rw[List.getElem?_eq_getElem hlt]at this;exact Option.some.inj this
 have hidx:(if j<k then j else j+1)<(VY l (k:Int) [x]).length:=by split<;>omega
 have g2:gt (VY l (k:Int) [x]) ((if j<k then j else j+1:Nat):Int)=l[j]:=by
  rw[Q3 hidx];have:=rq l k hk x j hj;rw[List.getElem?_eq_getElem hidx]at this;exact Option.some.inj this
 by_cases h:j<k
 ·have:=hu k (if j<k then j else j+1) (by rw[if_pos h];exact h) (by omega)
  simp only[g1,g2]at this;rw[if_pos h];exact this
 ·have:=hu (if j<k then j else j+1) k (by rw[if_neg h];omega) hidx
  simp only[g1,g2]at this;rw[if_neg h];exact this
def Qef{α:Type}[Inhabited α](key:α→Int)(l:List α)(k1 k2:Nat)(h1:k1≤l.length)(h2:k2≤l.length)(x:α)
  (a1:∀j (hj:j<l.length),k1≤j→¬key l[j]<key x) (a2:∀(h:0<k1),key (l[k1-1]'(by omega))<key x)
  (b1:∀j (hj:j<l.length),j<k2→key l[j]<key x) (b2:∀(h:k2<l.length),¬key l[k2]<key x)
  (up:(∀i (hi:i<(VY l (k1:Int) [x]).length) (h0:0<i),key ((VY l (k1:Int) [x])[i-1]'(by omega))<key (VY l (k1:Int) [x])[i])∨(∀i (hi:i<(VY l (k2:Int) [x]).length) (h0:0<i),key ((VY l (k2:Int) [x])[i-1]'(by omega))<key (VY l (k2:Int) [x])[i])):k1=k2:=by
 rcases up with up|up
 ·have hj:=wq key l k1 h1 x up
  by_cases h:k1<k2
  ·exact absurd (b1 k1 (by omega) h) (a1 k1 (by omega) (Qg _))
  ·by_cases h':k2<k1
   ·have:=hj k2 (by omega)
    rw[if_pos h']at this;exact absurd this (b2 (by omega))
   ·omega
 ·have hj:=wq key l k2 h2 x up
  by_cases h:k1<k2
  ·exact absurd (b1 k1 (by omega) h) (a1 k1 (by omega) (Qg _))
  ·by_cases h':k2<k1
   ·have h3:=hj (k1-1) (by omega)
    rw[if_neg (by omega)]at h3
    have h4:=a2 (by omega)
    omega
   ·omega
def fK{n:Nat}(p:Nat→Bool){step:Int→Option (Int⊕Int)}(h1:∀i,i<n→step (i:Int)=some (bif p i then .inl ((i+1:Nat):Int)else .inr (i:Int)))(h2:step (n:Int)=some (.inr (n:Int))):∃k:Nat,k≤n∧run step 0=some (k:Int)∧(∀j,j<k→p j=true)∧(k<n→p k=false):=by
 have key:∀(m i:Nat),i+m=n→(∀j,j<i→p j=true)→∃k:Nat,k≤n∧run step (i:Int)=some (k:Int)∧(∀j,j<k→p j=true)∧(k<n→p k=false):=by
  intro m
  induction m with
  |zero =>
   intro i hi hp;have:i=n:=by omega
   subst this;exact⟨i,Qg _,by rw[Vk,h2];rfl,hp,λh=>by omega⟩
  |succ m ih =>
   intro i hi hp';cases hp:p i with
   |false=>exact⟨i,by omega,by rw[Vk,h1 i (by omega),hp];rfl,hp',λ_=>hp⟩
   |true =>
    obtain⟨k,k1,k2,k3⟩:=ih (i+1) (by omega) (λj hj=>by
     by_cases hji:j=i
     ·subst hji;exact hp
     ·exact hp' j (by omega))
    exact⟨k,k1,by rw[Vk,h1 i (by omega),hp];exact k2,k3⟩
 exact key n 0 (by omega) (λj hj=>by omega)
def Gm(l:List Qu)(id:Int):Nat→Nat
 |0=>0
 |n+1=>bif decide ((gt l (n:Int)).Id<id)then n+1 else Gm l id n
def fF(l:List Qu)(id:Int):∀n,Gm l id n≤n
 |0=>Qg _
 |n+1=>by
  have:=fF l id n;unfold Gm;cases decide ((gt l (n:Int)).Id<id)<;>simp<;>omega
def fo(l:List Qu)(id:Int):∀n j,Gm l id n≤j→j<n→¬(gt l (j:Int)).Id<id
 |0,j,_,h=>by omega
 |n+1,j,h1,h2=>by
  unfold Gm at h1;cases hd:decide ((gt l (n:Int)).Id<id)with
  |true=>rw[hd]at h1;simp at h1;omega
  |false =>
   rw[hd]at h1;by_cases hj:j=n
   ·subst hj;exact of_decide_eq_false hd
   ·exact fo l id n j h1 (by omega)
def fP(l:List Qu)(id:Int):∀n,0<Gm l id n→(gt l ((Gm l id n-1:Nat):Int)).Id<id
 |0,h=>by simp[Gm]at h
 |n+1,h=>by
  unfold Gm at h ⊢;cases hd:decide ((gt l (n:Int)).Id<id)with
  |true=>simp only[Qc,Nat.add_sub_cancel];exact of_decide_eq_true hd
  |false=>rw[hd]at h;exact fP l id n h
def wW(l:List Qu)(x:Qu)(hl:l.length≤1048576):∃r,EP l x=some r∧GE l x=some r∧r.1.length≤1048576 ∧
  (r.2=true→∃k:Nat,k≤l.length∧r.1=VY l (k:Int) [x]∧E7 r.1 x.Id=(k:Int)∧(∀j (hj:j<l.length),j<k→l[j].Id<x.Id)∧(∀j (hj:j<l.length),k≤j→¬l[j].Id<x.Id)):=by
 have hs:=J2 (step:=ZX l x) (λi=>(((Gm l x.Id i:Nat):Int),(!decide (x.State=0))||(l.take i).any (λy=>decide (y.QA=x.QA)&&decide (y.Qo=x.Qo)),(i:Int)))
  (r:=(((Gm l x.Id l.length:Nat):Int),(!decide (x.State=0))||l.any (λy=>decide (y.QA=x.QA)&&decide (y.Qo=x.Qo)))) l.length (λi hi=>by
   have hw:=Vg (show(i:Int)<9223372036854775807 by omega)
   have hany:(l.take (i+1)).any (λy=>decide (y.QA=x.QA)&&decide (y.Qo=x.Qo))=((l.take i).any (λy=>decide (y.QA=x.QA)&&decide (y.Qo=x.Qo))||(decide (l[i].QA=x.QA)&&decide (l[i].Qo=x.Qo))):=by
    rw[List.take_succ_eq_append_getElem hi,List.any_append];simp
   have ha:Gm l x.Id (i+1)=bif decide (l[i].Id<x.Id)then i+1 else Gm l x.Id i:=by
    rw[Gm,Q3 hi]
   simp only[ZX,Q0 hi,QP hi,Q3 hi,hw,Qc,QL,hany,ha];generalize (l.take i).any (λy=>decide (y.QA=x.QA)&&decide (y.Qo=x.Qo))=q
   cases decide (x.State=0)<;>cases q<;>cases (decide (l[i].QA=x.QA)&&decide (l[i].Qo=x.Qo))<;>cases decide (l[i].Id<x.Id)<;>rfl)
  (by simp only[ZX,Q6 (Qg _),Qb,List.take_length])
 have hs':run (ZX l x) (0,(!decide (x.State=0)),0)=some (((Gm l x.Id l.length:Nat):Int),(!decide (x.State=0))||l.any (λy=>decide (y.QA=x.QA)&&decide (y.Qo=x.Qo))):=by
  have:((!decide (x.State=0))||(l.take 0).any (λy=>decide (y.QA=x.QA)&&decide (y.Qo=x.Qo)))=!decide (x.State=0):=by simp
  rw[this]at hs;exact hs
 have hk1:=fF l x.Id l.length;have hhi:=fo l x.Id l.length;have hlo:=fP l x.Id l.length;generalize Gm l x.Id l.length=k1 at hs' hk1 hhi hlo;obtain⟨k2,hk2,hr,hf1,hf2⟩:=fK (n:=l.length) (λi=>decide ((gt l (i:Int)).Id<x.Id)) (step:=Bu l x l)
  (λi hi=>by
   simp only[Bu,Q0 hi,QP hi,Vg (show(i:Int)<9223372036854775807 by omega),Qc,QL,Qa]
   cases decide ((gt l (i:Int)).Id<x.Id)<;>rfl)
  (by simp only[Bu,Q6 (Qg _),Qb];rfl)
 have A1:∀j (hj:j<l.length),k1≤j→¬l[j].Id<x.Id:=λj hj h=>by have:=hhi j h hj;rw[Q3 hj]at this;exact this
 have A2:∀(h:0<k1),(l[k1-1]'(by omega)).Id<x.Id:=λh=>by have:=hlo h;rw[Q3 (show k1-1<l.length by omega)]at this;exact this
 have B1:∀j (hj:j<l.length),j<k2→l[j].Id<x.Id:=λj hj h=>by have:=hf1 j h;simp only[Q3 hj,decide_eq_true_eq]at this;exact this
 have B2:∀(h:k2<l.length),¬l[k2].Id<x.Id:=λh=>by have:=hf2 h;simp only[Q3 h,decide_eq_false_iff_not]at this;exact this
 have hl1:=K8 l k1 hk1 x;have hl2:=K8 l k2 hk2 x;obtain⟨b,b1,b2,_⟩:=RD (VY l (k1:Int) [x]) (by omega)
 obtain⟨c,c1,c2,_⟩:=RD (VY l (k2:Int) [x]) (by omega)
 have hone:b=true∨c=true→k1=k2:=λh=>Qef (λy:Qu=>y.Id) l k1 k2 hk1 hk2 x A1 A2 B1 B2 (by
  rcases h with rfl|rfl
  ·exact .inl (OC _ (by omega) b1)
  ·exact .inr (OC _ (by omega) c1))
 have hbc:b=c:=by
  cases hb:b with
  |true =>
   have:=hone (.inl hb);subst this;rw[b1,hb]at c1;exact Option.some.inj c1
  |false=>cases hc:c with
   |false=>rfl
   |true =>
    have:=hone (.inr hc);subst this;rw[c1,hc]at b1;rw[hb]at b1;cases b1
 have hi:=Jo l (λy=>decide (y.QA=x.QA)&&decide (y.Qo=x.Qo)) (λi=>(i:Int)) (step:=Vu l x (ln l))
  (λi hi=>by
   simp only[Vu,GU,Q0 hi,QP hi,Q3 hi,Vg (show(i:Int)<9223372036854775807 by omega),Qc,QL,Qa]
   cases (decide (l[i].QA=x.QA)&&decide (l[i].Qo=x.Qo))<;>rfl)
  (by simp only[Vu,Q6 (Qg _),Qb])
 have hc:VL l x=some (l.any (λy=>decide (y.QA=x.QA)&&decide (y.Qo=x.Qo))):=by
  unfold VL Xm;rw[hi];cases hf:l.findIdx? (λy=>decide (y.QA=x.QA)&&decide (y.Qo=x.Qo))with
  |none =>
   have:l.any (λy=>decide (y.QA=x.QA)&&decide (y.Qo=x.Qo))=false:=by
    rw[List.any_eq_false];intro y hy;have:=List.findIdx?_eq_none_iff.1 hf y hy;simpa using this
   rw[this];rfl
  |some i =>
   obtain⟨hi',hp⟩:=C6 hf;rw[List.any_eq_true.2 ⟨_,List.getElem_mem hi',hp⟩];simp only[Qa,J1,Qf (show(0:Int)≤(i:Int)by omega)]
 have hrm:rm (0+l.length) 40=true:=VU (by omega) (by omega)
 have hrm1:rm (0+(cut l 0 (k1:Int)).length) 40=true:=VU (by rw[Za,List.length_take];omega) (by omega)
 have hrm2:rm ((cut l 0 (k1:Int)).length+1) 40=true:=VU (by rw[Za,List.length_take];omega) (by omega)
 have hrm3:rm ((cut l 0 (k1:Int)).length+1+(cut l (k1:Int) (ln l)).length) 40=true:=VU (by rw[Za,KB,List.length_take,List.length_drop];omega) (by omega)
 have hspec:EP l x=some (bif ((!decide (x.State=0))||l.any (λy=>decide (y.QA=x.QA)&&decide (y.Qo=x.Qo)))||!b then(l,false)else(VY l (k1:Int) [x],true)):=by
  unfold EP;simp only[hs',Qa];rw[show Ff 0 (k1:Int) (ln l)=true from Md hk1,show Ff (k1:Int) (ln l) (ln l)=true from Td hk1];simp only[QL,hrm,hrm1,hrm2,hrm3,S8,b1,Qa];cases ((!decide (x.State=0))||l.any (λy=>decide (y.QA=x.QA)&&decide (y.Qo=x.Qo)))<;>cases b<;>rfl
 have hdup:∀j:Nat,∀hj:j<l.length,l[j].Id=x.Id→b=true→False:=λj hj he hb=>by
  subst hb;exact gk (λy:Qu=>y.Id) l k1 hk1 x (OC _ (by omega) b1) j hj he
 refine⟨_,hspec,?_,?_,?_⟩
 ·unfold GE Xf
  simp only[hrm,QL,Qa,Rg l x.Id hl,hc,hr,Y4 l k2 hk2 x 40 hl (by omega),c2]
  rw[←hbc];cases hb:b with
  |false =>
   cases decide (x.State=0)<;>cases decide (0≤E7 l x.Id)<;>cases l.any (λy=>decide (y.QA=x.QA)&&decide (y.Qo=x.Qo))<;>rfl
  |true =>
   have hk:=hone (.inl hb)
   rcases Kx l x.Id with h|⟨j,hj,h,hid⟩
   ·rw[h,←hk]
    cases decide (x.State=0)<;>cases l.any (λy=>decide (y.QA=x.QA)&&decide (y.Qo=x.Qo))<;>rfl
   ·exact absurd hb (λhb=>hdup j hj hid hb)
 ·cases hb:b with
  |true =>
   subst hb;have:=(Mb _ b1 (by omega)).1
   cases (((!decide (x.State=0))||l.any (λy=>decide (y.QA=x.QA)&&decide (y.Qo=x.Qo)))||!true)with
   |true=>exact hl
   |false=>show(VY l (k1:Int) [x]).length≤_;omega
  |false=>rw[Qi,Bool.or_true];exact hl
 ·intro h
  have hb:b=true:=by
   cases hb:b with
   |true=>rfl
   |false=>rw[hb,Qi,Bool.or_true]at h;cases h
  have hq:(((!decide (x.State=0))||l.any (λy=>decide (y.QA=x.QA)&&decide (y.Qo=x.Qo)))||!b)=false:=by
   cases hq:(((!decide (x.State=0))||l.any (λy=>decide (y.QA=x.QA)&&decide (y.Qo=x.Qo)))||!b)with
   |false=>rfl
   |true=>rw[hq]at h;cases h
  rw[hq];refine⟨k1,hk1,rfl,?_,?_,A1⟩
  ·subst hb
   have hup:=OC _ (by omega) b1
   have hlt:k1<(VY l (k1:Int) [x]).length:=by omega
   have hx:(VY l (k1:Int) [x])[k1]=x:=by
    have:=nC l k1 hk1 x;rw[List.getElem?_eq_getElem hlt]at this;exact Option.some.inj this
   obtain⟨j,hj,h1,h2⟩:=Wx (VY l (k1:Int) [x]) x.Id k1 hlt (by rw[hx])
   show E7 (VY l (k1:Int) [x]) x.Id=_;rw[h1];have hu:=oF (n:=(VY l (k1:Int) [x]).length) (λi=>(gt (VY l (k1:Int) [x]) (i:Int)).Id) (λi h1 h2=>by
    show(gt (VY l (k1:Int) [x]) ((i-1:Nat):Int)).Id<(gt (VY l (k1:Int) [x]) (i:Int)).Id;rw[Q3 h1,Q3 (show i-1<(VY l (k1:Int) [x]).length by omega)];exact hup i h1 h2)
   by_cases h3:j<k1
   ·have:=hu k1 j h3 hlt
    simp only[Q3 hj,Q3 hlt,h2,hx]at this;omega
   ·by_cases h4:k1<j
    ·have:=hu j k1 h4 hj
     simp only[Q3 hj,Q3 hlt,h2,hx]at this;omega
    ·congr 1;omega
  ·intro j hj hjk
   have hk:=hone (.inl hb);exact B1 j hj (by omega)
def QjA(h out:Ql)(ok:Bool)(hm:QX h)(hb:Zy h=false):Vj h out ok=some (h,false):=by
 unfold Vj;simp only[(JR h hm).1,hb,Jx h hm,Qa];cases ok<;>rfl
def Ql6(h out:Ql)(hm:QX h):Vj h out false=some (h,false):=by
 unfold Vj;simp only[Jx h hm,Qa];rfl
def vw(h:Ql)(out:Ql)(hm:QX h)(ho:QX out):Eo h out=some (Gj h out true):=by
 unfold Eo Gj;have:XI [] false=some false:=by rw[bn [] (by simp)];rfl
 simp only[this,(JR h hm).2,(JR out ho).2,X3 h hm,Qa];cases Zy h<;>cases Zy out<;>rfl
def rP(h:Ql)(m1:h.Qt.length≤1048576)(m2:h.Qn.length≤1048576)(mm:∀x∈h.Qn,x.Marks.length≤1048576)(m4:h.Qv.length≤1048576)(ht:XZ h=some true):∀i (hi:i<h.Qv.length) (hi2:i<h.Qq.length),h.Qq[i].Qu=h.Qv[i].Id:=by
 have hlen:=Rs h ht;unfold XZ at ht;rw[show(!decide (ln h.Qq=ln h.Qv))=false from by rw[Vp,Vp,hlen];simp]at ht
 have hstep:∀i (hi:i<h.Qv.length) (hi2:i<h.Qq.length),∃o,V0 h h.Qv (ln h.Qv) (i:Int)=some o∧(o=.inl ((i+1:Nat):Int)∨o=.inr (.ret false))∧(o=.inl ((i+1:Nat):Int)→h.Qq[i].Qu=h.Qv[i].Id):=by
  intro i hi hi2;obtain⟨t,_,t2⟩:=dt h.Qq[i];obtain⟨m,_,k2,k3⟩:=YM h.Qn h.Qv[i].Qo m2 mm;obtain⟨c,_,s2⟩:=Mq m h.Qq[i] k3;have hw:∃w,Hg h.Qv[i].State=some w:=by
   unfold Hg;cases decide (h.Qv[i].State=0)<;>cases decide (h.Qv[i].State=1)<;>cases decide (h.Qv[i].State=3)<;>cases decide (h.Qv[i].State=2)<;>exact⟨_,rfl⟩
  obtain⟨w,hw⟩:=hw;simp only[V0,Q0 hi,QP hi,Q3 hi,QP hi2,Q3 hi2,Vg (show(i:Int)<9223372036854775807 by omega),Qc,QL,t2,k2,s2,hw,(XX h.Qt _ m1).2,Qa]
  by_cases hc:h.Qq[i].Qu=h.Qv[i].Id
  ·cases decide (XG h.Qt h.Qv[i].Qo<0)<;>cases decide (h.Qq[i].Qu=h.Qv[i].Id)<;>cases t<;>cases decide (c=w)<;>first|exact⟨_,rfl,.inl rfl,λ_=>hc⟩|exact⟨_,rfl,.inr rfl,λ_=>hc⟩
  ·rw[Qe hc]
   cases decide (XG h.Qt h.Qv[i].Qo<0)<;>cases t<;>exact⟨_,rfl,.inr rfl,λh=>by cases h⟩
 have key:∀(m i:Nat),i+m=h.Qv.length→run (V0 h h.Qv (ln h.Qv)) (i:Int)=some (.brk ())∨run (V0 h h.Qv (ln h.Qv)) (i:Int)=some (.ret false):=by
  intro m
  induction m with
  |zero =>
   intro i hi;have:i=h.Qv.length:=by omega
   subst this;left;rw[Vk];simp only[V0,Q6 (Qg _),Qb];rfl
  |succ m ih =>
   intro i hi;obtain⟨o,h1,h2,_⟩:=hstep i (by omega) (by omega)
   rw[Vk,h1]
   rcases h2 with rfl|rfl
   ·exact ih (i+1) (by omega)
   ·exact .inr rfl
 have key2:∀(m i:Nat),i+m=h.Qv.length→run (V0 h h.Qv (ln h.Qv)) (i:Int)=some (.brk ())→∀j (hj:j<h.Qv.length) (hj2:j<h.Qq.length),i≤j→h.Qq[j].Qu=h.Qv[j].Id:=by
  intro m
  induction m with
  |zero=>intro i hi _ j hj _ hij;omega
  |succ m ih =>
   intro i hi hr j hj hj2 hij;obtain⟨o,h1,h2,h3⟩:=hstep i (by omega) (by omega)
   rw[Vk,h1]at hr
   rcases h2 with rfl|rfl
   ·by_cases hij':i=j
    ·subst hij';exact h3 rfl
    ·exact ih (i+1) (by omega) hr j hj hj2 (by omega)
   ·simp at hr
 intro i hi hi2
 rcases key h.Qv.length 0 (by omega)with hr|hr
 ·exact key2 h.Qv.length 0 (by omega) hr i hi hi2 (by omega)
 ·rw[show run (V0 h h.Qv (ln h.Qv)) 0=some (.ret false)from hr]at ht
  cases ht
def tP(h:Ql)(a w t:Int)(hm:QX h):∃r,Ag h a w t=some r∧Dd h a w t=some r∧QX r.1:=by
 have hm7:=hm;obtain⟨m1,m2,m3,m4,m5,m6,m7⟩:=hm7;obtain⟨c,c1,c2,c3,c4⟩:=wW h.Qv ⟨a,w,t,h.Now,0⟩ m4;obtain⟨v,v1,v2⟩:=KX h.Qs t m3;obtain⟨k,hk,hr,hf1,hf2⟩:=fK (n:=h.Qq.length) (λi=>decide ((gt h.Qq (i:Int)).Qu<a)) (step:=AB a t h ⟨h.No,h.Qt,h.Qn,h.Qs,c.1,h.Qq,h.Qw,h.Book,h.Now⟩ c.2)
  (λi hi=>by
   simp only[AB,Q0 hi,QP hi,Vg (show(i:Int)<9223372036854775807 by omega),Qc,QL,Qa]
   cases decide ((gt h.Qq (i:Int)).Qu<a)<;>rfl)
  (by simp only[AB,Q6 (Qg _),Qb];rfl)
 have hrm1:rm (cut h.Qq 0 (k:Int)).length 32=true:=VU (by rw[Za,List.length_take];omega) (by omega)
 have hrm2:rm ((cut h.Qq 0 (k:Int)).length+1) 32=true:=VU (by rw[Za,List.length_take];omega) (by omega)
 have hrm3:rm ((cut h.Qq 0 (k:Int)).length+1+(cut h.Qq (k:Int) (ln h.Qq)).length) 32=true:=VU (by rw[Za,KB,List.length_take,List.length_drop];omega) (by omega)
 have hspec:Ag h a w t=bif c.2 then(Zt h.Qs t).bind λr3=>Vj h ⟨h.No,h.Qt,h.Qn,h.Qs,c.1,VY h.Qq (k:Int) [⟨a,0,0,0⟩],h.Qw,h.Book,h.Now⟩ (!decide (r3=0))else some (h,false):=by
  unfold Ag;simp only[Jx h hm,c1,Qa,hr];rw[show Ff 0 (k:Int) (ln h.Qq)=true from Md hk,show Ff (k:Int) (ln h.Qq) (ln h.Qq)=true from Td hk];simp only[QL,hrm1,hrm2,hrm3,S8];cases c.2 with
  |false=>simp only[Qb,Ql6 h _ hm,Qa]
  |true =>
   simp only[Qc,Y1 h.Qs t m3,Qa];cases Vj h ⟨h.No,h.Qt,h.Qn,h.Qs,c.1,VY h.Qq (k:Int) [⟨a,0,0,0⟩],h.Qw,h.Book,h.Now⟩ (!decide ((bif decide (t=0)||decide (DI h.Qs t<0)then(0:Int)else(gt h.Qs (DI h.Qs t)).Id)=0))<;>rfl
 rw[hspec];unfold Dd;simp only[X3 h hm,c2,Qa,(JR h hm).2,v1];cases hc:c.2 with
 |false=>exact⟨(h,false),rfl,rfl,hm⟩
 |true =>
  simp only[Qc,Qh,Qb,Y1 h.Qs t m3,Qa];cases hb:Zy h with
  |false =>
   rw[QjA h _ _ hm hb];exact⟨(h,false),rfl,rfl,hm⟩
  |true =>
   have ho:=On h hm hb;have hcl:=Mb _ ho.cS (by omega)
   have htl:=Rs h ho.trials;obtain⟨k2,hk2,hins,hix,hlo,hhi⟩:=c4 hc;have hids:=rP h m1 m2.1 (λx hx=>m2.2 x hx) m4 ho.trials
   have hkk:k=k2:=by
    by_cases h1:k<k2
    ·have:=hf2 (by omega)
     simp only[Q3 (show k<h.Qq.length by omega),decide_eq_false_iff_not]at this
     rw[hids k (by omega) (by omega)]at this
     exact absurd (hlo k (by omega) h1) this
    ·by_cases h2:k2<k
     ·have:=hf1 k2 h2
      simp only[Q3 (show k2<h.Qq.length by omega),decide_eq_true_eq]at this
      rw[hids k2 (by omega) (by omega)]at this
      exact absurd this (hhi k2 (by omega) (Qg _))
     ·omega
   have hil:=K8 h.Qq k hk (⟨a,0,0,0⟩:Qp);have wo:QX ⟨h.No,h.Qt,h.Qn,h.Qs,c.1,VY h.Qq (k:Int) [⟨a,0,0,0⟩],h.Qw,h.Book,h.Now⟩:=⟨m1,m2,m3,c3,by show(VY h.Qq (k:Int) [⟨a,0,0,0⟩]).length≤_;omega,m6,m7⟩
   have hslot:(!decide ((bif decide (t=0)||decide (DI h.Qs t<0)then(0:Int)else(gt h.Qs (DI h.Qs t)).Id)=0))=E3 h.Qs t:=by
    unfold E3;cases decide (t=0)with
    |true=>rfl
    |false =>
     rcases Io h.Qs t with⟨_,h2⟩|⟨j,hj,h2,_,_⟩
     ·rw[h2];rfl
     ·rw[h2]
      have hs2:1≤h.Qs[j].Id:=by
       obtain⟨q,q1,_,q3⟩:=TA h.Qs m3;rw[ho.tS]at q1;exact(q3 (Option.some.inj q1).symm).2 _ (List.getElem_mem hj)
      simp only[Bool.false_or,Qe (show ¬(j:Int)<0 by omega),Qb,Q3 hj,Qe (show ¬h.Qs[j].Id=0 by omega)]
   rw[hslot,Hl h _ _ hm wo];refine⟨_,rfl,?_,Dj _ _ _ hm wo⟩;simp only[Qh,Qb,Qa,v2];cases E3 h.Qs t with
   |false=>rfl
   |true =>
    simp only[Qh,Qb,Rg c.1 a c3,hix,Qa,←hkk,Y4 h.Qq k hk (⟨a,0,0,0⟩:Qp) 32 m5 (by omega),QL,vw h _ hm wo]
def vk(l:List Qu)(id s:Int)(hl:l.length≤1048576):∃r,GL l id s=some r∧ZZ l id s=some r∧r.1.length=l.length:=by
 obtain⟨c,c1,c2,c3⟩:=Kj l hl;unfold GL ZZ Xf;have hrm:rm (0+l.length) 40=true:=VU (by omega) (by omega)
 simp only[hrm,QL,(FS l id hl).1,(FS l id hl).2,c1,c2,Qa]
 rcases Kx l id with h|⟨k,hk,h,hid⟩
 ·rw[h];exact⟨(l,false),rfl,rfl,rfl⟩
 ·rw[h,Qe (show ¬(k:Int)<0 by omega)]
  cases c with
  |false=>exact⟨(l,false),rfl,rfl,rfl⟩
  |true =>
   obtain⟨d,d1,d2,d3⟩:=Kj (l.set k ⟨l[k].Id,l[k].QA,l[k].Qo,l[k].At,s⟩) (by rw[List.length_set];omega)
   simp only[Qb,Qa,Qh,QP hk,Q3 hk,QL,Int.toNat_natCast,d1,d2];have hset:=List.length_set (as:=l) (i:=k) (a:=(⟨l[k].Id,l[k].QA,l[k].Qo,l[k].At,s⟩:Qu));cases decide (l[k].State=0)<;>cases decide (s=1)<;>cases decide (s=2)<;>cases decide (l[k].State=1)<;>cases decide (s=3)<;>cases d<;>first|exact⟨(l,false),rfl,rfl,rfl⟩|exact⟨(l.set k ⟨l[k].Id,l[k].QA,l[k].Qo,l[k].At,s⟩,true),rfl,rfl,hset⟩
def QjN(x:Qo)(d:Int):∃c,IG x d=some c∧IA x d=some c:=by
 unfold IG IA;rw[show CL x=Js x from rfl];obtain⟨b,b1,_,_⟩:=SM x;rw[b1];simp only[Qa,QR,QO];cases b with
 |false=>exact⟨0,rfl,rfl⟩
 |true =>
  cases hd:(decide (0≤d)&&decide (d≤1000))with
  |false=>exact⟨0,rfl,rfl⟩
  |true =>
   simp only[Bool.and_eq_true,decide_eq_true_eq]at hd;have hw:0≤x.Worth∧x.Worth≤10000000:=by
    unfold Js QR at b1;simp only[Qa]at b1;revert b1;cases (decide (1≤x.Id)&&decide (x.Id≤999))<;>cases (decide (1≤x.Kind)&&decide (x.Kind≤8))<;>cases (decide (0≤x.Colour)&&decide (x.Colour≤7))<;>cases (decide (1≤x.Size)&&decide (x.Size≤50))<;>simp
   have ht0:=Int.tdiv_nonneg hw.1 (show(0:Int)≤10 by omega)
   have ht1:x.Worth.tdiv 10≤x.Worth:=by
    rw[Int.tdiv_eq_ediv_of_nonneg hw.1];omega
   simp only[Qh,Qb,Qa,LS];rw[VD (show _≤10*d by omega) (by omega),VD (show _≤100+10*d by omega) (by omega),VD (show _≤x.Worth.tdiv 10 by omega) (by omega)]
   by_cases h:x.Worth.tdiv 10<100+10*d
   ·rw[Qf h,if_pos h]
    refine⟨_,rfl,?_⟩;by_cases h':0<x.Worth.tdiv 10
    ·rw[if_pos h']
    ·rw[if_neg h'];congr 1;omega
   ·rw[Qe h,if_neg h]
    refine⟨_,rfl,?_⟩;rw[if_pos (by omega)]
def tO(h:Ql)(t:Int)(hm:QX h):∃r,BV h t=some r∧Do h t=some r∧QX r.1:=by
 have hm7:=hm;obtain⟨m1,m2,m3,m4,m5,m6,m7⟩:=hm7;obtain⟨p,p1,p2,p3⟩:=Wy h.Qv t m4;obtain⟨w,w1,w2⟩:=KX h.Qs t m3;unfold BV Do DO;simp only[p1,p2,(XX h.Qt t m1).1,(XX h.Qt t m1).2,(JR h hm).1,(JR h hm).2,Jx h hm,X3 h hm,w1,w2,Qa]
 rcases U2 h.Qt t with hx|⟨k,hk,hx⟩
 ·rw[hx]
  refine⟨(h,false),?_,?_,hm⟩
  ·cases decide (p=0)<;>rfl
  ·cases Zy h<;>rfl
 ·rw[hx,Qe (show ¬(k:Int)<0 by omega)]
  cases hb:Zy h with
  |false=>exact⟨(h,false),by cases decide (p=0)<;>rfl,rfl,hm⟩
  |true =>
   by_cases hp:p=0
   ·rw[Qf hp]
    refine⟨(h,false),rfl,?_,hm⟩;cases E3 h.Qs t with
    |false=>rfl
    |true=>simp only[QP hk,QL];rfl
   ·rw[Qe hp]
    obtain⟨j,hj,hjd⟩:=p3.resolve_left hp;obtain⟨c,hc,hcx,hcid⟩:=Wx h.Qv p j hj hjd;obtain⟨g,g1,g2,g3,g4,g5,g6,g7⟩:=iZ h t 3 h.Qv[c].QA hm;obtain⟨s,s1,s2,s3⟩:=vk h.Qv p 3 m4;obtain⟨f,f1,f2⟩:=QjN (h.Qt[k]).Qo (QU ((QU (h.Now-(h.Qt[k]).At)).tdiv 24));obtain⟨e,e1,e2,e3⟩:=jW h.Book ⟨h.Qv[c].QA,0,f,h.Now⟩ m7;have hm7':=g3;obtain⟨n1,n2,n3,n4,n5,n6,n7⟩:=hm7';have o1:QX ⟨g.1.No,g.1.Qt,g.1.Qn,g.1.Qs,s.1,g.1.Qq,g.1.Qw,g.1.Book,g.1.Now⟩:=⟨n1,n2,n3,by show s.1.length≤_;omega,n5,n6,n7⟩
    have o2:QX ⟨g.1.No,g.1.Qt,g.1.Qn,g.1.Qs,s.1,g.1.Qq,g.1.Qw,e.1,g.1.Now⟩:=⟨n1,n2,n3,by show s.1.length≤_;omega,n5,n6,e3⟩
    have hpay:CE ⟨g.1.No,g.1.Qt,g.1.Qn,g.1.Qs,s.1,g.1.Qq,g.1.Qw,g.1.Book,g.1.Now⟩ h.Qv[c].QA 0 f =
      some (bif decide (f=0)then(⟨g.1.No,g.1.Qt,g.1.Qn,g.1.Qs,s.1,g.1.Qq,g.1.Qw,g.1.Book,g.1.Now⟩,true)else(⟨g.1.No,g.1.Qt,g.1.Qn,g.1.Qs,s.1,g.1.Qq,g.1.Qw,e.1,g.1.Now⟩,e.2)):=by
     unfold CE;simp only[g5,g6,e1,Qa];cases decide (f=0)<;>rfl
    have hin:(bif E3 h.Qs t then g.2 else false)=g.2:=by
     cases hi:E3 h.Qs t with
     |true=>rfl
     |false=>rw[g4 hi];rfl
    simp only[Qb,Qh,Qa,(FS h.Qv p m4).1,(FS h.Qv p m4).2,hcx,QP hc,Q3 hc,QP hk,Q3 hk,QL,g1,s1,f1,hpay];have hspec:∀b:Bool,(bif b then(bif s.2 then(Vj h (bif decide (f=0)then(⟨g.1.No,g.1.Qt,g.1.Qn,g.1.Qs,s.1,g.1.Qq,g.1.Qw,g.1.Book,g.1.Now⟩,true)else(⟨g.1.No,g.1.Qt,g.1.Qn,g.1.Qs,s.1,g.1.Qq,g.1.Qw,e.1,g.1.Now⟩,e.2):Ql×Bool).1 (bif decide (f=0)then(⟨g.1.No,g.1.Qt,g.1.Qn,g.1.Qs,s.1,g.1.Qq,g.1.Qw,g.1.Book,g.1.Now⟩,true)else(⟨g.1.No,g.1.Qt,g.1.Qn,g.1.Qs,s.1,g.1.Qq,g.1.Qw,e.1,g.1.Now⟩,e.2):Ql×Bool).2).bind λr10=>some (r10.1,r10.2)else(Vj h (bif decide (f=0)then(⟨g.1.No,g.1.Qt,g.1.Qn,g.1.Qs,s.1,g.1.Qq,g.1.Qw,g.1.Book,g.1.Now⟩,true)else(⟨g.1.No,g.1.Qt,g.1.Qn,g.1.Qs,s.1,g.1.Qq,g.1.Qw,e.1,g.1.Now⟩,e.2):Ql×Bool).1 false).bind λr11=>some (r11.1,r11.2))else(Vj h (bif decide (f=0)then(⟨g.1.No,g.1.Qt,g.1.Qn,g.1.Qs,s.1,g.1.Qq,g.1.Qw,g.1.Book,g.1.Now⟩,true)else(⟨g.1.No,g.1.Qt,g.1.Qn,g.1.Qs,s.1,g.1.Qq,g.1.Qw,e.1,g.1.Now⟩,e.2):Ql×Bool).1 false).bind λr12=>some (r12.1,r12.2)) =
      some (bif decide (f=0)then Gj h ⟨g.1.No,g.1.Qt,g.1.Qn,g.1.Qs,s.1,g.1.Qq,g.1.Qw,g.1.Book,g.1.Now⟩ (b&&s.2)else Gj h ⟨g.1.No,g.1.Qt,g.1.Qn,g.1.Qs,s.1,g.1.Qq,g.1.Qw,e.1,g.1.Now⟩ (b&&(s.2&&e.2))):=by
     intro b;cases decide (f=0)with
     |true =>
      simp only[Qc,Hl h _ _ hm o1,Qa];cases b<;>cases s.2<;>rfl
     |false =>
      simp only[Qb,Hl h _ _ hm o2,Qa];cases b<;>cases s.2<;>rfl
    rw[hspec];refine⟨_,rfl,?_,?_⟩
    ·cases hi:E3 h.Qs t with
     |false =>
      rw[g4 hi];simp only[Qi,Qa,Qc,Qi,Bool.true_or,Bool.false_and,KW];cases decide (f=0)<;>rfl
     |true =>
      simp only[Qh,Qa,Qb,Bool.or_false,Bool.false_or,Qe hp,(FS h.Qv p m4).2,hcx,QP hc,Q3 hc,QP hk,Q3 hk,QL,g2,s2,f2];cases hf:decide (f=0)with
      |true =>
       simp only[Qh,Qb,Qc,Fb h _ _ hm o1 (show[g.2,s.2,true].length≤1048576 by simp),Qa,List.all_cons,List.all_nil,Bool.and_true,id_eq]
      |false =>
       simp only[Qi,Qb,Qc,e2,Fb h _ _ hm o2 (show[g.2,s.2,e.2].length≤1048576 by simp),Qa,List.all_cons,List.all_nil,Bool.and_true,id_eq]
    ·cases decide (f=0)with
     |true=>exact Dj _ _ _ hm o1
     |false=>exact Dj _ _ _ hm o2
def wF(h:Ql)(out:Ql)(hm:QX h):DK h out [false]=some (h,false):=by
 unfold DK;simp only[bn [false] (by simp),X3 h hm,Qa]
 rfl
def se(h:Ql)(t:Int)(hm:QX h):∃r,BX h t=some r∧Dx h t=some r∧QX r.1:=by
 have hm7:=hm;obtain⟨m1,m2,m3,m4,m5,m6,m7⟩:=hm7;obtain⟨w,w1,w2⟩:=KX h.Qs t m3;unfold BX Dx DO;simp only[(XX h.Qt t m1).1,(XX h.Qt t m1).2,(JR h hm).1,(JR h hm).2,Jx h hm,X3 h hm,w1,w2,Qa]
 rcases U2 h.Qt t with hx|⟨k,hk,hx⟩
 ·rw[hx]
  refine⟨(h,false),rfl,?_,hm⟩;cases Zy h<;>rfl
 ·rw[hx,Qe (show ¬(k:Int)<0 by omega)]
  cases hb:Zy h with
  |false=>exact⟨(h,false),rfl,rfl,hm⟩
  |true =>
   obtain⟨f,f1,f2⟩:=nq h.Qt[k] h.Qv h.Now m4;obtain⟨a,a1,a2,a3,a4,_⟩:=iZ h t 3 (h.Qt[k]).Qz hm;obtain⟨b,b1,b2,b3,b4,_⟩:=iZ h t 5 0 hm;simp only[Qb,Qh,Qa,QP hk,Q3 hk,QL,f1,a1,b1,Hl h _ _ hm a3,Hl h _ _ hm b3];refine⟨bif decide (f=2)then Gj h a.1 a.2 else bif decide (f=4)then Gj h b.1 b.2 else bif decide (f=5)then Gj h b.1 b.2 else(h,false),?_,?_,?_⟩
   ·cases decide (f=2)<;>cases decide (f=4)<;>cases decide (f=5)<;>rfl
   ·cases hi:E3 h.Qs t with
    |false =>
     rw[a4 hi,b4 hi];simp only[Qi,Qa,Qc,KW];cases decide (f=2)<;>cases decide (f=4)<;>cases decide (f=5)<;>rfl
    |true =>
     simp only[Qh,Qa,Qb,QP hk,Q3 hk,QL,f2,a2,b2,wF h h hm,Fb h _ _ hm a3 (show[a.2].length≤1048576 by simp),Fb h _ _ hm b3 (show[b.2].length≤1048576 by simp),List.all_cons,List.all_nil,Bool.and_true,id_eq]
     cases decide (f=2)<;>cases decide (f=4)<;>cases decide (f=5)<;>rfl
   ·cases decide (f=2)<;>cases decide (f=4)<;>cases decide (f=5)<;>first|exact Dj _ _ _ hm a3|exact Dj _ _ _ hm b3|exact hm
def xf(h:Ql)(n:Int)(hm:QX h):∃r,CX h n=some r∧EE h n=some r∧QX r.1:=by
 have ho:QX ⟨h.No,h.Qt,h.Qn,h.Qs,h.Qv,h.Qq,h.Qw,h.Book,QU (h.Now+n)⟩:=hm;refine⟨Gj h ⟨h.No,h.Qt,h.Qn,h.Qs,h.Qv,h.Qq,h.Qw,h.Book,QU (h.Now+n)⟩ (decide (1≤n)&&decide (n≤10000)),?_,?_,Dj _ _ _ hm ho⟩
 ·unfold CX
  simp only[Jx h hm,QR,Hl h _ _ hm ho,Qa];cases hn:(decide (1≤n)&&decide (n≤10000))with
  |false=>rfl
  |true =>
   cases hw:(decide (0≤h.Now)&&decide (h.Now≤100000))with
   |true=>rfl
   |false =>
    have hb:Zy h=false:=by
     cases hb:Zy h with
     |false=>rfl
     |true =>
      have:=(On h hm hb).now;rw[Qf this.1,Qf this.2]at hw;cases hw
    rw[sE _ _ _ hb];rfl
 ·unfold EE
  simp only[X3 h hm,QO,Qa,Fb h _ _ hm ho (show[decide (1≤n)&&decide (n≤10000)].length≤1048576 by simp),List.all_cons,List.all_nil,Bool.and_true,id]
end Go.Proofs.YtkgadcbajihilaaGreatDoor
