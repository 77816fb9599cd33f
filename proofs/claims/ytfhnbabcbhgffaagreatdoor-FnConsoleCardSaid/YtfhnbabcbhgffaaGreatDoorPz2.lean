import Derived.Test.YtfhnbabcbhgffaaGreatDoorPz1
set_option linter.unusedVariables false
set_option linter.unusedSimpArgs false
set_option linter.defProp false
namespace Go.Proofs.YtfhnbabcbhgffaaGreatDoor
open Go
def LJ(l:List Hand)(t:Int):∀(n j:Nat),JI l t n=(j:Int)→j<n∧(gt l (j:Int)).Qo=t
 |0,j,h=>by unfold JI at h;omega
 |n+1,j,h=>by
  unfold JI at h
  split at h
  ·rename_i ht
   have:n=j:=by omega
   subst this;exact⟨by omega,ht⟩
  ·obtain⟨h1,h2⟩:=LJ l t n j h
   exact⟨by omega,h2⟩
def NN(l:List Hand)(t:Int):∀(n i:Nat),i<n→(gt l (i:Int)).Qo=t→∃j:Nat,j<n∧JI l t n=(j:Int)
 |0,i,hi,_=>by omega
 |n+1,i,hi,ht=>by
  unfold JI;by_cases hn:(gt l (n:Int)).Qo=t
  ·rw[if_pos hn];exact⟨n,by omega,rfl⟩
  ·rw[if_neg hn]
   have:i≠n:=λh=>by subst h;exact hn ht
   obtain⟨j,h1,h2⟩:=NN l t n i (by omega) ht
   exact⟨j,by omega,h2⟩
def hm(l:List Hand)(house t:Int):Bool:=decide ((gt l (JI l t l.length)).Qx=2)&&decide ((gt l (JI l t l.length)).QA=house)
def Qkm(out:List Int)(x:Int)(hl:out.length≤1000000):∃out',BC out x=some out'∧out'.length≤out.length+1∧∀t,t∈out'↔t∈out∨t=x:=by
 have key:∀(m i:Nat),i+m=out.length→∃k:Nat,k≤out.length∧run (Ja out x) (i:Int)=some (k:Int):=by
  intro m
  induction m with
  |zero =>
   intro i hi;have:i=out.length:=by omega
   subst this;exact⟨out.length,Qg _,by rw[QZ];simp only[Ja,Q6 (Qg _),Qb,Qa]⟩
  |succ m ih =>
   intro i hi;have hlt:i<out.length:=by omega
   cases hc:decide (out[i]<x)with
   |false=>exact⟨i,by omega,by rw[QZ];simp only[Ja,QY hlt,QR hlt,Q2 hlt,hc,Qc,Qb,QL,Qa]⟩
   |true =>
    obtain⟨k,k1,k2⟩:=ih (i+1) (by omega)
    refine⟨k,k1,?_⟩;rw[QZ];simp only[Ja,QY hlt,QR hlt,Q2 hlt,hc,Qc,QL,Qa,Q3 (show(i:Int)<9223372036854775807 by omega)]
    exact k2
 obtain⟨k,hk,hr⟩:=key out.length 0 (by omega)
 have hr':run (Ja out x) 0=some (k:Int):=hr;have e1:cut out 0 (k:Int)=out.take k:=ZE out k;have e2:cut out (k:Int) (ln out)=out.drop k:=by unfold cut;rw[Vq];simp
 have new:BC out x=some out∧x∈out∨BC out x=some (out.take k++[x]++out.drop k):=by
  have s1:Cy 0 (k:Int) (ln out)=true:=LG hk;have s2:Cy (k:Int) (ln out) (ln out)=true:=by unfold Cy;rw[Vq];simp;omega
  have put:(nd (Cy 0 (k:Int) (ln out))<|nd (Cy (k:Int) (ln out) (ln out))<|nd (rm (0+(cut out 0 (k:Int)).length) 8)<|nd (rm ((cut out 0 (k:Int)).length+1) 8)<|nd (rm ((cut out 0 (k:Int)).length+1+(cut out (k:Int) (ln out)).length) 8)<|some (((cut out 0 (k:Int))++[x])++(cut out (k:Int) (ln out))))=some (out.take k++[x]++out.drop k):=by
   rw[s1,s2,e1,e2,VT (by simp;omega) (by omega),VT (by simp;omega) (by omega),VT (by simp;omega) (by omega)]
   rfl
  unfold BC;rw[hr'];simp only[Qa];by_cases hlt:k<out.length
  ·rw[QY hlt,QR hlt,Q2 hlt]
   simp only[Qc,QL,Qa];by_cases hx:out[k]=x
   ·left
    rw[Qf hx,VT (show 0+out.length≤2000000 by omega) (by omega)]
    exact⟨rfl,by rw[←hx];exact List.getElem_mem hlt⟩
   ·right
    rw[Qe hx];exact put
  ·right
   rw[Q6 (show out.length≤k by omega)]
   exact put
 rcases new with⟨h1,h2⟩|h1
 ·exact⟨out,h1,by omega,λt=>⟨.inl,λh=>h.elim _root_.id λh=>by rw[h];exact h2⟩⟩
 ·refine⟨_,h1,by simp;omega,λt=>?_⟩
  have:t∈out↔t∈out.take k∨t∈out.drop k:=by
   conv=>lhs;rw[←List.take_append_drop k out]
   exact List.mem_append
  simp only[List.mem_append,List.mem_singleton];rw[this];constructor
  ·rintro((h|h)|h)
   ·exact .inl (.inl h)
   ·exact .inr h
   ·exact .inl (.inr h)
  ·rintro((h|h)|h)
   ·exact .inl (.inl h)
   ·exact .inr h
   ·exact .inl (.inr h)
def cg(l:List Hand)(t:Int)(hl:l.length≤1048576):AY l t=some (JI l t l.length):=by
 have h:=bK l t l.length (Qg _) hl;rw[ZE,List.take_length]at h;exact h
def mu(l:List Hand)(house:Int)(hl:l.length≤100)(c1:Xu l=some true)(c2:Jk l=some true) :
  ∃r1 r2,Cj l house=some r1∧Du l house=some r2∧(∀t,t∈r1↔t∈r2)∧r1.length≤100∧r2.length≤100:=by
 have hat:∀i,i<l.length→∃j:Nat,j<l.length∧JI l (gt l (i:Int)).Qo l.length=(j:Int):=λi hi=>NN l _ l.length i hi rfl
 obtain⟨r1,a1,a2,a3⟩:=N2 (n:=l.length) (step:=BR l house) (fin:=λr=>r)
  (λi (out:List Int)=>out.length≤i∧∀t,t∈out↔(∃k,k<i∧(gt l (k:Int)).Qo=t)∧hm l house t=true)
  (λi out hi ⟨ho,hq⟩=>by
   obtain⟨j,hj,hj2⟩:=hat i hi;simp only[BR,QY hi,c1,QR hi,Qc,QL,Qa,Q3 (show(i:Int)<9223372036854775807 by omega)]
   rw[show ln l=((l.length:Nat):Int)from rfl,cz l _ l.length (Qg _) (by omega)]
   simp only[Qa];cases hb:hm l house (gt l (i:Int)).Qo with
   |true =>
    obtain⟨out',p1,p2,p3⟩:=Qkm out (gt l (i:Int)).Qo (by omega)
    have hb':=hb;unfold hm at hb';rw[hj2]at hb' ⊢;rw[QR hj,hb'];simp only[QL,Qa,Qc,p1];refine⟨out',rfl,by omega,λt=>?_⟩
    rw[p3 t,hq t];constructor
    ·rintro(⟨⟨k,k1,k2⟩,h⟩|rfl)
     ·exact⟨⟨k,by omega,k2⟩,h⟩
     ·exact⟨⟨i,by omega,rfl⟩,hb⟩
    ·rintro⟨⟨k,k1,k2⟩,h⟩
     by_cases hki:k=i
     ·subst hki;exact .inr k2.symm
     ·exact .inl ⟨⟨k,by omega,k2⟩,h⟩
   |false =>
    have hb':=hb;unfold hm at hb';rw[hj2]at hb' ⊢;rw[QR hj,hb'];simp only[QL,Qa,Qb];refine⟨out,rfl,by omega,λt=>?_⟩
    rw[hq t];constructor
    ·rintro⟨⟨k,k1,k2⟩,h⟩
     exact⟨⟨k,by omega,k2⟩,h⟩
    ·rintro⟨⟨k,k1,k2⟩,h⟩
     by_cases hki:k=i
     ·subst hki;rw[k2,h]at hb;cases hb
     ·exact⟨⟨k,by omega,k2⟩,h⟩)
  (λout _=>by simp only[BR,Q6 (Qg _),Qb,Qa]) [] ⟨by simp,λt=>by simp⟩
 obtain⟨r2,b1,b2,b3⟩:=N2 (n:=l.length) (step:=BU l house l (ln l)) (fin:=λr=>r)
  (λi (out:List Int)=>out.length≤i∧∀t,t∈out↔∃k:Nat,k<i∧(gt l (k:Int)).Qo=t∧JI l t l.length=(k:Int)∧hm l house t=true)
  (λi out hi ⟨ho,hq⟩=>by
   simp only[BU,QY hi,QR hi,Qc,QL,cg l _ (show l.length≤1048576 by omega),Qa,Q3 (show(i:Int)<9223372036854775807 by omega)]
   have hbv:(bif decide ((gt l (i:Int)).Qx=2)then(bif decide ((gt l (i:Int)).QA=house)then some (decide (JI l (gt l (i:Int)).Qo l.length=(i:Int)))else some false)else some false)=some (decide (JI l (gt l (i:Int)).Qo l.length=(i:Int))&&hm l house (gt l (i:Int)).Qo):=by
    by_cases he:JI l (gt l (i:Int)).Qo l.length=(i:Int)
    ·unfold hm
     rw[he];cases decide ((gt l (i:Int)).Qx=2)<;>cases decide ((gt l (i:Int)).QA=house)<;>simp
    ·rw[Qe he]
     cases decide ((gt l (i:Int)).Qx=2)<;>cases decide ((gt l (i:Int)).QA=house)<;>rfl
   rw[hbv];simp only[Qa];cases hb:(decide (JI l (gt l (i:Int)).Qo l.length=(i:Int))&&hm l house (gt l (i:Int)).Qo)with
   |true =>
    simp only[Bool.and_eq_true,decide_eq_true_eq]at hb;rw[VT (show out.length+1≤2000000 by omega) (by omega)]
    refine⟨out++[(gt l (i:Int)).Qo],rfl,by simp;omega,λt=>?_⟩
    simp only[List.mem_append,List.mem_singleton];rw[hq t];constructor
    ·rintro(⟨k,k1,k2⟩|rfl)
     ·exact⟨k,by omega,k2⟩
     ·exact⟨i,by omega,rfl,hb⟩
    ·rintro⟨k,k1,k2,k3⟩
     by_cases hki:k=i
     ·subst hki;exact .inr k2.symm
     ·exact .inl ⟨k,by omega,k2,k3⟩
   |false =>
    refine⟨out,rfl,by omega,λt=>?_⟩
    rw[hq t];constructor
    ·rintro⟨k,k1,k2⟩
     exact⟨k,by omega,k2⟩
    ·rintro⟨k,k1,k2,k3,k4⟩
     by_cases hki:k=i
     ·subst hki
      rw[k2,Qf k3,k4]at hb;cases hb
     ·exact⟨k,by omega,k2,k3,k4⟩)
  (λout _=>by simp only[BU,Q6 (Qg _),Qb]) [] ⟨by simp,λt=>by simp⟩
 have hperm:(Aw r2).Perm r2:=List.mergeSort_perm _ _;refine⟨r1,Aw r2,?_,?_,λt=>?_,by omega,by rw[hperm.length_eq];omega⟩
 ·unfold Cj
  rw[a1];rfl
 ·unfold Du
  rw[c2];simp only[Qa,Qh,Qb];rw[b1];simp only[Qa];rw[Qf (by omega)];rfl
 ·rw[hperm.mem_iff,a3 t,b3 t]
  constructor
  ·rintro⟨⟨k,k1,k2⟩,h⟩
   obtain⟨j,j1,j2⟩:=NN l t l.length k k1 k2;exact⟨j,j1,(LJ l t l.length j j2).2,j2,h⟩
  ·rintro⟨k,k1,k2,k3,k4⟩
   exact⟨⟨k,k1,k2⟩,k4⟩
def Qgx(l:List Int)(v:Int)(hl:l.length≤1048576):Dx l v=some (decide (v∈l)):=by
 have hr:=LH l (λx=>decide (x=v)) (r:=true) (step:=D7 l v)
  (λi hi=>by
   simp only[D7,QY hi,QR hi,Q2 hi,Q3 (show(i:Int)<9223372036854775807 by omega),Qc,QL]
   cases decide (l[i]=v)<;>rfl)
  (by simp only[D7,Q6 (Qg _),Qb])
 unfold Dx;rw[hr];by_cases h:v∈l
 ·rw[Qf h,List.any_eq_true.2 ⟨v,h,by simp⟩];rfl
 ·rw[Qe h,List.any_eq_false.2 (λx hx=>by simp;rintro rfl;exact h hx)];rfl
def Qfw(l:List Int)(v:Int)(hl:l.length≤1048576):JL l v=some (decide (v∈l)):=by
 have hi:=JG l (λx=>decide (v=x)) (λi=>(i:Int)) (step:=ZJ l v (ln l))
  (λi hi=>by
   simp only[ZJ,QY hi,QR hi,Q2 hi,Q3 (show(i:Int)<9223372036854775807 by omega),Qc,QL]
   cases decide (v=l[i])<;>rfl)
  (by simp only[ZJ,Q6 (Qg _),Qb])
 unfold JL FA;rw[hi];cases hf:l.findIdx? (λx=>decide (v=x))with
 |none =>
  have:¬v∈l:=λh=>by
   have:=List.findIdx?_eq_none_iff.1 hf v h;simp at this
  rw[Qe this];rfl
 |some i =>
  obtain⟨hi',hp⟩:=CG hf;have:v∈l:=by
   have e:v=l[i]:=by simpa using hp
   rw[e];exact List.getElem_mem hi'
  rw[Qf this];show some (decide (0≤(i:Int)))=_;rw[Qf (by omega)]
def lL(l:List Qr)(t:Int)(hl:l.length≤1048576)(hid:∀x∈l,1≤x.Id):∃c,ZN l t=some c∧decide (c=0)=!(!decide (t=0)&&l.any (λx=>decide (x.Qo=t))):=by
 have hr:=JG l (λx=>!decide (t=0)&&decide (x.Qo=t)) (λi=>(gt l (i:Int)).Id) (step:=ZG l t)
  (λi hi=>by
   simp only[ZG,QY hi,QR hi,Q2 hi,Q3 (show(i:Int)<9223372036854775807 by omega),Qc,QL]
   cases decide (t=0)<;>cases decide (l[i].Qo=t)<;>rfl)
  (by simp only[ZG,Q6 (Qg _),Qb])
 unfold ZN;rw[hr];cases hf:l.findIdx? (λx=>!decide (t=0)&&decide (x.Qo=t))with
 |none =>
  refine⟨0,rfl,?_⟩;have:=List.findIdx?_eq_none_iff.1 hf;cases ht:decide (t=0)with
  |true=>rfl
  |false =>
   rw[ht]at this;have:l.any (λx=>decide (x.Qo=t))=false:=by
    rw[List.any_eq_false];intro x hx;have:=this x hx;simpa using this
   rw[this];rfl
 |some i =>
  obtain⟨hi',hp⟩:=CG hf;refine⟨(gt l (i:Int)).Id,rfl,?_⟩;simp only[Bool.and_eq_true]at hp;rw[Q2 hi',Qe (by have:=hid l[i] (List.getElem_mem hi');omega),hp.1,List.any_eq_true.2 ⟨l[i],List.getElem_mem hi',hp.2⟩]
  rfl
def W6(x:Qp):∃b,DJ x=some b∧Fp x=some b:=by
 have e:Fp x=DJ x:=rfl;rw[e];unfold DJ QO;simp only[Qa];cases (decide (1≤x.Qu)&&decide (x.Qu≤999))<;>cases (decide (0≤x.Right)&&decide (x.Right≤100))<;>exact⟨_,rfl,rfl⟩
def PT(l:List Qm)(t:Int)(hl:l.length≤1048576)(hm:∀x∈l,x.Marks.length≤1048576):∃m,AP l t=some m∧B6 l t=some m∧m.length≤1048576:=by
 have hs:=JG l (λx=>decide (x.Qo=t)) (λi=>(i:Int)) (step:=BV l t)
  (λi hi=>by
   simp only[BV,QY hi,QR hi,Q2 hi,Q3 (show(i:Int)<9223372036854775807 by omega),Qc,QL]
   cases decide (l[i].Qo=t)<;>rfl)
  (by simp only[BV,Q6 (Qg _),Qb])
 have hi:=JG l (λx=>decide (x.Qo=t)) (λi=>(i:Int)) (step:=Q7 l t (ln l))
  (λi hi=>by
   simp only[Q7,DW,Qa,QY hi,QR hi,Q2 hi,Q3 (show(i:Int)<9223372036854775807 by omega),Qc,QL]
   cases decide (l[i].Qo=t)<;>rfl)
  (by simp only[Q7,Q6 (Qg _),Qb])
 unfold AP B6 Iq Bc VV;rw[hs,hi];cases hf:l.findIdx? (λx=>decide (x.Qo=t))with
 |none=>exact⟨[],rfl,rfl,by simp⟩
 |some i =>
  obtain⟨hi',_⟩:=CG hf;have hmi:=hm l[i] (List.getElem_mem hi');refine⟨l[i].Marks,?_,?_,hmi⟩
  ·simp only[Qa,gz,show decide ((i:Int)<0)=false from Qe (by omega),Qb,QR hi',Q2 hi',QL,VT (show 0+l[i].Marks.length≤2000000 by omega) (show 16≤1024 by omega)]
  ·simp only[Qa,gz,show decide ((i:Int)<0)=false from Qe (by omega),Qb,QR hi',Q2 hi',QL,JO,VT (show 0+l[i].Marks.length≤2000000 by omega) (show 16≤1024 by omega)]
def LO(l:List Mark)(x:Qp)(hl:l.length≤1048576):∃c,AI l x=some c∧AE l x=some c:=by
 obtain⟨b,b1,b2⟩:=W6 x;obtain⟨m,m1,m2⟩:=KP l (by omega)
 have Xi:GH l=FD l:=by
  unfold GH FD GV;by_cases h:ln l<3
  ·rw[Qf h,if_pos h];rfl
  ·rw[Qe h,if_neg h];rfl
 unfold AI AE;rw[b1,b2,m1,m2,Xi];unfold FD;cases b<;>cases m<;>cases decide (1<x.Wrong)<;>cases decide (0<ln l)<;>simp only[Qa,Qh,Qi,Qc,Qb,Bool.or_true,Bool.or_false,Bool.true_or,Bool.false_or] <;>
  first|exact⟨_,rfl,rfl⟩|(cases decide ((if ln l<3 then ln l else 3)≤x.Right)<;>exact⟨_,rfl,rfl⟩)
def LC{α:Type}(l:List α)(hour:α→Int)(now:Int){step:Int×Int→Option ((Int×Int)⊕Int)}
  (h1:∀(i:Nat) (v:Int) (h:i<l.length),step (v,(i:Int))=some (.inl ((if v<hour l[i]then hour l[i]else v),((i+1:Nat):Int)))) (h2:∀v,step (v,(l.length:Int))=some (.inr v)) (v0:Int) :
  ∃v,run step (v0,0)=some v∧(v≤now↔v0≤now∧∀x∈l,hour x≤now):=by
 obtain⟨v,q1,q2⟩:=N2 (n:=l.length) (step:=step) (fin:=λv=>v) (λi v=>v≤now↔v0≤now∧∀x∈l.take i,hour x≤now)
  (λi v hi hq=>by
   refine⟨_,h1 i v hi,?_⟩;rw[List.take_succ_eq_append_getElem hi];have:(∀x∈l.take i++[l[i]],hour x≤now)↔(∀x∈l.take i,hour x≤now)∧hour l[i]≤now:=by
    simp only[List.mem_append,List.mem_singleton];constructor
    ·intro h;exact⟨λx hx=>h x (.inl hx),h _ (.inr rfl)⟩
    ·rintro⟨h,h'⟩ x (hx|rfl)
     ·exact h x hx
     ·exact h'
   rw[this];constructor
   ·intro hv
    have h3:v≤now∧hour l[i]≤now:=by split at hv<;>omega
    exact⟨(hq.1 h3.1).1,(hq.1 h3.1).2,h3.2⟩
   ·rintro⟨a,b,c⟩
    have:=hq.2 ⟨a,b⟩
    split<;>omega) (λv _=>h2 v) v0 (by simp)
 exact⟨v,q1,by rw[List.take_length]at q2;exact q2⟩
def qo(h:Ql)(now:Int)(m1:h.Qt.length≤1048576)(m2:h.Qv.length≤1048576)(m3:h.Qw.length≤1048576)(m4:h.Book.length≤1048576) :
  ∃v,HK h=some v∧(v≤now↔-1≤now∧(∀x∈h.Qt,x.At≤now)∧(∀x∈h.Qv,x.At≤now)∧(∀x∈h.Qw,x.At≤now)∧∀x∈h.Book,x.At≤now):=by
 obtain⟨v1,a1,a2⟩:=LC h.Qt (·.At) now (step:=C9 h h.Qt (ln h.Qt)) (λi v hi=>by simp only[C9,QY hi,QR hi,Q2 hi,Q3 (show(i:Int)<9223372036854775807 by omega),Qc,QL])
  (λv=>by simp only[C9,Q6 (Qg _),Qb]) (-1)
 obtain⟨v2,b1,b2⟩:=LC h.Qv (·.At) now (step:=CU h h.Qv (ln h.Qv)) (λi v hi=>by simp only[CU,QY hi,QR hi,Q2 hi,Q3 (show(i:Int)<9223372036854775807 by omega),Qc,QL])
  (λv=>by simp only[CU,Q6 (Qg _),Qb]) v1
 obtain⟨v3,c1,c2⟩:=LC h.Qw (·.At) now (step:=BW h h.Qw (ln h.Qw)) (λi v hi=>by simp only[BW,QY hi,QR hi,Q2 hi,Q3 (show(i:Int)<9223372036854775807 by omega),Qc,QL])
  (λv=>by simp only[BW,Q6 (Qg _),Qb]) v2
 obtain⟨v4,d1,d2⟩:=LC h.Book (·.At) now (step:=BM h.Book (ln h.Book)) (λi v hi=>by simp only[BM,QY hi,QR hi,Q2 hi,Q3 (show(i:Int)<9223372036854775807 by omega),Qc,QL])
  (λv=>by simp only[BM,Q6 (Qg _),Qb]) v3
 refine⟨v4,?_,?_⟩
 ·unfold HK
  rw[a1];simp only[Qa];rw[b1];simp only[Qa];rw[c1];simp only[Qa];rw[d1];rfl
 ·rw[d2,c2,b2,a2]
  simp only[and_assoc]
section
variable{ρ:Type}
def qa(q:Nat→Bool):Nat→Nat→Bool
 |_,0=>true
 |i,m+1=>q i&&qa q (i+1) m
def iT{α:Type}[Inhabited α](l:List α)(f:α→Bool):∀(m i:Nat),i+m=l.length→qa (λi=>f (gt l (i:Int))) i m=(l.drop i).all f
 |0,i,h=>by
  have:i=l.length:=by omega
  subst this;rw[List.drop_length];rfl
 |m+1,i,h=>by
  have hlt:i<l.length:=by omega
  rw[qa,iT l f m (i+1) (by omega),List.drop_eq_getElem_cons hlt,List.all_cons,Q2 hlt]
def gH{n:Nat}{r:ρ}{s1 s2:Int→Option (Int⊕(Fl ρ Unit))}(q:Nat→Bool)
  (h:∀i,i<n→∃b,s1 (i:Int)=some (bif b then .inl ((i+1:Nat):Int)else .inr (.ret r))∧s2 (i:Int)=some (bif b&&q i then .inl ((i+1:Nat):Int)else .inr (.ret r)))
  (e1:s1 (n:Int)=some (.inr (.brk ()))) (e2:s2 (n:Int)=some (.inr (.brk ()))) :
  ∃b,run s1 0=some (bif b then .brk ()else .ret r)∧run s2 0=some (bif b&&qa q 0 n then .brk ()else .ret r):=by
 have key:∀(m i:Nat),i+m=n→∃b,run s1 (i:Int)=some (bif b then .brk ()else .ret r)∧run s2 (i:Int)=some (bif b&&qa q i m then .brk ()else .ret r):=by
  intro m
  induction m with
  |zero =>
   intro i hi;have:i=n:=by omega
   subst this;exact⟨true,by rw[QZ,e1];rfl,by rw[QZ,e2];rfl⟩
  |succ m ih =>
   intro i hi;obtain⟨b,h1,h2⟩:=h i (by omega)
   cases b with
   |false=>exact⟨false,by rw[QZ,h1];rfl,by rw[QZ,h2];rfl⟩
   |true =>
    obtain⟨b',q1,q2⟩:=ih (i+1) (by omega)
    refine⟨b',by rw[QZ,h1];exact q1,?_⟩
    rw[QZ,h2,qa];cases q i with
    |false=>cases b'<;>rfl
    |true=>exact q2
 exact key n 0 (by omega)
end
def xx{α:Type}{a b:List α}(p:α→Bool)(h:∀t,t∈a↔t∈b):a.all p=b.all p:=by
 rw[Bool.eq_iff_iff,List.all_eq_true,List.all_eq_true];exact⟨λh1 x hx=>h1 x ((h x).2 hx),λh1 x hx=>h1 x ((h x).1 hx)⟩
def NV{α:Type}(l:List α)(hour:α→Int)(now:Int):l.all (λx=>!decide (now<hour x))=true↔∀x∈l,hour x≤now:=by
 rw[List.all_eq_true];constructor
 ·intro h x hx
  have:=h x hx;simp at this;exact this
 ·intro h x hx
  have:=h x hx;simp;exact this
def uH{α:Type}(l:List α)(hour:α→Int)(h:∀k (hk:k<l.length) (h0:0<k),hour (l[k-1]'(by omega))≤hour l[k])(now:Int)(hn:0<l.length) :
  (∀x∈l,hour x≤now)↔hour (l[l.length-1]'(by omega))≤now:=by
 have key:∀(d i:Nat) (hj:i+d<l.length),hour (l[i]'(by omega))≤hour l[i+d]:=by
  intro d
  induction d with
  |zero=>intro i hj;exact Int.le_refl _
  |succ d ih =>
   intro i hj;have h1:=ih i (by omega)
   have h2:=h (i+(d+1)) hj (by omega)
   have e:(l[i+(d+1)-1]'(by omega))=l[i+d]:=by congr 1
   rw[e]at h2;omega
 constructor
 ·intro hx;exact hx _ (List.getElem_mem _)
 ·intro hl x hx
  obtain⟨i,hi,rfl⟩:=List.getElem_of_mem hx;have:=key (l.length-1-i) i (by omega)
  have e:(l[i+(l.length-1-i)]'(by omega))=(l[l.length-1]'(by omega)):=by congr 1;omega
  rw[e]at this;omega
def kept(h:Ql)(m1:h.Qt.length≤1048576)(m3:h.Qs.length≤1048576)(m6:h.Qw.length≤100)(hf:∀i (hi:i<h.Qt.length),1≤h.Qt[i].Qo.Id)(hs:∀x∈h.Qs,1≤x.Id)
  (c1:Xu h.Qw=some true) (c2:Jk h.Qw=some true) :
  ∃k,AQ h=some k∧Af h=some (k&&h.Qt.all (λx=>!decide (h.Now<x.At))):=by
 by_cases hlen:h.Qn.length=h.Qt.length
 ·have hd:(!decide (ln h.Qn=ln h.Qt))=false:=by rw[Vq,Vq,hlen];simp
  obtain⟨r1,r2,i1,i2,hmem,l1,l2⟩:=mu h.Qw h.No m6 c1 c2;unfold AQ Af;rw[hd,i1,i2];simp only[Qb,Qa];obtain⟨b,a1,a2⟩:=gH (n:=h.Qt.length) (r:=false) (s1:=ZP h r2 h.Qt (ln h.Qt)) (s2:=Zd h r1) (λi=>!decide (h.Now<(gt h.Qt (i:Int)).At)) (λi hi=>by
    have hi2:i<h.Qn.length:=by omega
    obtain⟨c,q1,q2⟩:=lL h.Qs h.Qt[i].Qo.Id m3 hs;have hid:=hf i hi;have hne:decide (h.Qt[i].Qo.Id=0)=false:=Qe (by omega)
    have hsame:decide (h.Qt[i].Qo.Id∈r1)=decide (h.Qt[i].Qo.Id∈r2):=by rw[decide_eq_decide];exact hmem _
    have hix:decide (0≤C8 h.Qs h.Qt[i].Qo.Id)=h.Qs.any (λx=>decide (x.Qo=h.Qt[i].Qo.Id)):=by
     rcases Hf h.Qs h.Qt[i].Qo.Id with⟨p1,p2⟩|⟨k,_,p1,_,p3⟩
     ·rw[p1,p2];rfl
     ·rw[p1,p3];exact Qf (by omega)
    rw[hne]at q2;simp only[ZP,Zd,QY hi,QR hi,Q2 hi,QR hi2,Q2 hi2,Q3 (show(i:Int)<9223372036854775807 by omega),Qc,QL,q1,q2,La h.Qs _ m3,hne,Qb,Qgx r1 _ (by omega),Qfw r2 _ (by omega),hsame,hix,Qa,Qi,Bool.true_and,Bool.not_not]
    cases decide (h.Qn[i].Qo=h.Qt[i].Qo.Id)<;>cases decide (h.Qs.any (λx=>decide (x.Qo=h.Qt[i].Qo.Id))=decide (h.Qt[i].Qo.Id∈r2))<;>cases decide (h.Now<h.Qt[i].At)<;>first|exact⟨true,rfl,rfl⟩|exact⟨false,rfl,rfl⟩)
   (by simp only[ZP,Q6 (Qg _),Qb]) (by simp only[Zd,Q6 (Qg _),Qb])
  have hqa:qa (λi=>!decide (h.Now<(gt h.Qt (i:Int)).At)) 0 h.Qt.length=h.Qt.all (λx=>!decide (h.Now<x.At)):=by
   have:=iT h.Qt (λx=>!decide (h.Now<x.At)) h.Qt.length 0 (by omega)
   rw[this];rfl
  rw[hqa]at a2;have s3:=Hw h.Qs (λx=>decide (x.Qo=0)||!decide (XY h.Qt x.Qo<0)) (r:=false) (step:=XG h)
   (λi hi=>by
    simp only[XG,QY hi,QR hi,Q2 hi,Q3 (show(i:Int)<9223372036854775807 by omega),Qc,QL,(Jm h.Qt _ m1).1,Qa]
    cases decide (h.Qs[i].Qo=0)<;>cases decide (XY h.Qt h.Qs[i].Qo<0)<;>rfl)
   (by simp only[XG,Q6 (Qg _),Qb])
  have t3:=Hw h.Qs (λx=>decide (x.Qo=0)||!decide (XY h.Qt x.Qo<0)) (r:=false) (step:=JF h r2 h.Qs (ln h.Qs))
   (λi hi=>by
    simp only[JF,QY hi,QR hi,Q2 hi,Q3 (show(i:Int)<9223372036854775807 by omega),Qc,QL,(Jm h.Qt _ m1).2,Qa]
    cases decide (h.Qs[i].Qo=0)<;>cases decide (XY h.Qt h.Qs[i].Qo<0)<;>rfl)
   (by simp only[JF,Q6 (Qg _),Qb])
  have s4:=Hw r1 (λt=>!decide (XY h.Qt t<0)) (r:=false) (step:=ZD h r1)
   (λi hi=>by
    simp only[ZD,QY hi,QR hi,Q2 hi,Q3 (show(i:Int)<9223372036854775807 by omega),Qc,QL,(Jm h.Qt _ m1).1,Qa]
    cases decide (XY h.Qt r1[i]<0)<;>rfl)
   (by simp only[ZD,Q6 (Qg _),Qb])
  have t4:=Hw r2 (λt=>!decide (XY h.Qt t<0)) (r:=false) (step:=Bg h r2 (ln r2))
   (λi hi=>by
    simp only[Bg,QY hi,QR hi,Q2 hi,Q3 (show(i:Int)<9223372036854775807 by omega),Qc,QL,(Jm h.Qt _ m1).2,Qa]
    cases decide (XY h.Qt r2[i]<0)<;>rfl)
   (by simp only[Bg,Q6 (Qg _),Qb])
  rw[xx _ hmem]at s4;rw[a1,a2,s3,t3,s4,t4];generalize h.Qt.all (λx=>!decide (h.Now<x.At))=fa
  generalize h.Qs.all (λx=>decide (x.Qo=0)||!decide (XY h.Qt x.Qo<0))=sa
  generalize r2.all (λt=>!decide (XY h.Qt t<0))=ra
  cases b<;>cases fa<;>cases sa<;>cases ra<;>first|exact⟨true,rfl,rfl⟩|exact⟨false,rfl,rfl⟩
 ·have hd:(!decide (ln h.Qn=ln h.Qt))=true:=by rw[Vq,Vq];simp;omega
  unfold AQ Af;rw[hd];exact⟨false,rfl,rfl⟩
def wanted(s:Int)(h0:0≤s)(h1:s≤3):Q0 [0,1,2,1] s=true∧Gp s=some (gt ([0,1,2,1]:List Int) s):=by
 have:s=0∨s=1∨s=2∨s=3:=by omega
 rcases this with rfl|rfl|rfl|rfl<;>exact⟨rfl,rfl⟩
def trials(h:Ql)(m1:h.Qt.length≤1048576)(m2:h.Qn.length≤1048576)(mm:∀x∈h.Qn,x.Marks.length≤1048576)(m4:h.Qv.length≤1048576)(hst:∀i (hi:i<h.Qv.length),0≤h.Qv[i].State∧h.Qv[i].State≤3) :
  ∃k,Jv h=some k∧Ak h=some (k&&h.Qv.all (λx=>!decide (h.Now<x.At))):=by
 by_cases hlen:h.Qq.length=h.Qv.length
 ·have hd:(!decide (ln h.Qq=ln h.Qv))=false:=by rw[Vq,Vq,hlen];simp
  unfold Jv Ak;rw[hd];simp only[Qb];obtain⟨b,a1,a2⟩:=gH (n:=h.Qv.length) (r:=false) (s1:=Xa h h.Qv (ln h.Qv)) (s2:=Ap h) (λi=>!decide (h.Now<(gt h.Qv (i:Int)).At)) (λi hi=>by
    have hi2:i<h.Qq.length:=by omega
    obtain⟨w1,w2⟩:=wanted h.Qv[i].State (hst i hi).1 (hst i hi).2;obtain⟨t,t1,t2⟩:=W6 h.Qq[i];obtain⟨m,k1,k2,k3⟩:=PT h.Qn h.Qv[i].Qo m2 mm;obtain⟨c,s1,s2⟩:=LO m h.Qq[i] k3;simp only[Xa,Ap,QY hi,QR hi,Q2 hi,QR hi2,Q2 hi2,Q3 (show(i:Int)<9223372036854775807 by omega),Qc,QL,w1,w2,t1,t2,k1,k2,s1,s2,(Jm h.Qt _ m1).1,(Jm h.Qt _ m1).2,Qa]
    cases decide (XY h.Qt h.Qv[i].Qo<0)<;>cases decide (h.Qq[i].Qu=h.Qv[i].Id)<;>cases t<;>cases decide (c=gt [0,1,2,1] h.Qv[i].State)<;>cases decide (h.Now<h.Qv[i].At)<;>first|exact⟨true,rfl,rfl⟩|exact⟨false,rfl,rfl⟩)
   (by simp only[Xa,Q6 (Qg _),Qb]) (by simp only[Ap,Q6 (Qg _),Qb])
  have hqa:qa (λi=>!decide (h.Now<(gt h.Qv (i:Int)).At)) 0 h.Qv.length=h.Qv.all (λx=>!decide (h.Now<x.At)):=by
   have:=iT h.Qv (λx=>!decide (h.Now<x.At)) h.Qv.length 0 (by omega)
   rw[this];rfl
  rw[hqa]at a2;rw[a1,a2];generalize h.Qv.all (λx=>!decide (h.Now<x.At))=fa
  cases b<;>cases fa<;>first|exact⟨true,rfl,rfl⟩|exact⟨false,rfl,rfl⟩
 ·have hd:(!decide (ln h.Qq=ln h.Qv))=true:=by rw[Vq,Vq];simp;omega
  unfold Jv Ak;rw[hd];exact⟨false,rfl,rfl⟩
def bv{α:Type}[Inhabited α](l:List α)(hour:α→Int)(hl:l.length≤1048576)(h:∀k (hk:k<l.length) (h0:0<k),hour (l[k-1]'(by omega))≤hour l[k])(now:Int){β:Type}(rest:Option Bool) :
  (bif decide (0<ln l)then nd (Q0 l (QV (ln l-1)))<|(bif decide (now<hour (gt l (QV (ln l-1))))then some true else rest)else rest)=(bif l.all (λx=>!decide (now<hour x))then rest else some true):=by
 by_cases hn:0<l.length
 ·have hlast:l.length-1<l.length:=by omega
  have e:QV (ln l-1)=((l.length-1:Nat):Int):=by rw[Vq,Vt]<;>omega
  rw[Qf (show 0<ln l by rw[Vq];omega),e,QR hlast,Q2 hlast]
  simp only[Qc,QL];have hiff:=uH l hour h now hn;by_cases hlt:now<hour l[l.length-1]
  ·have:l.all (λx=>!decide (now<hour x))=false:=by
    rw[Bool.eq_false_iff];intro ha;have:=(NV l hour now).1 ha _ (List.getElem_mem hlast);omega
   rw[Qf hlt,this];rfl
  ·have:l.all (λx=>!decide (now<hour x))=true:=(NV l hour now).2 (hiff.2 (by omega))
   rw[Qe hlt,this];rfl
 ·have:l=[]:=by
   cases l with
   |nil=>rfl
   |cons x l=>simp at hn
  subst this;rfl
def UO(h:Ql)(hm:QS h):∃c,Vv h=some c∧Xh h=some c:=by
 unfold QS at hm;obtain⟨m1,m2,m3,m4,m5,m6,m7⟩:=hm;have mm:∀x∈h.Qn,x.Marks.length≤1048576:=λx hx=>m2.2 x hx
 have m2':h.Qn.length≤1048576:=m2.1;obtain⟨f,f1,f2,f3⟩:=M4 h.Qt m1;obtain⟨s,s1,s2⟩:=LK h.Qn m2' mm;obtain⟨t,t1,t2,t3⟩:=K8 h.Qs m3;obtain⟨c,c1,c2,c3⟩:=Hb h.Qv m4;obtain⟨n,n1,n2,n3⟩:=RA h.Qw;obtain⟨e,e1,e2,e3⟩:=Gi h.Book m7;unfold Vv Xh;simp only[QO,QM,f1,f2,s1,s2,t1,t2,c1,c2,n1,n2,e1,e2,Qa];cases (decide (1≤h.No)&&decide (h.No≤9))with
 |false=>exact⟨false,rfl,rfl⟩
 |true =>
 cases f with
 |false=>exact⟨false,rfl,rfl⟩
 |true =>
 cases s with
 |false=>exact⟨false,rfl,rfl⟩
 |true =>
 cases t with
 |false=>exact⟨false,rfl,rfl⟩
 |true =>
 cases c with
 |false=>exact⟨false,rfl,rfl⟩
 |true =>
 cases n with
 |false=>exact⟨false,rfl,rfl⟩
 |true =>
 cases e with
 |false=>exact⟨false,rfl,rfl⟩
 |true =>
  obtain⟨k,k1,k2⟩:=kept h m1 m3 (n3 rfl).1 (f3 rfl).2 (t3 rfl).2 n1 n2;obtain⟨r,r1,r2⟩:=trials h m1 m2' mm m4 (c3 rfl).2;obtain⟨v,v1,v2⟩:=qo h h.Now m1 m4 m6 m7;have hch:=bv h.Qw (·.At) m6 (λi hi h0=>((n3 rfl).2 i hi).2.2 h0) h.Now (β:=Unit)
  have hbk:=bv h.Book (·.At) m7 (λi hi h0=>(e3 rfl).2 i hi h0) h.Now (β:=Unit) (some false)
  have hb0:(bif decide (0<ln h.Book)then nd (Q0 h.Book (QV (ln h.Book-1)))<|some (decide (h.Now<(gt h.Book (QV (ln h.Book-1))).At))else some false)=(bif h.Book.all (λx=>!decide (h.Now<x.At))then some false else some true):=by
   rw[←hbk];cases decide (0<ln h.Book)with
   |false=>rfl
   |true =>
    cases Q0 h.Book (QV (ln h.Book-1))with
    |false=>rfl
    |true=>cases decide (h.Now<(gt h.Book (QV (ln h.Book-1))).At)<;>rfl
  simp only[k1,k2,r1,r2,v1,hb0,hch,Qa,Qh,Qb,Qc];have hv:decide (v≤h.Now)=(decide (-1≤h.Now)&&(h.Qt.all (λx=>!decide (h.Now<x.At))&&(h.Qv.all (λx=>!decide (h.Now<x.At))&&(h.Qw.all (λx=>!decide (h.Now<x.At))&&h.Book.all (λx=>!decide (h.Now<x.At)))))):=by
   rw[Bool.eq_iff_iff];simp only[Bool.and_eq_true,NV h.Qt (·.At),NV h.Qv (·.At),NV h.Qw (·.At),NV h.Book (·.At),decide_eq_true_eq]
   exact v2
  rw[hv];generalize h.Qt.all (λx=>!decide (h.Now<x.At))=a1
  generalize h.Qv.all (λx=>!decide (h.Now<x.At))=a2
  generalize h.Qw.all (λx=>!decide (h.Now<x.At))=a3
  generalize h.Book.all (λx=>!decide (h.Now<x.At))=a4
  cases hnow:(decide (0≤h.Now)&&decide (h.Now≤100000))with
  |false=>refine⟨false,rfl,?_⟩;cases k<;>cases r<;>cases decide (-1≤h.Now)<;>cases a1<;>cases a2<;>cases a3<;>cases a4<;>rfl
  |true =>
   have h1:decide (-1≤h.Now)=true:=by
    simp only[Bool.and_eq_true,decide_eq_true_eq]at hnow;exact Qf (by omega)
   rw[h1];cases k<;>cases r<;>cases a1<;>cases a2<;>cases a3<;>cases a4<;>first|exact⟨true,rfl,rfl⟩|exact⟨false,rfl,rfl⟩
structure HouseOk (h:Ql):Prop where
 no:1≤h.No∧h.No≤9
 now:0≤h.Now∧h.Now≤100000
 fS:X9 h.Qt=some true
 fI:Bb h.Qt=some true
 sS:J8 h.Qn=some true
 sI:AG h.Qn=some true
 tS:Jb h.Qs=some true
 tI:JX h.Qs=some true
 cS:VM h.Qv=some true
 cI:JT h.Qv=some true
 nS:Xu h.Qw=some true
 nI:Jk h.Qw=some true
 eS:VR h.Book=some true
 eI:J5 h.Book=some true
 kept:AQ h=some true
 trials:Jv h=some true
 lateF:∀x∈h.Qt,x.At≤h.Now
 lateC:∀x∈h.Qv,x.At≤h.Now
 lateN:∀x∈h.Qw,x.At≤h.Now
 lateE:∀x∈h.Book,x.At≤h.Now
def dE(h:Ql)(hm:QS h)(ht:Xh h=some true):HouseOk h:=by
 obtain⟨m1,m2,m3,m4,m5,m6,m7⟩:=hm;obtain⟨f,f1,f2,f3⟩:=M4 h.Qt m1;obtain⟨s,s1,s2⟩:=LK h.Qn m2.1 (λx hx=>m2.2 x hx)
 obtain⟨t,t1,t2,t3⟩:=K8 h.Qs m3;obtain⟨c,c1,c2,c3⟩:=Hb h.Qv m4;obtain⟨n,n1,n2,n3⟩:=RA h.Qw;obtain⟨e,e1,e2,e3⟩:=Gi h.Book m7;unfold Xh at ht;simp only[QM,f2,s2,t2,c2,n2,e2,Qa]at ht;cases hN:(decide (1≤h.No)&&decide (h.No≤9))with
 |false=>rw[hN]at ht;cases ht
 |true =>
 rw[hN]at ht;cases f with
 |false=>cases ht
 |true =>
 cases s with
 |false=>cases ht
 |true =>
 cases t with
 |false=>cases ht
 |true =>
 cases c with
 |false=>cases ht
 |true =>
 cases n with
 |false=>cases ht
 |true =>
 cases e with
 |false=>cases ht
 |true =>
 obtain⟨k,k1,k2⟩:=kept h m1 m3 (n3 rfl).1 (f3 rfl).2 (t3 rfl).2 n1 n2;obtain⟨r,r1,r2⟩:=trials h m1 m2.1 (λx hx=>m2.2 x hx) m4 (c3 rfl).2
 obtain⟨v,v1,v2⟩:=qo h h.Now m1 m4 m6 m7;simp only[k1,r1,v1,Qc,Qa]at ht;cases k with
 |false=>cases ht
 |true =>
 cases r with
 |false=>cases ht
 |true =>
 simp only[Qc,Qa]at ht;cases hv:decide (v≤h.Now)with
 |false=>rw[hv]at ht;cases ht
 |true =>
 rw[hv]at ht;have hv':v≤h.Now:=of_decide_eq_true hv;obtain⟨g0,g1,g2,g3,g4⟩:=v2.1 hv';simp only[Qc,Qa,Option.some.injEq,Bool.and_eq_true,decide_eq_true_eq]at ht hN;exact⟨hN,ht,f1,f2,s1,s2,t1,t2,c1,c2,n1,n2,e1,e2,k1,r1,g1,g2,g3,g4⟩
def Ry(l:List Qm)(hl:tw Gw l):J9 l=some l:=by
 have hlen:=hl.1;have h1:=Xe (step:=AJ l) (λi=>(l.take i,(i:Int))) (r:=l) l.length (λi hi=>by
   have hm:l[i].Marks.length≤1048576:=hl.2 _ (List.getElem_mem hi);have hr1:rm l[i].Marks.length 16=true:=VT (by omega) (by omega)
   have hr2:rm ((l.take i).length+1) 40=true:=VT (by rw[List.length_take];omega) (by omega)
   simp only[AJ,QY hi,QR hi,Q2 hi,hr1,hr2,Qc,QL,Q3 (show(i:Int)<9223372036854775807 by omega)]
   rw[List.take_succ_eq_append_getElem hi])
  (by simp only[AJ,Q6 (Qg _),Qb,List.take_length])
 unfold J9;rw[show run (AJ l) ([],0)=_ from by simpa using h1];rfl
def JQ(h:Ql)(hm:QS h):Vk h=some h:=by
 obtain⟨m1,m2,m3,m4,m5,m6,m7⟩:=hm;unfold Vk;simp only[Ry _ m2,VT (show h.Qt.length≤2000000 by omega) (show 64≤1024 by omega),VT (show h.Qs.length≤2000000 by omega) (show 24≤1024 by omega),VT (show h.Qv.length≤2000000 by omega) (show 40≤1024 by omega),
  VT (show h.Qq.length≤2000000 by omega) (show 32≤1024 by omega),VT (show h.Qw.length≤2000000 by omega) (show 40≤1024 by omega),VT (show h.Book.length≤2000000 by omega) (show 32≤1024 by omega),QL,Qa]
section
variable{S U A B:Type}{ix:S→Int}{j:Int}
def Sp(ix:S→Int)(j:Int)(o:Option (S⊕Fl Bool U)):Prop:=∀x,o=some x→x=.inr (.ret false)∨∃s',x=.inl s'∧ix s'=j
def Sp.bind{o:Option A}{k:A→Option (S⊕Fl Bool U)}(h:∀y,Sp ix j (k y)):Sp ix j (o.bind k):=λx hx=>by
 obtain⟨y,_,hy⟩:=Option.bind_eq_some_iff.1 hx;exact h y x hy
def Sp.cond{b:Bool}{x y:Option (S⊕Fl Bool U)}(hx:Sp ix j x)(hy:Sp ix j y):Sp ix j (bif b then x else y):=by
 cases b with
 |true=>exact hx
 |false=>exact hy
def Sp.nd{b:Bool}{x:Option (S⊕Fl Bool U)}(hx:Sp ix j x):Sp ix j (nd b<|x):=by
 cases b with
 |true=>exact hx
 |false=>exact λ_ h=>by cases h
def Sp.ret:Sp ix j (some (.inr (.ret false)):Option (S⊕Fl Bool U)):=λx hx=>by injection hx with hx;exact .inl hx.symm
def Sp.inl{s:S}(h:ix s=j):Sp ix j (some (.inl s):Option (S⊕Fl Bool U)):=λx hx=>by injection hx with hx;exact .inr ⟨s,hx.symm,h⟩
def Qag{step:A→Option (A⊕Fl Bool B)}(h:∀s r,step s=some (.inr (.ret r))→r=false){s:A}{r:Bool}(hr:run step s=some (.ret r)):r=false:=by
 obtain⟨n,hn⟩:=E2.1 hr;clear hr
 induction n generalizing s with
 |zero=>cases hn
 |succ n ih =>
  simp only[aM]at hn;obtain⟨o,h1,h2⟩:=Option.bind_eq_some_iff.1 hn;cases o with
  |inl s'=>exact ih h2
  |inr r'=>injection h2 with h2;subst h2;exact h s r h1
def Sp.run{step:A→Option (A⊕Fl Bool B)}(h:∀s r,step s=some (.inr (.ret r))→r=false){s:A}{q:B→Option (S⊕Fl Bool U)}(hq:∀y,Sp ix j (q y)):Sp ix j ((run step s).bind (Zy (λr=>some (.inr (.ret r))) q)):=λx hx=>by
 obtain⟨y,hy,h2⟩:=Option.bind_eq_some_iff.1 hx;cases y with
 |ret r =>
  have:=Qag h hy;subst this;injection h2 with h2
  exact .inl h2.symm
 |brk u=>exact hq u x h2
def MR{step:S→Option (S⊕Fl Bool U)}{n:Nat}{P:Nat→Prop}(ix:S→Int)(hs:∀(i:Nat) s,i<n→ix s=(i:Int)→Sp ix ((i+1:Nat):Int) (step s))(hp:∀(i:Nat) s,i<n→ix s=(i:Int)→¬P i→∀s',step s≠some (.inl s')){s0:S}{k:U→Option Bool}(h0:ix s0=0)(hr:(run step s0).bind (Zy (λr=>some r) k)=some true):∀i,i<n→P i:=by
 have key:∀k':Nat,k'≤n→∃s,ix s=(k':Int)∧(run step s).bind (Zy (λr=>some r) k)=some true∧∀i,i<k'→P i:=by
  intro k'
  induction k' with
  |zero=>exact λ_=>⟨s0,h0,hr,λi hi=>by omega⟩
  |succ k' ih =>
   intro hk;obtain⟨s,q1,q2,q3⟩:=ih (by omega)
   rw[QZ]at q2;obtain⟨z,e0,e3⟩:=Option.bind_eq_some_iff.1 q2;obtain⟨x,e1,e2⟩:=Option.bind_eq_some_iff.1 e0
   rcases hs k' s (by omega) q1 x e1 with rfl|⟨s',rfl,q4⟩
   ·injection e2 with e2
    subst e2;cases e3
   ·refine⟨s',q4,by simp only at e2;rw[e2];exact e3,λi hi=>?_⟩
    by_cases hik:i<k'
    ·exact q3 i hik
    ·have:i=k':=by omega
     subst this;exact Classical.byContradiction λhn=>hp i s (by omega) q1 hn s' e1
 intro i hi;obtain⟨_,_,_,h⟩:=key n (Qg _);exact h i hi
end
def Sp.at{S U:Type}{ix:S→Int}{j j':Int}{o:Option (S⊕Fl Bool U)}(h:Sp ix j o)(e:j=j'):Sp ix j' o:=e▸h
structure Lk (h:Ql):Prop where
 no:i64 h.No
 now:i64 h.Now
 slots:∀x∈h.Qs,i64 x.Id∧i64 x.Qo
 claims:∀x∈h.Qv,i64 x.Id∧i64 x.QA∧i64 x.Qo
 chain:∀x∈h.Qw,i64 x.QA∧i64 x.At
 finds:∀x∈h.Qt,i64 x.Qo.Id
def Qfu{n a b:Int}(h:(decide (a≤n)&&decide (n≤b))=true)(ha:-9223372036854775808≤a)(hb:b≤9223372036854775807):i64 n:=by
 simp only[Bool.and_eq_true,decide_eq_true_eq]at h;unfold i64;omega
def Il{n a b:Int}(ha:-9223372036854775808≤a)(hb:b≤9223372036854775807)(h:¬i64 n):(decide (a≤n)&&decide (n≤b))=false:=by
 rw[Bool.eq_false_iff];exact λe=>h (Qfu e ha hb)
def QaP{S U:Type}{ix:S→Int}{j:Int}{c:Bool}{x:Option (S⊕Fl Bool U)}{u:U}{r:Bool}(h:Sp ix j x)(e:(bif c then x else some (.inr (.brk u)))=some (.inr (.ret r))):r=false:=by
 cases c with
 |true =>
  rcases h _ e with h|⟨_,h,_⟩
  ·injection h with h;injection h
  ·cases h
 |false=>injection e with e;injection e with e;cases e
def ve(l:List Qr)(hl:l.length≤1048576)(h:Jb l=some true):∀x∈l,i64 x.Id∧i64 x.Qo:=by
 intro x hx;obtain⟨i,hi,rfl⟩:=List.getElem_of_mem hx;refine MR (n:=l.length) (P:=λi=>∀h:i<l.length,i64 l[i].Id∧i64 l[i].Qo) (λs:Int=>s) (λi s hi hs=>?_) (λi s hi hs hP s' e=>?_) (s0:=(0:Int)) rfl h i hi hi
 ·subst hs
  unfold VC;rw[QY hi,Qc];exact Sp.bind λb=>Sp.cond Sp.ret (Sp.run (λs r e=>QaP (ix:=λs:Int=>s) (j:=QV (s+1)) (Sp.bind λ_=>Sp.cond Sp.ret (Sp.inl rfl)) e) λ_=>Sp.inl (Q3 (by omega)))
 ·subst hs
  refine hP λh'=>?_
  simp only[VC,QY hi,QR hi,Q2 hi,Qc,QL,QO,Qa]at e;refine Classical.byContradiction λhn=>?_
  by_cases h1:i64 l[i].Id
  ·have h2:¬i64 l[i].Qo:=λh2=>hn ⟨h1,h2⟩
   rw[Il (a:=0) (b:=999) (by omega) (by omega) h2]at e
   revert e;cases (decide (1≤l[i].Id)&&decide (l[i].Id≤99))<;>cases (decide (1≤l[i].Size)&&decide (l[i].Size≤50))<;>simp
  ·rw[Il (a:=1) (b:=99) (by omega) (by omega) h1]at e
   revert e;simp
def oT(l:List Qu)(hl:l.length≤1048576)(h:VM l=some true):∀x∈l,i64 x.Id∧i64 x.QA∧i64 x.Qo:=by
 intro x hx;obtain⟨i,hi,rfl⟩:=List.getElem_of_mem hx;refine MR (n:=l.length) (P:=λi=>∀h:i<l.length,i64 l[i].Id∧i64 l[i].QA∧i64 l[i].Qo) (λs:Int=>s) (λi s hi hs=>?_) (λi s hi hs hP s' e=>?_) (s0:=(0:Int)) rfl h i hi hi
 ·subst hs
  unfold VZ;rw[QY hi,Qc];exact Sp.nd (Sp.bind λb=>Sp.cond Sp.ret (Sp.run (λs r e=>QaP (ix:=λs:Int=>s) (j:=QV (s+1)) (Sp.bind λ_=>Sp.cond Sp.ret (Sp.inl rfl)) e) λ_=>Sp.inl (Q3 (by omega))))
 ·subst hs
  refine hP λh'=>?_
  simp only[VZ,QY hi,QR hi,Q2 hi,Qc,QL,QO,Qa]at e;refine Classical.byContradiction λhn=>?_
  by_cases h1:i64 l[i].Id
  ·by_cases h2:i64 l[i].QA
   ·have h3:¬i64 l[i].Qo:=λh3=>hn ⟨h1,h2,h3⟩
    rw[Il (n:=l[i].Qo) (a:=1) (b:=999) (by omega) (by omega) h3]at e
    revert e;cases (decide (1≤l[i].Id)&&decide (l[i].Id≤999))<;>cases (decide (1≤l[i].QA)&&decide (l[i].QA≤999))<;>simp
   ·rw[Il (n:=l[i].QA) (a:=1) (b:=999) (by omega) (by omega) h2]at e
    revert e;cases (decide (1≤l[i].Id)&&decide (l[i].Id≤999))<;>simp
  ·rw[Il (n:=l[i].Id) (a:=1) (b:=999) (by omega) (by omega) h1]at e
   revert e;simp
def qr(l:List QB)(hl:l.length≤1048576)(h:X9 l=some true):∀x∈l,i64 x.Qo.Id:=by
 intro x hx;obtain⟨i,hi,rfl⟩:=List.getElem_of_mem hx;refine MR (n:=l.length) (P:=λi=>∀h:i<l.length,i64 l[i].Qo.Id) (λs:Int=>s) (λi s hi hs=>?_) (λi s hi hs hP s' e=>?_) (s0:=(0:Int)) rfl h i hi hi
 ·subst hs
  unfold VQ;rw[QY hi,Qc];exact Sp.bind λb=>Sp.cond Sp.ret (Sp.inl (Q3 (by omega)))
 ·subst hs
  refine hP λh'=>?_
  simp only[VQ,X0,JB,QY hi,QR hi,Q2 hi,Qc,QL,QO,Qa]at e;refine Classical.byContradiction λhn=>?_
  rw[Il (n:=l[i].Qo.Id) (a:=1) (b:=999) (by omega) (by omega) hn]at e
  revert e;simp
def tg(l:List Hand)(hl:l.length≤100)(h:Xu l=some true):∀x∈l,i64 x.QA∧i64 x.At:=by
 intro x hx;obtain⟨i,hi,rfl⟩:=List.getElem_of_mem hx;have h100:decide (ln l≤100)=true:=Qf (by rw[Vq];omega)
 refine MR (n:=l.length) (P:=λi=>∀h:i<l.length,i64 l[i].QA∧i64 l[i].At) (λs:Int×Int=>s.2) (λi s hi hs=>?_) (λi s hi hs hP s' e=>?_) (s0:=((0:Int),(0:Int))) rfl h i hi hi
 ·obtain⟨a,j⟩:=s
  simp only at hs;subst hs;simp only[Vz,QY hi,h100,Bool.and_self,Qc];exact Sp.nd (Sp.bind λ_=>Sp.bind λb=>Sp.cond Sp.ret (Sp.bind λ_=>Sp.bind λ_=>Sp.cond Sp.ret (Sp.inl (Q3 (by omega)))))
 ·obtain⟨a,j⟩:=s
  simp only at hs;subst hs;refine hP λh'=>?_
  simp only[Vz,QY hi,h100,Bool.and_self,QR hi,Q2 hi,Qc,QL,QO,Qa]at e;obtain⟨q,_,e⟩:=Option.bind_eq_some_iff.1 e;refine Classical.byContradiction λhn=>?_
  by_cases h1:i64 l[i].QA
  ·have h2:¬i64 l[i].At:=λh2=>hn ⟨h1,h2⟩
   rw[Il (n:=l[i].At) (a:=0) (b:=100000) (by omega) (by omega) h2]at e
   revert e;cases (decide (1≤l[i].Qo)&&decide (l[i].Qo≤999))<;>cases (decide (1≤l[i].Qx)&&decide (l[i].Qx≤5))<;>cases (decide (0≤l[i].QA)&&decide (l[i].QA≤999))<;>simp
  ·rw[Il (n:=l[i].QA) (a:=0) (b:=999) (by omega) (by omega) h1]at e
   revert e;cases (decide (1≤l[i].Qo)&&decide (l[i].Qo≤999))<;>cases (decide (1≤l[i].Qx)&&decide (l[i].Qx≤5))<;>simp
def Lk.of_valid{h:Ql}(hm:QS h)(hv:HouseOk h)(hc:h.Qw.length≤100):Lk h:=by
 obtain⟨m1,m2,m3,m4,m5,m6,m7⟩:=hm;have h1:=hv.no;have h2:=hv.now;exact⟨by unfold i64;omega,by unfold i64;omega,ve _ m3 hv.tS,oT _ m4 hv.cS,tg _ hc hv.nS,qr _ m1 hv.fS⟩
noncomputable def ZQ(h:Ql):Bool:=(Xh h).getD false
def Zs(h:Ql)(hm:QS h):Vv h=some (ZQ h)∧Xh h=some (ZQ h):=by
 obtain⟨c,c1,c2⟩:=UO h hm;unfold ZQ;rw[c1,c2];exact⟨rfl,rfl⟩
def NK(h:Ql)(hm:QS h)(hb:ZQ h=true):HouseOk h:=dE h hm (by rw[(Zs h hm).2,hb])
def Ru(l:List Qm)(hl:tw Gw l):ZA l=some l:=by
 have hlen:=hl.1;have h1:=Xe (step:=Ju l (ln l)) (λi=>(l.take i,(i:Int))) (r:=l) l.length (λi hi=>by
   have hm:l[i].Marks.length≤1048576:=hl.2 _ (List.getElem_mem hi);have hr1:rm (0+l[i].Marks.length) 16=true:=VT (by omega) (by omega)
   have hr2:rm ((l.take i).length+1) 40=true:=VT (by rw[List.length_take];omega) (by omega)
   simp only[Ju,JO,QY hi,QR hi,Q2 hi,hr1,hr2,Qc,QL,Qa,Q3 (show(i:Int)<9223372036854775807 by omega)]
   rw[List.take_succ_eq_append_getElem hi])
  (by simp only[Ju,Q6 (Qg _),Qb,List.take_length])
 unfold ZA;rw[show run (Ju l (ln l)) ([],0)=_ from by simpa using h1];rfl
def Js(h:Ql)(hm:QS h):Vb h=some h:=by
 obtain⟨m1,m2,m3,m4,m5,m6,m7⟩:=hm;unfold Vb Zx XX Xm Dv Ji Zc;simp only[Ru _ m2,VT (show 0+h.Qt.length≤2000000 by omega) (show 64≤1024 by omega),VT (show 0+h.Qs.length≤2000000 by omega) (show 24≤1024 by omega),VT (show 0+h.Qv.length≤2000000 by omega) (show 40≤1024 by omega),
  VT (show 0+h.Qq.length≤2000000 by omega) (show 32≤1024 by omega),VT (show 0+h.Qw.length≤2000000 by omega) (show 40≤1024 by omega),VT (show 0+h.Book.length≤2000000 by omega) (show 32≤1024 by omega),QL,Qa]
def YB(l:List Bool)(hl:l.length≤1048576):XZ l false=some (!l.all id):=by
 have hr:=JG l (λx=>decide (false=x)) (λi=>(i:Int)) (step:=Zr l false (ln l))
  (λi hi=>by
   simp only[Zr,QY hi,QR hi,Q2 hi,Q3 (show(i:Int)<9223372036854775807 by omega),Qc,QL]
   cases decide (false=l[i])<;>rfl)
  (by simp only[Zr,Q6 (Qg _),Qb])
 unfold XZ EG;rw[hr];have hall:l.all id=(l.findIdx? (λx=>decide (false=x))).isNone:=by
  cases hf:l.findIdx? (λx=>decide (false=x))with
  |none =>
   rw[List.findIdx?_eq_none_iff]at hf;simp only[Option.isNone_none,List.all_eq_true];intro x hx;have:=hf x hx;cases x<;>simp at this ⊢
  |some i =>
   obtain⟨hlt,hp⟩:=CG hf;simp only[Option.isNone_some];rw[List.all_eq_false];exact⟨l[i],List.getElem_mem hlt,by simp at hp;simp[←hp]⟩
 rw[hall];cases l.findIdx? (λx=>decide (false=x))with
 |none=>rfl
 |some i =>
  simp only[Qa,Zy];rw[Qf (show(0:Int)≤(i:Int)by omega)];rfl
noncomputable def FE(h out:Ql)(ok:Bool):Ql×Bool:=bif ok&&(ZQ h&&ZQ out)then(out,true)else(h,false)
def C7(h out:Ql)(ok:Bool)(hm:QS h)(ho:QS out):QS (FE h out ok).1:=by
 unfold FE;cases ok&&(ZQ h&&ZQ out)<;>assumption
theorem Kf(h out:Ql):FE h out false=(h,false):=rfl
def oQ(h out:Ql)(ok:Bool)(hb:ZQ h=false):FE h out ok=(h,false):=by
 unfold FE;rw[hb];cases ok<;>rfl
def GE(h out:Ql)(ok:Bool)(hm:QS h)(ho:QS out):Vg h out ok=some (FE h out ok):=by
 unfold Vg FE;simp only[(Zs h hm).1,(Zs out ho).1,JQ h hm,Qa];cases ok<;>cases ZQ h<;>cases ZQ out<;>rfl
def smH{h:Ql}(hm:QS h){f:List QB}{s:List Qm}{t:List Qr}{c:List Qu}{r:List Qp}{n:List Hand}{b:List Entry}{k:Int}(h1:f.length≤1048576)(h2:tw Gw s)(h3:t.length≤1048576)(h4:c.length≤1048576)(h5:r.length≤1048576)(h6:n.length≤1048576)(h7:b.length≤1048576) :
  QS ⟨h.No,f,s,t,c,r,n,b,k⟩:=⟨h1,h2,h3,h4,h5,h6,h7⟩
def Hq(l:List Qu)(i:Nat):Bool :=
 (decide (1≤(gt l (i:Int)).Id)&&decide ((gt l (i:Int)).Id≤999))&&((decide (1≤(gt l (i:Int)).QA)&&decide ((gt l (i:Int)).QA≤999))&&((decide (1≤(gt l (i:Int)).Qo)&&decide ((gt l (i:Int)).Qo≤999))&&((decide (0≤(gt l (i:Int)).At)&&decide ((gt l (i:Int)).At≤100000))&&((decide (0≤(gt l (i:Int)).State)&&decide ((gt l (i:Int)).State≤3)) &&
  ((decide (i=0)||!decide ((gt l (i:Int)).Id≤(gt l ((i-1:Nat):Int)).Id))&&!(l.take i).any (II (gt l (i:Int))))))))
def iL(l:List Qu)(hl:l.length≤2097152)(i:Nat)(hi:i<l.length):VZ l (i:Int)=some (bif Hq l i then .inl ((i+1:Nat):Int)else .inr (.ret false)):=by
 have hin:=Ka l i hi (by omega)
 simp only[VZ,Hq,QY hi,QR hi,Q2 hi,Q3 (show(i:Int)<9223372036854775807 by omega),Qc,QL,QO,Qa,hin]
 generalize (l.take i).any (II l[i])=q;by_cases h0:0<i
 ·simp only[show decide (0<(i:Int))=true from Qf (by omega),show decide (i=0)=false from Qe (by omega),By h0 (by omega),QR (show i-1<l.length by omega),Qc,QL]
  cases (decide (1≤l[i].Id)&&decide (l[i].Id≤999))<;>cases (decide (1≤l[i].QA)&&decide (l[i].QA≤999))<;>cases (decide (1≤l[i].Qo)&&decide (l[i].Qo≤999))<;>cases (decide (0≤l[i].At)&&decide (l[i].At≤100000))<;>cases (decide (0≤l[i].State)&&decide (l[i].State≤3))<;>cases decide (l[i].Id≤(gt l ((i-1:Nat):Int)).Id)<;>cases q<;>rfl
 ·simp only[show decide (0<(i:Int))=false from Qe (by omega),show decide (i=0)=true from Qf (by omega),Qb]
  cases (decide (1≤l[i].Id)&&decide (l[i].Id≤999))<;>cases (decide (1≤l[i].QA)&&decide (l[i].QA≤999))<;>cases (decide (1≤l[i].Qo)&&decide (l[i].Qo≤999))<;>cases (decide (0≤l[i].At)&&decide (l[i].At≤100000))<;>cases (decide (0≤l[i].State)&&decide (l[i].State≤3))<;>cases q<;>rfl
def YH(l:List Qu)(hl:l.length≤2097152):VM l=some ((List.range l.length).all (Hq l)&&decide ((l.length:Int)≤20)):=by
 have key:∀(m i:Nat),i+m=l.length→run (VZ l) (i:Int)=some (bif (List.range' i m).all (Hq l)then .brk ()else .ret false):=by
  intro m
  induction m with
  |zero =>
   intro i hi;have:i=l.length:=by omega
   subst this;rw[QZ];simp only[VZ,Q6 (Qg _),Qb,List.range'_zero,List.all_nil,Qc,Qa]
  |succ m ih =>
   intro i hi;rw[QZ,iL l hl i (by omega),List.range'_succ,List.all_cons]
   cases Hq l i with
   |false=>rfl
   |true=>simp only[Qc,Bool.true_and];exact ih (i+1) (by omega)
 unfold VM;rw[show run (VZ l) 0=_ from key l.length 0 (by omega),←List.range_eq_range']
 cases (List.range l.length).all (Hq l)<;>rfl
def LQ(l:List Qu)(h:VM l=some true)(hl:l.length≤2097152):l.length≤20∧∀i,i<l.length→Hq l i=true:=by
 rw[YH l hl]at h;simp only[Option.some.injEq,Bool.and_eq_true,decide_eq_true_eq,List.all_eq_true,List.mem_range]at h;exact⟨by omega,h.1⟩
def cL{α:Type}[Inhabited α](l:List α)(k:Nat)(x:α)(i:Nat)(hi:i<l.length):gt (l.set k x) (i:Int)=if i=k then x else gt l (i:Int):=by
 rw[Q2 (by rw[List.length_set];exact hi),Q2 hi,List.getElem_set]
 by_cases h:i=k
 ·subst h;simp
 ·rw[if_neg h,if_neg (by omega)]
def aw(l:List Qu)(k i:Nat)(x y:Qu)(hi:i≤l.length)(hx:x.State≠3)(h:(l.take i).any (II y)=false):((l.set k x).take i).any (II y)=false:=by
 rw[List.any_eq_false]at h ⊢;intro z hz;obtain⟨j,hj,rfl⟩:=List.getElem_of_mem hz;have hj':j<i∧j<l.length:=by simp at hj;omega
 rw[List.getElem_take,List.getElem_set];by_cases hk:k=j
 ·rw[if_pos hk];unfold II;simp[hx]
 ·rw[if_neg hk]
  exact h _ (by
   rw[List.mem_take_iff_getElem];exact⟨j,by omega,rfl⟩)
def jq(l:List Qu)(k:Nat)(hk:k<l.length)(s:Int)(hs:s=1∨s=2)(hl:l.length≤1048576)(h:VM l=some true):VM (l.set k ⟨l[k].Id,l[k].QA,l[k].Qo,l[k].At,s⟩)=some true:=by
 obtain⟨h1,h2⟩:=LQ l h (by omega)
 rw[YH _ (by rw[List.length_set];omega)]
 rw[List.length_set];have:(List.range l.length).all (Hq (l.set k ⟨l[k].Id,l[k].QA,l[k].Qo,l[k].At,s⟩))=true:=by
  rw[List.all_eq_true];intro i hi;rw[List.mem_range]at hi;have ho:=h2 i hi;have hgi:∀j,j<l.length→(gt (l.set k ⟨l[k].Id,l[k].QA,l[k].Qo,l[k].At,s⟩) (j:Int)).Id=(gt l (j:Int)).Id:=by
   intro j hj;rw[cL l k _ j hj];by_cases hjk:j=k
   ·subst hjk;rw[if_pos rfl,Q2 hj]
   ·rw[if_neg hjk]
  unfold Hq at ho ⊢;rw[hgi i hi,hgi (i-1) (by omega)]
  simp only[Bool.and_eq_true]at ho ⊢;obtain⟨o1,o2,o3,o4,o5,o6,o7⟩:=ho;rw[cL l k _ i hi];by_cases hik:i=k
  ·subst hik
   rw[Q2 hi]at o1 o2 o3 o4 o5 o6 o7;rw[if_pos rfl,Q2 hi];refine⟨o1,o2,o3,o4,?_,o6,?_⟩
   ·rcases hs with rfl|rfl<;>exact⟨rfl,rfl⟩
   ·have hst:s≠3:=by omega
    rw[show((l.set i ⟨l[i].Id,l[i].QA,l[i].Qo,l[i].At,s⟩).take i).any (II ⟨l[i].Id,l[i].QA,l[i].Qo,l[i].At,s⟩)=false from by
     rw[List.any_eq_false];intro z _;unfold II;simp[hst]]
    rfl
  ·rw[if_neg hik]
   refine⟨o1,o2,o3,o4,o5,o6,?_⟩;have o7':(l.take i).any (II (gt l (i:Int)))=false:=by simpa using o7
   rw[aw l k i _ _ (by omega) (by show s≠3;omega) o7']
   rfl
 rw[this];simp;omega
def BE(l:List Qu)(id:Int):Int:=match l.findIdx? (λx=>decide (x.Id=id))with|some i=>(i:Int)|none=>-1
def OW(l:List Qu)(id:Int)(hl:l.length≤1048576):X8 l id=some (BE l id):=by
 have hi:=JG l (λx=>decide (x.Id=id)) (λi=>(i:Int)) (step:=Vr l id (ln l))
  (λi hi=>by
   simp only[Vr,Fw,Qa,QY hi,QR hi,Q2 hi,Q3 (show(i:Int)<9223372036854775807 by omega),Qc,QL]
   cases decide (l[i].Id=id)<;>rfl)
  (by simp only[Vr,Q6 (Qg _),Qb])
 unfold X8 Xn BE;rw[hi];cases l.findIdx? (λx=>decide (x.Id=id))<;>rfl
def Ho(l:List Qu)(id:Int):BE l id=-1∨∃k:Nat,∃hk:k<l.length,BE l id=(k:Int)∧l[k].Id=id:=by
 unfold BE;cases hf:l.findIdx? (λx=>decide (x.Id=id))with
 |none=>exact .inl rfl
 |some i =>
  obtain⟨hi,hp⟩:=CG hf;exact .inr ⟨i,hi,rfl,by simpa using hp⟩
def TE(l:List Qu)(id:Int)(j:Nat)(hj:j<l.length)(h:l[j].Id=id):∃k:Nat,∃hk:k<l.length,BE l id=(k:Int)∧l[k].Id=id:=by
 rcases Ho l id with h0|h0
 ·exfalso
  unfold BE at h0;cases hf:l.findIdx? (λx=>decide (x.Id=id))with
  |none =>
   have:=List.findIdx?_eq_none_iff.1 hf _ (List.getElem_mem hj);simp[h]at this
  |some i=>rw[hf]at h0;simp only at h0;omega
 ·exact h0
def Pb(h:Ql)(ht:Jv h=some true):h.Qq.length=h.Qv.length:=by
 by_cases hlen:h.Qq.length=h.Qv.length
 ·exact hlen
 ·exfalso
  unfold Jv at ht;rw[show(!decide (ln h.Qq=ln h.Qv))=true from by rw[Vq,Vq];simp;omega]at ht
  cases ht
def Ed(l:List Qu)(id:Int)(hl:l.length≤1048576):JV l id=some (BE l id)∧X8 l id=some (BE l id):=by
 have hs:=JG l (λx=>decide (x.Id=id)) (λi=>(i:Int)) (step:=Av l id)
  (λi hi=>by
   simp only[Av,QY hi,QR hi,Q2 hi,Q3 (show(i:Int)<9223372036854775807 by omega),Qc,QL]
   cases decide (l[i].Id=id)<;>rfl)
  (by simp only[Av,Q6 (Qg _),Qb])
 refine⟨?_,OW l id hl⟩;unfold JV BE;rw[hs];cases l.findIdx? (λx=>decide (x.Id=id))<;>rfl
end Go.Proofs.YtfhnbabcbhgffaaGreatDoor
