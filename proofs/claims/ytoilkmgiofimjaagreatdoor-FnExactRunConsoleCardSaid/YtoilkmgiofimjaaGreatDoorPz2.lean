import Derived.Test.YtoilkmgiofimjaaGreatDoorPz1
namespace Go.Proofs.YtoilkmgiofimjaaGreatDoor
open Go
set_option linter.unusedVariables false
set_option linter.unusedSimpArgs false
theorem I0(l:List Hand)(t:Int):∀(n j:Nat),XU l t n=(j:Int)→j<n∧(gt l (j:Int)).Thing=t
 |0,j,h=>by unfold XU at h;omega
 |n+1,j,h=>by
  unfold XU at h
  split at h
  ·rename_i ht
   have:n=j:=by omega
   subst this;exact⟨by omega,ht⟩
  ·obtain⟨h1,h2⟩:=I0 l t n j h
   exact⟨by omega,h2⟩
theorem Mn(l:List Hand)(t:Int):∀(n i:Nat),i<n→(gt l (i:Int)).Thing=t→∃j:Nat,j<n∧XU l t n=(j:Int)
 |0,i,hi,_=>by omega
 |n+1,i,hi,ht=>by
  unfold XU;by_cases hn:(gt l (n:Int)).Thing=t
  ·rw[if_pos hn];exact⟨n,by omega,rfl⟩
  ·rw[if_neg hn]
   have:i≠n:=λh=>by subst h;exact hn ht
   obtain⟨j,h1,h2⟩:=Mn l t n i (by omega) ht
   exact⟨j,by omega,h2⟩
def hm(l:List Hand)(house t:Int):Bool:=decide ((gt l (XU l t l.length)).Holder=2)&&decide ((gt l (XU l t l.length)).Who=house)
theorem Qhu(out:List Int)(x:Int)(hl:out.length≤1000000):∃out',A7 out x=some out'∧out'.length≤out.length+1∧∀t,t∈out'↔t∈out∨t=x:=by
 have key:∀(m i:Nat),i+m=out.length→∃k:Nat,k≤out.length∧run (Xo out x) (i:Int)=some (k:Int):=by
  intro m
  induction m with
  |zero =>
   intro i hi;have:i=out.length:=by omega
   subst this;exact⟨out.length,Qg _,by rw[QS];simp only[Xo,QP (Qg _),Qb,Qa]⟩
  |succ m ih =>
   intro i hi;have hlt:i<out.length:=by omega
   cases hc:decide (out[i]<x)with
   |false=>exact⟨i,by omega,by rw[QS];simp only[Xo,Qy hlt,Qs hlt,QC hlt,hc,Qc,Qb,Qn,Qa]⟩
   |true =>
    obtain⟨k,k1,k2⟩:=ih (i+1) (by omega)
    refine⟨k,k1,?_⟩;rw[QS];simp only[Xo,Qy hlt,Qs hlt,QC hlt,hc,Qc,Qn,Qa,QM (show(i:Int)<9223372036854775807 by omega)]
    exact k2
 obtain⟨k,hk,hr⟩:=key out.length 0 (by omega)
 have hr':run (Xo out x) 0=some (k:Int):=hr;have e1:cut out 0 (k:Int)=out.take k:=JK out k;have e2:cut out (k:Int) (ln out)=out.drop k:=by unfold cut;rw[Q5];simp
 have new:A7 out x=some out∧x∈out∨A7 out x=some (out.take k++[x]++out.drop k):=by
  have s1:slB 0 (k:Int) (ln out)=true:=Kj hk;have s2:slB (k:Int) (ln out) (ln out)=true:=by unfold slB;rw[Q5];simp;omega
  have put:(nd (slB 0 (k:Int) (ln out))<|nd (slB (k:Int) (ln out) (ln out))<|nd (rm (0+(cut out 0 (k:Int)).length) 8)<|nd (rm ((cut out 0 (k:Int)).length+1) 8)<|nd (rm ((cut out 0 (k:Int)).length+1+(cut out (k:Int) (ln out)).length) 8)<|some (((cut out 0 (k:Int))++[x])++(cut out (k:Int) (ln out))))=some (out.take k++[x]++out.drop k):=by
   rw[s1,s2,e1,e2,Vp (by simp;omega) (by omega),Vp (by simp;omega) (by omega),Vp (by simp;omega) (by omega)]
   rfl
  unfold A7;rw[hr'];simp only[Qa];by_cases hlt:k<out.length
  ·rw[Qy hlt,Qs hlt,QC hlt]
   simp only[Qc,Qn,Qa];by_cases hx:out[k]=x
   ·left
    rw[Qf hx,Vp (show 0+out.length≤2000000 by omega) (by omega)]
    exact⟨rfl,by rw[←hx];exact List.getElem_mem hlt⟩
   ·right
    rw[Qe hx];exact put
  ·right
   rw[QP (show out.length≤k by omega)]
   exact put
 rcases new with⟨h1,h2⟩|h1
 ·exact⟨out,h1,by omega,λt=>⟨.inl,λh=>h.elim _root_.id λh=>by rw[h];exact h2⟩⟩
 ·refine⟨_,h1,by simp;omega,λt=>?_⟩
  have:t∈out↔t∈out.take k∨t∈out.drop k:=by
   conv=>lhs;rw[←List.take_append_drop k out]
   exact List.mem_append
  simp only[List.mem_append,List.mem_singleton];rw[this];constructor
  ·rintro((h|h)|h)
   ·exact .inl (.inl h)
   ·exact .inr h
   ·exact .inl (.inr h)
  ·rintro((h|h)|h)
   ·exact .inl (.inl h)
   ·exact .inr h
   ·exact .inl (.inr h)
theorem Y0(l:List Hand)(t:Int)(hl:l.length≤1048576):AA l t=some (XU l t l.length):=by
 have h:=ay l t l.length (Qg _) hl;rw[JK,List.take_length]at h;exact h
theorem mi(l:List Hand)(house:Int)(hl:l.length≤100)(c1:Xm l=some true)(c2:Xu l=some true) :
  ∃r1 r2,EL l house=some r1∧C8 l house=some r2∧(∀t,t∈r1↔t∈r2)∧r1.length≤100∧r2.length≤100:=by
 have hat:∀i,i<l.length→∃j:Nat,j<l.length∧XU l (gt l (i:Int)).Thing l.length=(j:Int):=λi hi=>Mn l _ l.length i hi rfl
 obtain⟨r1,a1,a2,a3⟩:=Mq (n:=l.length) (step:=Bo l house) (fin:=λr=>r)
  (λi (out:List Int)=>out.length≤i∧∀t,t∈out↔(∃k,k<i∧(gt l (k:Int)).Thing=t)∧hm l house t=true)
  (λi out hi ⟨ho,hq⟩=>by
   obtain⟨j,hj,hj2⟩:=hat i hi;simp only[Bo,Qy hi,c1,Qs hi,Qc,Qn,Qa,QM (show(i:Int)<9223372036854775807 by omega)]
   rw[show ln l=((l.length:Nat):Int)from rfl,aU l _ l.length (Qg _) (by omega)]
   simp only[Qa];cases hb:hm l house (gt l (i:Int)).Thing with
   |true =>
    obtain⟨out',p1,p2,p3⟩:=Qhu out (gt l (i:Int)).Thing (by omega)
    have hb':=hb;unfold hm at hb';rw[hj2]at hb' ⊢;rw[Qs hj,hb'];simp only[Qn,Qa,Qc,p1];refine⟨out',rfl,by omega,λt=>?_⟩
    rw[p3 t,hq t];constructor
    ·rintro(⟨⟨k,k1,k2⟩,h⟩|rfl)
     ·exact⟨⟨k,by omega,k2⟩,h⟩
     ·exact⟨⟨i,by omega,rfl⟩,hb⟩
    ·rintro⟨⟨k,k1,k2⟩,h⟩
     by_cases hki:k=i
     ·subst hki;exact .inr k2.symm
     ·exact .inl ⟨⟨k,by omega,k2⟩,h⟩
   |false =>
    have hb':=hb;unfold hm at hb';rw[hj2]at hb' ⊢;rw[Qs hj,hb'];simp only[Qn,Qa,Qb];refine⟨out,rfl,by omega,λt=>?_⟩
    rw[hq t];constructor
    ·rintro⟨⟨k,k1,k2⟩,h⟩
     exact⟨⟨k,by omega,k2⟩,h⟩
    ·rintro⟨⟨k,k1,k2⟩,h⟩
     by_cases hki:k=i
     ·subst hki;rw[k2,h]at hb;cases hb
     ·exact⟨⟨k,by omega,k2⟩,h⟩)
  (λout _=>by simp only[Bo,QP (Qg _),Qb,Qa]) [] ⟨by simp,λt=>by simp⟩
 obtain⟨r2,b1,b2,b3⟩:=Mq (n:=l.length) (step:=Bu l house l (ln l)) (fin:=λr=>r)
  (λi (out:List Int)=>out.length≤i∧∀t,t∈out↔∃k:Nat,k<i∧(gt l (k:Int)).Thing=t∧XU l t l.length=(k:Int)∧hm l house t=true)
  (λi out hi ⟨ho,hq⟩=>by
   simp only[Bu,Qy hi,Qs hi,Qc,Qn,Y0 l _ (show l.length≤1048576 by omega),Qa,QM (show(i:Int)<9223372036854775807 by omega)]
   have hbv:(bif decide ((gt l (i:Int)).Holder=2)then(bif decide ((gt l (i:Int)).Who=house)then some (decide (XU l (gt l (i:Int)).Thing l.length=(i:Int)))else some false)else some false)=some (decide (XU l (gt l (i:Int)).Thing l.length=(i:Int))&&hm l house (gt l (i:Int)).Thing):=by
    by_cases he:XU l (gt l (i:Int)).Thing l.length=(i:Int)
    ·unfold hm
     rw[he];cases decide ((gt l (i:Int)).Holder=2)<;>cases decide ((gt l (i:Int)).Who=house)<;>simp
    ·rw[Qe he]
     cases decide ((gt l (i:Int)).Holder=2)<;>cases decide ((gt l (i:Int)).Who=house)<;>rfl
   rw[hbv];simp only[Qa];cases hb:(decide (XU l (gt l (i:Int)).Thing l.length=(i:Int))&&hm l house (gt l (i:Int)).Thing)with
   |true =>
    simp only[Bool.and_eq_true,decide_eq_true_eq]at hb;rw[Vp (show out.length+1≤2000000 by omega) (by omega)]
    refine⟨out++[(gt l (i:Int)).Thing],rfl,by simp;omega,λt=>?_⟩
    simp only[List.mem_append,List.mem_singleton];rw[hq t];constructor
    ·rintro(⟨k,k1,k2⟩|rfl)
     ·exact⟨k,by omega,k2⟩
     ·exact⟨i,by omega,rfl,hb⟩
    ·rintro⟨k,k1,k2,k3⟩
     by_cases hki:k=i
     ·subst hki;exact .inr k2.symm
     ·exact .inl ⟨k,by omega,k2,k3⟩
   |false =>
    refine⟨out,rfl,by omega,λt=>?_⟩
    rw[hq t];constructor
    ·rintro⟨k,k1,k2⟩
     exact⟨k,by omega,k2⟩
    ·rintro⟨k,k1,k2,k3,k4⟩
     by_cases hki:k=i
     ·subst hki
      rw[k2,Qf k3,k4]at hb;cases hb
     ·exact⟨k,by omega,k2,k3,k4⟩)
  (λout _=>by simp only[Bu,QP (Qg _),Qb]) [] ⟨by simp,λt=>by simp⟩
 have hperm:(Z2 r2).Perm r2:=List.mergeSort_perm _ _;refine⟨r1,Z2 r2,?_,?_,λt=>?_,by omega,by rw[hperm.length_eq];omega⟩
 ·unfold EL
  rw[a1];rfl
 ·unfold C8
  rw[c2];simp only[Qa,Qh,Qb];rw[b1];simp only[Qa];rw[Qf (by omega)];rfl
 ·rw[hperm.mem_iff,a3 t,b3 t]
  constructor
  ·rintro⟨⟨k,k1,k2⟩,h⟩
   obtain⟨j,j1,j2⟩:=Mn l t l.length k k1 k2;exact⟨j,j1,(I0 l t l.length j j2).2,j2,h⟩
  ·rintro⟨k,k1,k2,k3,k4⟩
   exact⟨⟨k,k1,k2⟩,k4⟩
theorem QcQ(l:List Int)(v:Int)(hl:l.length≤1048576):C0 l v=some (decide (v∈l)):=by
 have hr:=Km l (λx=>decide (x=v)) (r:=true) (step:=DD l v)
  (λi hi=>by
   simp only[DD,Qy hi,Qs hi,QC hi,QM (show(i:Int)<9223372036854775807 by omega),Qc,Qn]
   cases decide (l[i]=v)<;>rfl)
  (by simp only[DD,QP (Qg _),Qb])
 unfold C0;rw[hr];by_cases h:v∈l
 ·rw[Qf h,List.any_eq_true.2 ⟨v,h,by simp⟩];rfl
 ·rw[Qe h,List.any_eq_false.2 (λx hx=>by simp;rintro rfl;exact h hx)];rfl
theorem Qbi(l:List Int)(v:Int)(hl:l.length≤1048576):XQ l v=some (decide (v∈l)):=by
 have hi:=X3 l (λx=>decide (v=x)) (λi=>(i:Int)) (step:=JX l v (ln l))
  (λi hi=>by
   simp only[JX,Qy hi,Qs hi,QC hi,QM (show(i:Int)<9223372036854775807 by omega),Qc,Qn]
   cases decide (v=l[i])<;>rfl)
  (by simp only[JX,QP (Qg _),Qb])
 unfold XQ Et;rw[hi];cases hf:l.findIdx? (λx=>decide (v=x))with
 |none =>
  have:¬v∈l:=λh=>by
   have:=List.findIdx?_eq_none_iff.1 hf v h;simp at this
  rw[Qe this];rfl
 |some i =>
  obtain⟨hi',hp⟩:=B6 hf;have:v∈l:=by
   have e:v=l[i]:=by simpa using hp
   rw[e];exact List.getElem_mem hi'
  rw[Qf this];show some (decide (0≤(i:Int)))=_;rw[Qf (by omega)]
theorem jH(l:List Slot)(t:Int)(hl:l.length≤1048576)(hid:∀x∈l,1≤x.Id):∃c,J2 l t=some c∧decide (c=0)=!(!decide (t=0)&&l.any (λx=>decide (x.Thing=t))):=by
 have hr:=X3 l (λx=>!decide (t=0)&&decide (x.Thing=t)) (λi=>(gt l (i:Int)).Id) (step:=JL l t)
  (λi hi=>by
   simp only[JL,Qy hi,Qs hi,QC hi,QM (show(i:Int)<9223372036854775807 by omega),Qc,Qn]
   cases decide (t=0)<;>cases decide (l[i].Thing=t)<;>rfl)
  (by simp only[JL,QP (Qg _),Qb])
 unfold J2;rw[hr];cases hf:l.findIdx? (λx=>!decide (t=0)&&decide (x.Thing=t))with
 |none =>
  refine⟨0,rfl,?_⟩;have:=List.findIdx?_eq_none_iff.1 hf;cases ht:decide (t=0)with
  |true=>rfl
  |false =>
   rw[ht]at this;have:l.any (λx=>decide (x.Thing=t))=false:=by
    rw[List.any_eq_false];intro x hx;have:=this x hx;simpa using this
   rw[this];rfl
 |some i =>
  obtain⟨hi',hp⟩:=B6 hf;refine⟨(gt l (i:Int)).Id,rfl,?_⟩;simp only[Bool.and_eq_true]at hp;rw[QC hi',Qe (by have:=hid l[i] (List.getElem_mem hi');omega),hp.1,List.any_eq_true.2 ⟨l[i],List.getElem_mem hi',hp.2⟩]
  rfl
theorem Ub(x:Trial):∃b,C2 x=some b∧Er x=some b:=by
 have e:Er x=C2 x:=rfl;rw[e];unfold C2 Qq;simp only[Qa];cases (decide (1≤x.Claim)&&decide (x.Claim≤999))<;>cases (decide (0≤x.Right)&&decide (x.Right≤100))<;>exact⟨_,rfl,rfl⟩
theorem TJ(l:List Secret)(t:Int)(hl:l.length≤1048576)(hm:∀x∈l,x.Marks.length≤1048576):∃m,BE l t=some m∧BN l t=some m∧m.length≤1048576:=by
 have hs:=X3 l (λx=>decide (x.Thing=t)) (λi=>(i:Int)) (step:=Bz l t)
  (λi hi=>by
   simp only[Bz,Qy hi,Qs hi,QC hi,QM (show(i:Int)<9223372036854775807 by omega),Qc,Qn]
   cases decide (l[i].Thing=t)<;>rfl)
  (by simp only[Bz,QP (Qg _),Qb])
 have hi:=X3 l (λx=>decide (x.Thing=t)) (λi=>(i:Int)) (step:=QD l t (ln l))
  (λi hi=>by
   simp only[QD,Dv,Qa,Qy hi,Qs hi,QC hi,QM (show(i:Int)<9223372036854775807 by omega),Qc,Qn]
   cases decide (l[i].Thing=t)<;>rfl)
  (by simp only[QD,QP (Qg _),Qb])
 unfold BE BN G2 AG Vi;rw[hs,hi];cases hf:l.findIdx? (λx=>decide (x.Thing=t))with
 |none=>exact⟨[],rfl,rfl,by simp⟩
 |some i =>
  obtain⟨hi',_⟩:=B6 hf;have hmi:=hm l[i] (List.getElem_mem hi');refine⟨l[i].Marks,?_,?_,hmi⟩
  ·simp only[Qa,c8,show decide ((i:Int)<0)=false from Qe (by omega),Qb,Qs hi',QC hi',Qn,Vp (show 0+l[i].Marks.length≤2000000 by omega) (show 16≤1024 by omega)]
  ·simp only[Qa,c8,show decide ((i:Int)<0)=false from Qe (by omega),Qb,Qs hi',QC hi',Qn,XX,Vp (show 0+l[i].Marks.length≤2000000 by omega) (show 16≤1024 by omega)]
theorem Ko(l:List Mark)(x:Trial)(hl:l.length≤1048576):∃c,Z4 l x=some c∧Ad l x=some c:=by
 obtain⟨b,b1,b2⟩:=Ub x;obtain⟨m,m1,m2⟩:=Ow l (by omega)
 have VI:FJ l=Eo l:=by
  unfold FJ Eo Iw;by_cases h:ln l<3
  ·rw[Qf h,if_pos h];rfl
  ·rw[Qe h,if_neg h];rfl
 unfold Z4 Ad;rw[b1,b2,m1,m2,VI];unfold Eo;cases b<;>cases m<;>cases decide (1<x.Wrong)<;>cases decide (0<ln l)<;>simp only[Qa,Qh,Qi,Qc,Qb,Bool.or_true,Bool.or_false,Bool.true_or,Bool.false_or] <;>
  first|exact⟨_,rfl,rfl⟩|(cases decide ((if ln l<3 then ln l else 3)≤x.Right)<;>exact⟨_,rfl,rfl⟩)
theorem I7{α:Type}(l:List α)(hour:α→Int)(now:Int){step:Int×Int→Option ((Int×Int)⊕Int)}
  (h1:∀(i:Nat) (v:Int) (h:i<l.length),step (v,(i:Int))=some (.inl ((if v<hour l[i]then hour l[i]else v),((i+1:Nat):Int)))) (h2:∀v,step (v,(l.length:Int))=some (.inr v)) (v0:Int) :
  ∃v,run step (v0,0)=some v∧(v≤now↔v0≤now∧∀x∈l,hour x≤now):=by
 obtain⟨v,q1,q2⟩:=Mq (n:=l.length) (step:=step) (fin:=λv=>v) (λi v=>v≤now↔v0≤now∧∀x∈l.take i,hour x≤now)
  (λi v hi hq=>by
   refine⟨_,h1 i v hi,?_⟩;rw[List.take_succ_eq_append_getElem hi];have:(∀x∈l.take i++[l[i]],hour x≤now)↔(∀x∈l.take i,hour x≤now)∧hour l[i]≤now:=by
    simp only[List.mem_append,List.mem_singleton];constructor
    ·intro h;exact⟨λx hx=>h x (.inl hx),h _ (.inr rfl)⟩
    ·rintro⟨h,h'⟩ x (hx|rfl)
     ·exact h x hx
     ·exact h'
   rw[this];constructor
   ·intro hv
    have h3:v≤now∧hour l[i]≤now:=by split at hv<;>omega
    exact⟨(hq.1 h3.1).1,(hq.1 h3.1).2,h3.2⟩
   ·rintro⟨a,b,c⟩
    have:=hq.2 ⟨a,b⟩
    split<;>omega) (λv _=>h2 v) v0 (by simp)
 exact⟨v,q1,by rw[List.take_length]at q2;exact q2⟩
theorem rQ(h:House)(now:Int)(m1:h.Finds.length≤1048576)(m2:h.Claims.length≤1048576)(m3:h.Chain.length≤1048576)(m4:h.Book.length≤1048576) :
  ∃v,GD h=some v∧(v≤now↔-1≤now∧(∀x∈h.Finds,x.At≤now)∧(∀x∈h.Claims,x.At≤now)∧(∀x∈h.Chain,x.At≤now)∧∀x∈h.Book,x.At≤now):=by
 obtain⟨v1,a1,a2⟩:=I7 h.Finds (·.At) now (step:=B9 h h.Finds (ln h.Finds)) (λi v hi=>by simp only[B9,Qy hi,Qs hi,QC hi,QM (show(i:Int)<9223372036854775807 by omega),Qc,Qn])
  (λv=>by simp only[B9,QP (Qg _),Qb]) (-1)
 obtain⟨v2,b1,b2⟩:=I7 h.Claims (·.At) now (step:=Cw h h.Claims (ln h.Claims)) (λi v hi=>by simp only[Cw,Qy hi,Qs hi,QC hi,QM (show(i:Int)<9223372036854775807 by omega),Qc,Qn])
  (λv=>by simp only[Cw,QP (Qg _),Qb]) v1
 obtain⟨v3,c1,c2⟩:=I7 h.Chain (·.At) now (step:=BC h h.Chain (ln h.Chain)) (λi v hi=>by simp only[BC,Qy hi,Qs hi,QC hi,QM (show(i:Int)<9223372036854775807 by omega),Qc,Qn])
  (λv=>by simp only[BC,QP (Qg _),Qb]) v2
 obtain⟨v4,d1,d2⟩:=I7 h.Book (·.At) now (step:=BB h.Book (ln h.Book)) (λi v hi=>by simp only[BB,Qy hi,Qs hi,QC hi,QM (show(i:Int)<9223372036854775807 by omega),Qc,Qn])
  (λv=>by simp only[BB,QP (Qg _),Qb]) v3
 refine⟨v4,?_,?_⟩
 ·unfold GD
  rw[a1];simp only[Qa];rw[b1];simp only[Qa];rw[c1];simp only[Qa];rw[d1];rfl
 ·rw[d2,c2,b2,a2]
  simp only[and_assoc]
section
variable{ρ:Type}
def qa(q:Nat→Bool):Nat→Nat→Bool
 |_,0=>true
 |i,m+1=>q i&&qa q (i+1) m
theorem gS{α:Type}[Inhabited α](l:List α)(f:α→Bool):∀(m i:Nat),i+m=l.length→qa (λi=>f (gt l (i:Int))) i m=(l.drop i).all f
 |0,i,h=>by
  have:i=l.length:=by omega
  subst this;rw[List.drop_length];rfl
 |m+1,i,h=>by
  have hlt:i<l.length:=by omega
  rw[qa,gS l f m (i+1) (by omega),List.drop_eq_getElem_cons hlt,List.all_cons,QC hlt]
theorem cK{n:Nat}{r:ρ}{s1 s2:Int→Option (Int⊕(Fl ρ Unit))}(q:Nat→Bool)
  (h:∀i,i<n→∃b,s1 (i:Int)=some (bif b then .inl ((i+1:Nat):Int)else .inr (.ret r))∧s2 (i:Int)=some (bif b&&q i then .inl ((i+1:Nat):Int)else .inr (.ret r)))
  (e1:s1 (n:Int)=some (.inr (.brk ()))) (e2:s2 (n:Int)=some (.inr (.brk ()))) :
  ∃b,run s1 0=some (bif b then .brk ()else .ret r)∧run s2 0=some (bif b&&qa q 0 n then .brk ()else .ret r):=by
 have key:∀(m i:Nat),i+m=n→∃b,run s1 (i:Int)=some (bif b then .brk ()else .ret r)∧run s2 (i:Int)=some (bif b&&qa q i m then .brk ()else .ret r):=by
  intro m
  induction m with
  |zero =>
   intro i hi;have:i=n:=by omega
   subst this;exact⟨true,by rw[QS,e1];rfl,by rw[QS,e2];rfl⟩
  |succ m ih =>
   intro i hi;obtain⟨b,h1,h2⟩:=h i (by omega)
   cases b with
   |false=>exact⟨false,by rw[QS,h1];rfl,by rw[QS,h2];rfl⟩
   |true =>
    obtain⟨b',q1,q2⟩:=ih (i+1) (by omega)
    refine⟨b',by rw[QS,h1];exact q1,?_⟩
    rw[QS,h2,qa];cases q i with
    |false=>cases b'<;>rfl
    |true=>exact q2
 exact key n 0 (by omega)
end
theorem xp{α:Type}{a b:List α}(p:α→Bool)(h:∀t,t∈a↔t∈b):a.all p=b.all p:=by
 rw[Bool.eq_iff_iff,List.all_eq_true,List.all_eq_true];exact⟨λh1 x hx=>h1 x ((h x).2 hx),λh1 x hx=>h1 x ((h x).1 hx)⟩
theorem Mh{α:Type}(l:List α)(hour:α→Int)(now:Int):l.all (λx=>!decide (now<hour x))=true↔∀x∈l,hour x≤now:=by
 rw[List.all_eq_true];constructor
 ·intro h x hx
  have:=h x hx;simp at this;exact this
 ·intro h x hx
  have:=h x hx;simp;exact this
theorem tw{α:Type}(l:List α)(hour:α→Int)(h:∀k (hk:k<l.length) (h0:0<k),hour (l[k-1]'(by omega))≤hour l[k])(now:Int)(hn:0<l.length) :
  (∀x∈l,hour x≤now)↔hour (l[l.length-1]'(by omega))≤now:=by
 have key:∀(d i:Nat) (hj:i+d<l.length),hour (l[i]'(by omega))≤hour l[i+d]:=by
  intro d
  induction d with
  |zero=>intro i hj;exact Int.le_refl _
  |succ d ih =>
   intro i hj;have h1:=ih i (by omega)
   have h2:=h (i+(d+1)) hj (by omega)
   have e:(l[i+(d+1)-1]'(by omega))=l[i+d]:=by congr 1
   rw[e]at h2;omega
 constructor
 ·intro hx;exact hx _ (List.getElem_mem _)
 ·intro hl x hx
  obtain⟨i,hi,rfl⟩:=List.getElem_of_mem hx;have:=key (l.length-1-i) i (by omega)
  have e:(l[i+(l.length-1-i)]'(by omega))=(l[l.length-1]'(by omega)):=by congr 1;omega
  rw[e]at this;omega
theorem kept(h:House)(m1:h.Finds.length≤1048576)(m3:h.Slots.length≤1048576)(m6:h.Chain.length≤100)(hf:∀i (hi:i<h.Finds.length),1≤h.Finds[i].Thing.Id)(hs:∀x∈h.Slots,1≤x.Id)
  (c1:Xm h.Chain=some true) (c2:Xu h.Chain=some true) :
  ∃k,Ao h=some k∧Cp h=some (k&&h.Finds.all (λx=>!decide (h.Now<x.At))):=by
 by_cases hlen:h.Secrets.length=h.Finds.length
 ·have hd:(!decide (ln h.Secrets=ln h.Finds))=false:=by rw[Q5,Q5,hlen];simp
  obtain⟨r1,r2,i1,i2,hmem,l1,l2⟩:=mi h.Chain h.No m6 c1 c2;unfold Ao Cp;rw[hd,i1,i2];simp only[Qb,Qa];obtain⟨b,a1,a2⟩:=cK (n:=h.Finds.length) (r:=false) (s1:=J6 h r2 h.Finds (ln h.Finds)) (s2:=Zj h r1) (λi=>!decide (h.Now<(gt h.Finds (i:Int)).At)) (λi hi=>by
    have hi2:i<h.Secrets.length:=by omega
    obtain⟨c,q1,q2⟩:=jH h.Slots h.Finds[i].Thing.Id m3 hs;have hid:=hf i hi;have hne:decide (h.Finds[i].Thing.Id=0)=false:=Qe (by omega)
    have hsame:decide (h.Finds[i].Thing.Id∈r1)=decide (h.Finds[i].Thing.Id∈r2):=by rw[decide_eq_decide];exact hmem _
    have hix:decide (0≤CB h.Slots h.Finds[i].Thing.Id)=h.Slots.any (λx=>decide (x.Thing=h.Finds[i].Thing.Id)):=by
     rcases Gh h.Slots h.Finds[i].Thing.Id with⟨p1,p2⟩|⟨k,_,p1,_,p3⟩
     ·rw[p1,p2];rfl
     ·rw[p1,p3];exact Qf (by omega)
    rw[hne]at q2;simp only[J6,Zj,Qy hi,Qs hi,QC hi,Qs hi2,QC hi2,QM (show(i:Int)<9223372036854775807 by omega),Qc,Qn,q1,q2,IR h.Slots _ m3,hne,Qb,QcQ r1 _ (by omega),Qbi r2 _ (by omega),hsame,hix,Qa,Qi,Bool.true_and,Bool.not_not]
    cases decide (h.Secrets[i].Thing=h.Finds[i].Thing.Id)<;>cases decide (h.Slots.any (λx=>decide (x.Thing=h.Finds[i].Thing.Id))=decide (h.Finds[i].Thing.Id∈r2))<;>cases decide (h.Now<h.Finds[i].At)<;>first|exact⟨true,rfl,rfl⟩|exact⟨false,rfl,rfl⟩)
   (by simp only[J6,QP (Qg _),Qb]) (by simp only[Zj,QP (Qg _),Qb])
  have hqa:qa (λi=>!decide (h.Now<(gt h.Finds (i:Int)).At)) 0 h.Finds.length=h.Finds.all (λx=>!decide (h.Now<x.At)):=by
   have:=gS h.Finds (λx=>!decide (h.Now<x.At)) h.Finds.length 0 (by omega)
   rw[this];rfl
  rw[hqa]at a2;have s3:=Gp h.Slots (λx=>decide (x.Thing=0)||!decide (Xh h.Finds x.Thing<0)) (r:=false) (step:=Zf h)
   (λi hi=>by
    simp only[Zf,Qy hi,Qs hi,QC hi,QM (show(i:Int)<9223372036854775807 by omega),Qc,Qn,(Xw h.Finds _ m1).1,Qa]
    cases decide (h.Slots[i].Thing=0)<;>cases decide (Xh h.Finds h.Slots[i].Thing<0)<;>rfl)
   (by simp only[Zf,QP (Qg _),Qb])
  have t3:=Gp h.Slots (λx=>decide (x.Thing=0)||!decide (Xh h.Finds x.Thing<0)) (r:=false) (step:=XL h r2 h.Slots (ln h.Slots))
   (λi hi=>by
    simp only[XL,Qy hi,Qs hi,QC hi,QM (show(i:Int)<9223372036854775807 by omega),Qc,Qn,(Xw h.Finds _ m1).2,Qa]
    cases decide (h.Slots[i].Thing=0)<;>cases decide (Xh h.Finds h.Slots[i].Thing<0)<;>rfl)
   (by simp only[XL,QP (Qg _),Qb])
  have s4:=Gp r1 (λt=>!decide (Xh h.Finds t<0)) (r:=false) (step:=ZT h r1)
   (λi hi=>by
    simp only[ZT,Qy hi,Qs hi,QC hi,QM (show(i:Int)<9223372036854775807 by omega),Qc,Qn,(Xw h.Finds _ m1).1,Qa]
    cases decide (Xh h.Finds r1[i]<0)<;>rfl)
   (by simp only[ZT,QP (Qg _),Qb])
  have t4:=Gp r2 (λt=>!decide (Xh h.Finds t<0)) (r:=false) (step:=AT h r2 (ln r2))
   (λi hi=>by
    simp only[AT,Qy hi,Qs hi,QC hi,QM (show(i:Int)<9223372036854775807 by omega),Qc,Qn,(Xw h.Finds _ m1).2,Qa]
    cases decide (Xh h.Finds r2[i]<0)<;>rfl)
   (by simp only[AT,QP (Qg _),Qb])
  rw[xp _ hmem]at s4;rw[a1,a2,s3,t3,s4,t4];generalize h.Finds.all (λx=>!decide (h.Now<x.At))=fa
  generalize h.Slots.all (λx=>decide (x.Thing=0)||!decide (Xh h.Finds x.Thing<0))=sa
  generalize r2.all (λt=>!decide (Xh h.Finds t<0))=ra
  cases b<;>cases fa<;>cases sa<;>cases ra<;>first|exact⟨true,rfl,rfl⟩|exact⟨false,rfl,rfl⟩
 ·have hd:(!decide (ln h.Secrets=ln h.Finds))=true:=by rw[Q5,Q5];simp;omega
  unfold Ao Cp;rw[hd];exact⟨false,rfl,rfl⟩
theorem wanted(s:Int)(h0:0≤s)(h1:s≤3):inb [0,1,2,1] s=true∧FB s=some (gt ([0,1,2,1]:List Int) s):=by
 have:s=0∨s=1∨s=2∨s=3:=by omega
 rcases this with rfl|rfl|rfl|rfl<;>exact⟨rfl,rfl⟩
theorem trials(h:House)(m1:h.Finds.length≤1048576)(m2:h.Secrets.length≤1048576)(mm:∀x∈h.Secrets,x.Marks.length≤1048576)(m4:h.Claims.length≤1048576)(hst:∀i (hi:i<h.Claims.length),0≤h.Claims[i].State∧h.Claims[i].State≤3) :
  ∃k,XF h=some k∧Ch h=some (k&&h.Claims.all (λx=>!decide (h.Now<x.At))):=by
 by_cases hlen:h.Trials.length=h.Claims.length
 ·have hd:(!decide (ln h.Trials=ln h.Claims))=false:=by rw[Q5,Q5,hlen];simp
  unfold XF Ch;rw[hd];simp only[Qb];obtain⟨b,a1,a2⟩:=cK (n:=h.Claims.length) (r:=false) (s1:=Vw h h.Claims (ln h.Claims)) (s2:=ZM h) (λi=>!decide (h.Now<(gt h.Claims (i:Int)).At)) (λi hi=>by
    have hi2:i<h.Trials.length:=by omega
    obtain⟨w1,w2⟩:=wanted h.Claims[i].State (hst i hi).1 (hst i hi).2;obtain⟨t,t1,t2⟩:=Ub h.Trials[i];obtain⟨m,k1,k2,k3⟩:=TJ h.Secrets h.Claims[i].Thing m2 mm;obtain⟨c,s1,s2⟩:=Ko m h.Trials[i] k3;simp only[Vw,ZM,Qy hi,Qs hi,QC hi,Qs hi2,QC hi2,QM (show(i:Int)<9223372036854775807 by omega),Qc,Qn,w1,w2,t1,t2,k1,k2,s1,s2,(Xw h.Finds _ m1).1,(Xw h.Finds _ m1).2,Qa]
    cases decide (Xh h.Finds h.Claims[i].Thing<0)<;>cases decide (h.Trials[i].Claim=h.Claims[i].Id)<;>cases t<;>cases decide (c=gt [0,1,2,1] h.Claims[i].State)<;>cases decide (h.Now<h.Claims[i].At)<;>first|exact⟨true,rfl,rfl⟩|exact⟨false,rfl,rfl⟩)
   (by simp only[Vw,QP (Qg _),Qb]) (by simp only[ZM,QP (Qg _),Qb])
  have hqa:qa (λi=>!decide (h.Now<(gt h.Claims (i:Int)).At)) 0 h.Claims.length=h.Claims.all (λx=>!decide (h.Now<x.At)):=by
   have:=gS h.Claims (λx=>!decide (h.Now<x.At)) h.Claims.length 0 (by omega)
   rw[this];rfl
  rw[hqa]at a2;rw[a1,a2];generalize h.Claims.all (λx=>!decide (h.Now<x.At))=fa
  cases b<;>cases fa<;>first|exact⟨true,rfl,rfl⟩|exact⟨false,rfl,rfl⟩
 ·have hd:(!decide (ln h.Trials=ln h.Claims))=true:=by rw[Q5,Q5];simp;omega
  unfold XF Ch;rw[hd];exact⟨false,rfl,rfl⟩
theorem YS{α:Type}[Inhabited α](l:List α)(hour:α→Int)(hl:l.length≤1048576)(h:∀k (hk:k<l.length) (h0:0<k),hour (l[k-1]'(by omega))≤hour l[k])(now:Int){β:Type}(rest:Option Bool) :
  (bif decide (0<ln l)then nd (inb l (w64 (ln l-1)))<|(bif decide (now<hour (gt l (w64 (ln l-1))))then some true else rest)else rest)=(bif l.all (λx=>!decide (now<hour x))then rest else some true):=by
 by_cases hn:0<l.length
 ·have hlast:l.length-1<l.length:=by omega
  have e:w64 (ln l-1)=((l.length-1:Nat):Int):=by rw[Q5,VA]<;>omega
  rw[Qf (show 0<ln l by rw[Q5];omega),e,Qs hlast,QC hlast]
  simp only[Qc,Qn];have hiff:=tw l hour h now hn;by_cases hlt:now<hour l[l.length-1]
  ·have:l.all (λx=>!decide (now<hour x))=false:=by
    rw[Bool.eq_false_iff];intro ha;have:=(Mh l hour now).1 ha _ (List.getElem_mem hlast);omega
   rw[Qf hlt,this];rfl
  ·have:l.all (λx=>!decide (now<hour x))=true:=(Mh l hour now).2 (hiff.2 (by omega))
   rw[Qe hlt,this];rfl
 ·have:l=[]:=by
   cases l with
   |nil=>rfl
   |cons x l=>simp at hn
  subst this;rfl
theorem TU(h:House)(hm:Qu h):∃c,Vq h=some c∧VH h=some c:=by
 unfold Qu at hm;obtain⟨m1,m2,m3,m4,m5,m6,m7⟩:=hm;have mm:∀x∈h.Secrets,x.Marks.length≤1048576:=λx hx=>m2.2 x hx
 have m2':h.Secrets.length≤1048576:=m2.1;obtain⟨f,f1,f2,f3⟩:=PD h.Finds m1;obtain⟨s,s1,s2⟩:=NO h.Secrets m2' mm;obtain⟨t,t1,t2,t3⟩:=OW h.Slots m3;obtain⟨c,c1,c2,c3⟩:=G5 h.Claims m4;obtain⟨n,n1,n2,n3⟩:=TQ h.Chain;obtain⟨e,e1,e2,e3⟩:=N4 h.Book m7;unfold Vq VH;simp only[Qq,Qo,f1,f2,s1,s2,t1,t2,c1,c2,n1,n2,e1,e2,Qa];cases (decide (1≤h.No)&&decide (h.No≤9))with
 |false=>exact⟨false,rfl,rfl⟩
 |true =>
 cases f with
 |false=>exact⟨false,rfl,rfl⟩
 |true =>
 cases s with
 |false=>exact⟨false,rfl,rfl⟩
 |true =>
 cases t with
 |false=>exact⟨false,rfl,rfl⟩
 |true =>
 cases c with
 |false=>exact⟨false,rfl,rfl⟩
 |true =>
 cases n with
 |false=>exact⟨false,rfl,rfl⟩
 |true =>
 cases e with
 |false=>exact⟨false,rfl,rfl⟩
 |true =>
  obtain⟨k,k1,k2⟩:=kept h m1 m3 (n3 rfl).1 (f3 rfl).2 (t3 rfl).2 n1 n2;obtain⟨r,r1,r2⟩:=trials h m1 m2' mm m4 (c3 rfl).2;obtain⟨v,v1,v2⟩:=rQ h h.Now m1 m4 m6 m7;have hch:=YS h.Chain (·.At) m6 (λi hi h0=>((n3 rfl).2 i hi).2.2 h0) h.Now (β:=Unit)
  have hbk:=YS h.Book (·.At) m7 (λi hi h0=>(e3 rfl).2 i hi h0) h.Now (β:=Unit) (some false)
  have hb0:(bif decide (0<ln h.Book)then nd (inb h.Book (w64 (ln h.Book-1)))<|some (decide (h.Now<(gt h.Book (w64 (ln h.Book-1))).At))else some false)=(bif h.Book.all (λx=>!decide (h.Now<x.At))then some false else some true):=by
   rw[←hbk];cases decide (0<ln h.Book)with
   |false=>rfl
   |true =>
    cases inb h.Book (w64 (ln h.Book-1))with
    |false=>rfl
    |true=>cases decide (h.Now<(gt h.Book (w64 (ln h.Book-1))).At)<;>rfl
  simp only[k1,k2,r1,r2,v1,hb0,hch,Qa,Qh,Qb,Qc];have hv:decide (v≤h.Now)=(decide (-1≤h.Now)&&(h.Finds.all (λx=>!decide (h.Now<x.At))&&(h.Claims.all (λx=>!decide (h.Now<x.At))&&(h.Chain.all (λx=>!decide (h.Now<x.At))&&h.Book.all (λx=>!decide (h.Now<x.At)))))):=by
   rw[Bool.eq_iff_iff];simp only[Bool.and_eq_true,Mh h.Finds (·.At),Mh h.Claims (·.At),Mh h.Chain (·.At),Mh h.Book (·.At),decide_eq_true_eq]
   exact v2
  rw[hv];generalize h.Finds.all (λx=>!decide (h.Now<x.At))=a1
  generalize h.Claims.all (λx=>!decide (h.Now<x.At))=a2
  generalize h.Chain.all (λx=>!decide (h.Now<x.At))=a3
  generalize h.Book.all (λx=>!decide (h.Now<x.At))=a4
  cases hnow:(decide (0≤h.Now)&&decide (h.Now≤100000))with
  |false=>refine⟨false,rfl,?_⟩;cases k<;>cases r<;>cases decide (-1≤h.Now)<;>cases a1<;>cases a2<;>cases a3<;>cases a4<;>rfl
  |true =>
   have h1:decide (-1≤h.Now)=true:=by
    simp only[Bool.and_eq_true,decide_eq_true_eq]at hnow;exact Qf (by omega)
   rw[h1];cases k<;>cases r<;>cases a1<;>cases a2<;>cases a3<;>cases a4<;>first|exact⟨true,rfl,rfl⟩|exact⟨false,rfl,rfl⟩
structure HouseOk (h:House):Prop where
 no:1≤h.No∧h.No≤9
 now:0≤h.Now∧h.Now≤100000
 fS:X7 h.Finds=some true
 fI:AB h.Finds=some true
 sS:Z3 h.Secrets=some true
 sI:Z6 h.Secrets=some true
 tS:JC h.Slots=some true
 tI:AD h.Slots=some true
 cS:Vu h.Claims=some true
 cI:X2 h.Claims=some true
 nS:Xm h.Chain=some true
 nI:Xu h.Chain=some true
 eS:Jh h.Book=some true
 eI:Je h.Book=some true
 kept:Ao h=some true
 trials:XF h=some true
 lateF:∀x∈h.Finds,x.At≤h.Now
 lateC:∀x∈h.Claims,x.At≤h.Now
 lateN:∀x∈h.Chain,x.At≤h.Now
 lateE:∀x∈h.Book,x.At≤h.Now
theorem bT(h:House)(hm:Qu h)(ht:VH h=some true):HouseOk h:=by
 obtain⟨m1,m2,m3,m4,m5,m6,m7⟩:=hm;obtain⟨f,f1,f2,f3⟩:=PD h.Finds m1;obtain⟨s,s1,s2⟩:=NO h.Secrets m2.1 (λx hx=>m2.2 x hx)
 obtain⟨t,t1,t2,t3⟩:=OW h.Slots m3;obtain⟨c,c1,c2,c3⟩:=G5 h.Claims m4;obtain⟨n,n1,n2,n3⟩:=TQ h.Chain;obtain⟨e,e1,e2,e3⟩:=N4 h.Book m7;unfold VH at ht;simp only[Qo,f2,s2,t2,c2,n2,e2,Qa]at ht;cases hN:(decide (1≤h.No)&&decide (h.No≤9))with
 |false=>rw[hN]at ht;cases ht
 |true =>
 rw[hN]at ht;cases f with
 |false=>cases ht
 |true =>
 cases s with
 |false=>cases ht
 |true =>
 cases t with
 |false=>cases ht
 |true =>
 cases c with
 |false=>cases ht
 |true =>
 cases n with
 |false=>cases ht
 |true =>
 cases e with
 |false=>cases ht
 |true =>
 obtain⟨k,k1,k2⟩:=kept h m1 m3 (n3 rfl).1 (f3 rfl).2 (t3 rfl).2 n1 n2;obtain⟨r,r1,r2⟩:=trials h m1 m2.1 (λx hx=>m2.2 x hx) m4 (c3 rfl).2
 obtain⟨v,v1,v2⟩:=rQ h h.Now m1 m4 m6 m7;simp only[k1,r1,v1,Qc,Qa]at ht;cases k with
 |false=>cases ht
 |true =>
 cases r with
 |false=>cases ht
 |true =>
 simp only[Qc,Qa]at ht;cases hv:decide (v≤h.Now)with
 |false=>rw[hv]at ht;cases ht
 |true =>
 rw[hv]at ht;have hv':v≤h.Now:=of_decide_eq_true hv;obtain⟨g0,g1,g2,g3,g4⟩:=v2.1 hv';simp only[Qc,Qa,Option.some.injEq,Bool.and_eq_true,decide_eq_true_eq]at ht hN;exact⟨hN,ht,f1,f2,s1,s2,t1,t2,c1,c2,n1,n2,e1,e2,k1,r1,g1,g2,g3,g4⟩
theorem P6(l:List Secret)(hl:smL Gf l):Jd l=some l:=by
 have hlen:=hl.1;have h1:=X0 (step:=Z8 l) (λi=>(l.take i,(i:Int))) (r:=l) l.length (λi hi=>by
   have hm:l[i].Marks.length≤1048576:=hl.2 _ (List.getElem_mem hi);have hr1:rm l[i].Marks.length 16=true:=Vp (by omega) (by omega)
   have hr2:rm ((l.take i).length+1) 40=true:=Vp (by rw[List.length_take];omega) (by omega)
   simp only[Z8,Qy hi,Qs hi,QC hi,hr1,hr2,Qc,Qn,QM (show(i:Int)<9223372036854775807 by omega)]
   rw[List.take_succ_eq_append_getElem hi])
  (by simp only[Z8,QP (Qg _),Qb,List.take_length])
 unfold Jd;rw[show run (Z8 l) ([],0)=_ from by simpa using h1];rfl
theorem X8(h:House)(hm:Qu h):QU h=some h:=by
 obtain⟨m1,m2,m3,m4,m5,m6,m7⟩:=hm;unfold QU;simp only[P6 _ m2,Vp (show h.Finds.length≤2000000 by omega) (show 64≤1024 by omega),Vp (show h.Slots.length≤2000000 by omega) (show 24≤1024 by omega),Vp (show h.Claims.length≤2000000 by omega) (show 40≤1024 by omega),
  Vp (show h.Trials.length≤2000000 by omega) (show 32≤1024 by omega),Vp (show h.Chain.length≤2000000 by omega) (show 40≤1024 by omega),Vp (show h.Book.length≤2000000 by omega) (show 32≤1024 by omega),Qn,Qa]
section
variable{S U A B:Type}{ix:S→Int}{j:Int}
def Sp(ix:S→Int)(j:Int)(o:Option (S⊕Fl Bool U)):Prop:=∀x,o=some x→x=.inr (.ret false)∨∃s',x=.inl s'∧ix s'=j
theorem Sp.bind{o:Option A}{k:A→Option (S⊕Fl Bool U)}(h:∀y,Sp ix j (k y)):Sp ix j (o.bind k):=λx hx=>by
 obtain⟨y,_,hy⟩:=Option.bind_eq_some_iff.1 hx;exact h y x hy
theorem Sp.cond{b:Bool}{x y:Option (S⊕Fl Bool U)}(hx:Sp ix j x)(hy:Sp ix j y):Sp ix j (bif b then x else y):=by
 cases b with
 |true=>exact hx
 |false=>exact hy
theorem Sp.nd{b:Bool}{x:Option (S⊕Fl Bool U)}(hx:Sp ix j x):Sp ix j (nd b<|x):=by
 cases b with
 |true=>exact hx
 |false=>exact λ_ h=>by cases h
theorem Sp.ret:Sp ix j (some (.inr (.ret false)):Option (S⊕Fl Bool U)):=λx hx=>by injection hx with hx;exact .inl hx.symm
theorem Sp.inl{s:S}(h:ix s=j):Sp ix j (some (.inl s):Option (S⊕Fl Bool U)):=λx hx=>by injection hx with hx;exact .inr ⟨s,hx.symm,h⟩
theorem yG{step:A→Option (A⊕Fl Bool B)}(h:∀s r,step s=some (.inr (.ret r))→r=false){s:A}{r:Bool}(hr:run step s=some (.ret r)):r=false:=by
 obtain⟨n,hn⟩:=E3.1 hr;clear hr
 induction n generalizing s with
 |zero=>cases hn
 |succ n ih =>
  simp only[itr]at hn;obtain⟨o,h1,h2⟩:=Option.bind_eq_some_iff.1 hn;cases o with
  |inl s'=>exact ih h2
  |inr r'=>injection h2 with h2;subst h2;exact h s r h1
theorem Sp.run{step:A→Option (A⊕Fl Bool B)}(h:∀s r,step s=some (.inr (.ret r))→r=false){s:A}{q:B→Option (S⊕Fl Bool U)}(hq:∀y,Sp ix j (q y)):Sp ix j ((run step s).bind (evO (λr=>some (.inr (.ret r))) q)):=λx hx=>by
 obtain⟨y,hy,h2⟩:=Option.bind_eq_some_iff.1 hx;cases y with
 |ret r =>
  have:=yG h hy;subst this;injection h2 with h2
  exact .inl h2.symm
 |brk u=>exact hq u x h2
theorem LM{step:S→Option (S⊕Fl Bool U)}{n:Nat}{P:Nat→Prop}(ix:S→Int)(hs:∀(i:Nat) s,i<n→ix s=(i:Int)→Sp ix ((i+1:Nat):Int) (step s))(hp:∀(i:Nat) s,i<n→ix s=(i:Int)→¬P i→∀s',step s≠some (.inl s')){s0:S}{k:U→Option Bool}(h0:ix s0=0)(hr:(run step s0).bind (evO (λr=>some r) k)=some true):∀i,i<n→P i:=by
 have key:∀k':Nat,k'≤n→∃s,ix s=(k':Int)∧(run step s).bind (evO (λr=>some r) k)=some true∧∀i,i<k'→P i:=by
  intro k'
  induction k' with
  |zero=>exact λ_=>⟨s0,h0,hr,λi hi=>by omega⟩
  |succ k' ih =>
   intro hk;obtain⟨s,q1,q2,q3⟩:=ih (by omega)
   rw[QS]at q2;obtain⟨z,e0,e3⟩:=Option.bind_eq_some_iff.1 q2;obtain⟨x,e1,e2⟩:=Option.bind_eq_some_iff.1 e0
   rcases hs k' s (by omega) q1 x e1 with rfl|⟨s',rfl,q4⟩
   ·injection e2 with e2
    subst e2;cases e3
   ·refine⟨s',q4,by simp only at e2;rw[e2];exact e3,λi hi=>?_⟩
    by_cases hik:i<k'
    ·exact q3 i hik
    ·have:i=k':=by omega
     subst this;exact Classical.byContradiction λhn=>hp i s (by omega) q1 hn s' e1
 intro i hi;obtain⟨_,_,_,h⟩:=key n (Qg _);exact h i hi
end
theorem Sp.at{S U:Type}{ix:S→Int}{j j':Int}{o:Option (S⊕Fl Bool U)}(h:Sp ix j o)(e:j=j'):Sp ix j' o:=e▸h
structure Lk (h:House):Prop where
 no:i64 h.No
 now:i64 h.Now
 slots:∀x∈h.Slots,i64 x.Id∧i64 x.Thing
 claims:∀x∈h.Claims,i64 x.Id∧i64 x.Who∧i64 x.Thing
 chain:∀x∈h.Chain,i64 x.Who∧i64 x.At
 finds:∀x∈h.Finds,i64 x.Thing.Id
theorem Qbk{n a b:Int}(h:(decide (a≤n)&&decide (n≤b))=true)(ha:-9223372036854775808≤a)(hb:b≤9223372036854775807):i64 n:=by
 simp only[Bool.and_eq_true,decide_eq_true_eq]at h;unfold i64;omega
theorem G0{n a b:Int}(ha:-9223372036854775808≤a)(hb:b≤9223372036854775807)(h:¬i64 n):(decide (a≤n)&&decide (n≤b))=false:=by
 rw[Bool.eq_false_iff];exact λe=>h (Qbk e ha hb)
theorem zP{S U:Type}{ix:S→Int}{j:Int}{c:Bool}{x:Option (S⊕Fl Bool U)}{u:U}{r:Bool}(h:Sp ix j x)(e:(bif c then x else some (.inr (.brk u)))=some (.inr (.ret r))):r=false:=by
 cases c with
 |true =>
  rcases h _ e with h|⟨_,h,_⟩
  ·injection h with h;injection h
  ·cases h
 |false=>injection e with e;injection e with e;cases e
theorem sv(l:List Slot)(hl:l.length≤1048576)(h:JC l=some true):∀x∈l,i64 x.Id∧i64 x.Thing:=by
 intro x hx;obtain⟨i,hi,rfl⟩:=List.getElem_of_mem hx;refine LM (n:=l.length) (P:=λi=>∀h:i<l.length,i64 l[i].Id∧i64 l[i].Thing) (λs:Int=>s) (λi s hi hs=>?_) (λi s hi hs hP s' e=>?_) (s0:=(0:Int)) rfl h i hi hi
 ·subst hs
  unfold Xb;rw[Qy hi,Qc];exact Sp.bind λb=>Sp.cond Sp.ret (Sp.run (λs r e=>zP (ix:=λs:Int=>s) (j:=w64 (s+1)) (Sp.bind λ_=>Sp.cond Sp.ret (Sp.inl rfl)) e) λ_=>Sp.inl (QM (by omega)))
 ·subst hs
  refine hP λh'=>?_
  simp only[Xb,Qy hi,Qs hi,QC hi,Qc,Qn,Qq,Qa]at e;refine Classical.byContradiction λhn=>?_
  by_cases h1:i64 l[i].Id
  ·have h2:¬i64 l[i].Thing:=λh2=>hn ⟨h1,h2⟩
   rw[G0 (a:=0) (b:=999) (by omega) (by omega) h2]at e
   revert e;cases (decide (1≤l[i].Id)&&decide (l[i].Id≤99))<;>cases (decide (1≤l[i].Size)&&decide (l[i].Size≤50))<;>simp
  ·rw[G0 (a:=1) (b:=99) (by omega) (by omega) h1]at e
   revert e;simp
theorem ny(l:List Claim)(hl:l.length≤1048576)(h:Vu l=some true):∀x∈l,i64 x.Id∧i64 x.Who∧i64 x.Thing:=by
 intro x hx;obtain⟨i,hi,rfl⟩:=List.getElem_of_mem hx;refine LM (n:=l.length) (P:=λi=>∀h:i<l.length,i64 l[i].Id∧i64 l[i].Who∧i64 l[i].Thing) (λs:Int=>s) (λi s hi hs=>?_) (λi s hi hs hP s' e=>?_) (s0:=(0:Int)) rfl h i hi hi
 ·subst hs
  unfold Vl;rw[Qy hi,Qc];exact Sp.nd (Sp.bind λb=>Sp.cond Sp.ret (Sp.run (λs r e=>zP (ix:=λs:Int=>s) (j:=w64 (s+1)) (Sp.bind λ_=>Sp.cond Sp.ret (Sp.inl rfl)) e) λ_=>Sp.inl (QM (by omega))))
 ·subst hs
  refine hP λh'=>?_
  simp only[Vl,Qy hi,Qs hi,QC hi,Qc,Qn,Qq,Qa]at e;refine Classical.byContradiction λhn=>?_
  by_cases h1:i64 l[i].Id
  ·by_cases h2:i64 l[i].Who
   ·have h3:¬i64 l[i].Thing:=λh3=>hn ⟨h1,h2,h3⟩
    rw[G0 (n:=l[i].Thing) (a:=1) (b:=999) (by omega) (by omega) h3]at e
    revert e;cases (decide (1≤l[i].Id)&&decide (l[i].Id≤999))<;>cases (decide (1≤l[i].Who)&&decide (l[i].Who≤999))<;>simp
   ·rw[G0 (n:=l[i].Who) (a:=1) (b:=999) (by omega) (by omega) h2]at e
    revert e;cases (decide (1≤l[i].Id)&&decide (l[i].Id≤999))<;>simp
  ·rw[G0 (n:=l[i].Id) (a:=1) (b:=999) (by omega) (by omega) h1]at e
   revert e;simp
theorem qI(l:List Find)(hl:l.length≤1048576)(h:X7 l=some true):∀x∈l,i64 x.Thing.Id:=by
 intro x hx;obtain⟨i,hi,rfl⟩:=List.getElem_of_mem hx;refine LM (n:=l.length) (P:=λi=>∀h:i<l.length,i64 l[i].Thing.Id) (λs:Int=>s) (λi s hi hs=>?_) (λi s hi hs hP s' e=>?_) (s0:=(0:Int)) rfl h i hi hi
 ·subst hs
  unfold Ve;rw[Qy hi,Qc];exact Sp.bind λb=>Sp.cond Sp.ret (Sp.inl (QM (by omega)))
 ·subst hs
  refine hP λh'=>?_
  simp only[Ve,Xj,XM,Qy hi,Qs hi,QC hi,Qc,Qn,Qq,Qa]at e;refine Classical.byContradiction λhn=>?_
  rw[G0 (n:=l[i].Thing.Id) (a:=1) (b:=999) (by omega) (by omega) hn]at e
  revert e;simp
theorem pj(l:List Hand)(hl:l.length≤100)(h:Xm l=some true):∀x∈l,i64 x.Who∧i64 x.At:=by
 intro x hx;obtain⟨i,hi,rfl⟩:=List.getElem_of_mem hx;have h100:decide (ln l≤100)=true:=Qf (by rw[Q5];omega)
 refine LM (n:=l.length) (P:=λi=>∀h:i<l.length,i64 l[i].Who∧i64 l[i].At) (λs:Int×Int=>s.2) (λi s hi hs=>?_) (λi s hi hs hP s' e=>?_) (s0:=((0:Int),(0:Int))) rfl h i hi hi
 ·obtain⟨a,j⟩:=s
  simp only at hs;subst hs;simp only[Q1,Qy hi,h100,Bool.and_self,Qc];exact Sp.nd (Sp.bind λ_=>Sp.bind λb=>Sp.cond Sp.ret (Sp.bind λ_=>Sp.bind λ_=>Sp.cond Sp.ret (Sp.inl (QM (by omega)))))
 ·obtain⟨a,j⟩:=s
  simp only at hs;subst hs;refine hP λh'=>?_
  simp only[Q1,Qy hi,h100,Bool.and_self,Qs hi,QC hi,Qc,Qn,Qq,Qa]at e;obtain⟨q,_,e⟩:=Option.bind_eq_some_iff.1 e;refine Classical.byContradiction λhn=>?_
  by_cases h1:i64 l[i].Who
  ·have h2:¬i64 l[i].At:=λh2=>hn ⟨h1,h2⟩
   rw[G0 (n:=l[i].At) (a:=0) (b:=100000) (by omega) (by omega) h2]at e
   revert e;cases (decide (1≤l[i].Thing)&&decide (l[i].Thing≤999))<;>cases (decide (1≤l[i].Holder)&&decide (l[i].Holder≤5))<;>cases (decide (0≤l[i].Who)&&decide (l[i].Who≤999))<;>simp
  ·rw[G0 (n:=l[i].Who) (a:=0) (b:=999) (by omega) (by omega) h1]at e
   revert e;cases (decide (1≤l[i].Thing)&&decide (l[i].Thing≤999))<;>cases (decide (1≤l[i].Holder)&&decide (l[i].Holder≤5))<;>simp
theorem Lk.of_valid{h:House}(hm:Qu h)(hv:HouseOk h)(hc:h.Chain.length≤100):Lk h:=by
 obtain⟨m1,m2,m3,m4,m5,m6,m7⟩:=hm;have h1:=hv.no;have h2:=hv.now;exact⟨by unfold i64;omega,by unfold i64;omega,sv _ m3 hv.tS,ny _ m4 hv.cS,pj _ hc hv.nS,qI _ m1 hv.fS⟩
noncomputable def J7(h:House):Bool:=(VH h).getD false
theorem Jy(h:House)(hm:Qu h):Vq h=some (J7 h)∧VH h=some (J7 h):=by
 obtain⟨c,c1,c2⟩:=TU h hm;unfold J7;rw[c1,c2];exact⟨rfl,rfl⟩
theorem Mi(h:House)(hm:Qu h)(hb:J7 h=true):HouseOk h:=bT h hm (by rw[(Jy h hm).2,hb])
theorem OY(l:List Secret)(hl:smL Gf l):JF l=some l:=by
 have hlen:=hl.1;have h1:=X0 (step:=XB l (ln l)) (λi=>(l.take i,(i:Int))) (r:=l) l.length (λi hi=>by
   have hm:l[i].Marks.length≤1048576:=hl.2 _ (List.getElem_mem hi);have hr1:rm (0+l[i].Marks.length) 16=true:=Vp (by omega) (by omega)
   have hr2:rm ((l.take i).length+1) 40=true:=Vp (by rw[List.length_take];omega) (by omega)
   simp only[XB,XX,Qy hi,Qs hi,QC hi,hr1,hr2,Qc,Qn,Qa,QM (show(i:Int)<9223372036854775807 by omega)]
   rw[List.take_succ_eq_append_getElem hi])
  (by simp only[XB,QP (Qg _),Qb,List.take_length])
 unfold JF;rw[show run (XB l (ln l)) ([],0)=_ from by simpa using h1];rfl
theorem XD(h:House)(hm:Qu h):QG h=some h:=by
 obtain⟨m1,m2,m3,m4,m5,m6,m7⟩:=hm;unfold QG JP Xg VO C1 Xt Jo;simp only[OY _ m2,Vp (show 0+h.Finds.length≤2000000 by omega) (show 64≤1024 by omega),Vp (show 0+h.Slots.length≤2000000 by omega) (show 24≤1024 by omega),Vp (show 0+h.Claims.length≤2000000 by omega) (show 40≤1024 by omega),
  Vp (show 0+h.Trials.length≤2000000 by omega) (show 32≤1024 by omega),Vp (show 0+h.Chain.length≤2000000 by omega) (show 40≤1024 by omega),Vp (show 0+h.Book.length≤2000000 by omega) (show 32≤1024 by omega),Qn,Qa]
theorem UQ(l:List Bool)(hl:l.length≤1048576):Xi l false=some (!l.all id):=by
 have hr:=X3 l (λx=>decide (false=x)) (λi=>(i:Int)) (step:=Jw l false (ln l))
  (λi hi=>by
   simp only[Jw,Qy hi,Qs hi,QC hi,QM (show(i:Int)<9223372036854775807 by omega),Qc,Qn]
   cases decide (false=l[i])<;>rfl)
  (by simp only[Jw,QP (Qg _),Qb])
 unfold Xi DS;rw[hr];have hall:l.all id=(l.findIdx? (λx=>decide (false=x))).isNone:=by
  cases hf:l.findIdx? (λx=>decide (false=x))with
  |none =>
   rw[List.findIdx?_eq_none_iff]at hf;simp only[Option.isNone_none,List.all_eq_true];intro x hx;have:=hf x hx;cases x<;>simp at this ⊢
  |some i =>
   obtain⟨hlt,hp⟩:=B6 hf;simp only[Option.isNone_some];rw[List.all_eq_false];exact⟨l[i],List.getElem_mem hlt,by simp at hp;simp[←hp]⟩
 rw[hall];cases l.findIdx? (λx=>decide (false=x))with
 |none=>rfl
 |some i =>
  simp only[Qa,evO];rw[Qf (show(0:Int)≤(i:Int)by omega)];rfl
noncomputable def EQ(h out:House)(ok:Bool):House×Bool:=bif ok&&(J7 h&&J7 out)then(out,true)else(h,false)
theorem Cu(h out:House)(ok:Bool)(hm:Qu h)(ho:Qu out):Qu (EQ h out ok).1:=by
 unfold EQ;cases ok&&(J7 h&&J7 out)<;>assumption
theorem HO(h out:House):EQ h out false=(h,false):=rfl
theorem oC(h out:House)(ok:Bool)(hb:J7 h=false):EQ h out ok=(h,false):=by
 unfold EQ;rw[hb];cases ok<;>rfl
theorem FR(h out:House)(ok:Bool)(hm:Qu h)(ho:Qu out):QL h out ok=some (EQ h out ok):=by
 unfold QL EQ;simp only[(Jy h hm).1,(Jy out ho).1,X8 h hm,Qa];cases ok<;>cases J7 h<;>cases J7 out<;>rfl
theorem smH{h:House}(hm:Qu h){f:List Find}{s:List Secret}{t:List Slot}{c:List Claim}{r:List Trial}{n:List Hand}{b:List Entry}{k:Int}(h1:f.length≤1048576)(h2:smL Gf s)(h3:t.length≤1048576)(h4:c.length≤1048576)(h5:r.length≤1048576)(h6:n.length≤1048576)(h7:b.length≤1048576) :
  Qu ⟨h.No,f,s,t,c,r,n,b,k⟩:=⟨h1,h2,h3,h4,h5,h6,h7⟩
def Gn(l:List Claim)(i:Nat):Bool :=
 (decide (1≤(gt l (i:Int)).Id)&&decide ((gt l (i:Int)).Id≤999))&&((decide (1≤(gt l (i:Int)).Who)&&decide ((gt l (i:Int)).Who≤999))&&((decide (1≤(gt l (i:Int)).Thing)&&decide ((gt l (i:Int)).Thing≤999))&&((decide (0≤(gt l (i:Int)).At)&&decide ((gt l (i:Int)).At≤100000))&&((decide (0≤(gt l (i:Int)).State)&&decide ((gt l (i:Int)).State≤3)) &&
  ((decide (i=0)||!decide ((gt l (i:Int)).Id≤(gt l ((i-1:Nat):Int)).Id))&&!(l.take i).any (Hf (gt l (i:Int))))))))
theorem im(l:List Claim)(hl:l.length≤2097152)(i:Nat)(hi:i<l.length):Vl l (i:Int)=some (bif Gn l i then .inl ((i+1:Nat):Int)else .inr (.ret false)):=by
 have hin:=HM l i hi (by omega)
 simp only[Vl,Gn,Qy hi,Qs hi,QC hi,QM (show(i:Int)<9223372036854775807 by omega),Qc,Qn,Qq,Qa,hin]
 generalize (l.take i).any (Hf l[i])=q;by_cases h0:0<i
 ·simp only[show decide (0<(i:Int))=true from Qf (by omega),show decide (i=0)=false from Qe (by omega),CF h0 (by omega),Qs (show i-1<l.length by omega),Qc,Qn]
  cases (decide (1≤l[i].Id)&&decide (l[i].Id≤999))<;>cases (decide (1≤l[i].Who)&&decide (l[i].Who≤999))<;>cases (decide (1≤l[i].Thing)&&decide (l[i].Thing≤999))<;>cases (decide (0≤l[i].At)&&decide (l[i].At≤100000))<;>cases (decide (0≤l[i].State)&&decide (l[i].State≤3))<;>cases decide (l[i].Id≤(gt l ((i-1:Nat):Int)).Id)<;>cases q<;>rfl
 ·simp only[show decide (0<(i:Int))=false from Qe (by omega),show decide (i=0)=true from Qf (by omega),Qb]
  cases (decide (1≤l[i].Id)&&decide (l[i].Id≤999))<;>cases (decide (1≤l[i].Who)&&decide (l[i].Who≤999))<;>cases (decide (1≤l[i].Thing)&&decide (l[i].Thing≤999))<;>cases (decide (0≤l[i].At)&&decide (l[i].At≤100000))<;>cases (decide (0≤l[i].State)&&decide (l[i].State≤3))<;>cases q<;>rfl
theorem Ul(l:List Claim)(hl:l.length≤2097152):Vu l=some ((List.range l.length).all (Gn l)&&decide ((l.length:Int)≤20)):=by
 have key:∀(m i:Nat),i+m=l.length→run (Vl l) (i:Int)=some (bif (List.range' i m).all (Gn l)then .brk ()else .ret false):=by
  intro m
  induction m with
  |zero =>
   intro i hi;have:i=l.length:=by omega
   subst this;rw[QS];simp only[Vl,QP (Qg _),Qb,List.range'_zero,List.all_nil,Qc,Qa]
  |succ m ih =>
   intro i hi;rw[QS,im l hl i (by omega),List.range'_succ,List.all_cons]
   cases Gn l i with
   |false=>rfl
   |true=>simp only[Qc,Bool.true_and];exact ih (i+1) (by omega)
 unfold Vu;rw[show run (Vl l) 0=_ from key l.length 0 (by omega),←List.range_eq_range']
 cases (List.range l.length).all (Gn l)<;>rfl
theorem IT(l:List Claim)(h:Vu l=some true)(hl:l.length≤2097152):l.length≤20∧∀i,i<l.length→Gn l i=true:=by
 rw[Ul l hl]at h;simp only[Option.some.injEq,Bool.and_eq_true,decide_eq_true_eq,List.all_eq_true,List.mem_range]at h;exact⟨by omega,h.1⟩
theorem aJ{α:Type}[Inhabited α](l:List α)(k:Nat)(x:α)(i:Nat)(hi:i<l.length):gt (l.set k x) (i:Int)=if i=k then x else gt l (i:Int):=by
 rw[QC (by rw[List.length_set];exact hi),QC hi,List.getElem_set]
 by_cases h:i=k
 ·subst h;simp
 ·rw[if_neg h,if_neg (by omega)]
theorem Ym(l:List Claim)(k i:Nat)(x y:Claim)(hi:i≤l.length)(hx:x.State≠3)(h:(l.take i).any (Hf y)=false):((l.set k x).take i).any (Hf y)=false:=by
 rw[List.any_eq_false]at h ⊢;intro z hz;obtain⟨j,hj,rfl⟩:=List.getElem_of_mem hz;have hj':j<i∧j<l.length:=by simp at hj;omega
 rw[List.getElem_take,List.getElem_set];by_cases hk:k=j
 ·rw[if_pos hk];unfold Hf;simp[hx]
 ·rw[if_neg hk]
  exact h _ (by
   rw[List.mem_take_iff_getElem];exact⟨j,by omega,rfl⟩)
theorem iS(l:List Claim)(k:Nat)(hk:k<l.length)(s:Int)(hs:s=1∨s=2)(hl:l.length≤1048576)(h:Vu l=some true):Vu (l.set k ⟨l[k].Id,l[k].Who,l[k].Thing,l[k].At,s⟩)=some true:=by
 obtain⟨h1,h2⟩:=IT l h (by omega)
 rw[Ul _ (by rw[List.length_set];omega)]
 rw[List.length_set];have:(List.range l.length).all (Gn (l.set k ⟨l[k].Id,l[k].Who,l[k].Thing,l[k].At,s⟩))=true:=by
  rw[List.all_eq_true];intro i hi;rw[List.mem_range]at hi;have ho:=h2 i hi;have hgi:∀j,j<l.length→(gt (l.set k ⟨l[k].Id,l[k].Who,l[k].Thing,l[k].At,s⟩) (j:Int)).Id=(gt l (j:Int)).Id:=by
   intro j hj;rw[aJ l k _ j hj];by_cases hjk:j=k
   ·subst hjk;rw[if_pos rfl,QC hj]
   ·rw[if_neg hjk]
  unfold Gn at ho ⊢;rw[hgi i hi,hgi (i-1) (by omega)]
  simp only[Bool.and_eq_true]at ho ⊢;obtain⟨o1,o2,o3,o4,o5,o6,o7⟩:=ho;rw[aJ l k _ i hi];by_cases hik:i=k
  ·subst hik
   rw[QC hi]at o1 o2 o3 o4 o5 o6 o7;rw[if_pos rfl,QC hi];refine⟨o1,o2,o3,o4,?_,o6,?_⟩
   ·rcases hs with rfl|rfl<;>exact⟨rfl,rfl⟩
   ·have hst:s≠3:=by omega
    rw[show((l.set i ⟨l[i].Id,l[i].Who,l[i].Thing,l[i].At,s⟩).take i).any (Hf ⟨l[i].Id,l[i].Who,l[i].Thing,l[i].At,s⟩)=false from by
     rw[List.any_eq_false];intro z _;unfold Hf;simp[hst]]
    rfl
  ·rw[if_neg hik]
   refine⟨o1,o2,o3,o4,o5,o6,?_⟩;have o7':(l.take i).any (Hf (gt l (i:Int)))=false:=by simpa using o7
   rw[Ym l k i _ _ (by omega) (by show s≠3;omega) o7']
   rfl
 rw[this];simp;omega
def DY(l:List Claim)(id:Int):Int:=match l.findIdx? (λx=>decide (x.Id=id))with|some i=>(i:Int)|none=>-1
theorem Oa(l:List Claim)(id:Int)(hl:l.length≤1048576):Xn l id=some (DY l id):=by
 have hi:=X3 l (λx=>decide (x.Id=id)) (λi=>(i:Int)) (step:=QW l id (ln l))
  (λi hi=>by
   simp only[QW,Ev,Qa,Qy hi,Qs hi,QC hi,QM (show(i:Int)<9223372036854775807 by omega),Qc,Qn]
   cases decide (l[i].Id=id)<;>rfl)
  (by simp only[QW,QP (Qg _),Qb])
 unfold Xn VP DY;rw[hi];cases l.findIdx? (λx=>decide (x.Id=id))<;>rfl
theorem G8(l:List Claim)(id:Int):DY l id=-1∨∃k:Nat,∃hk:k<l.length,DY l id=(k:Int)∧l[k].Id=id:=by
 unfold DY;cases hf:l.findIdx? (λx=>decide (x.Id=id))with
 |none=>exact .inl rfl
 |some i =>
  obtain⟨hi,hp⟩:=B6 hf;exact .inr ⟨i,hi,rfl,by simpa using hp⟩
theorem SE(l:List Claim)(id:Int)(j:Nat)(hj:j<l.length)(h:l[j].Id=id):∃k:Nat,∃hk:k<l.length,DY l id=(k:Int)∧l[k].Id=id:=by
 rcases G8 l id with h0|h0
 ·exfalso
  unfold DY at h0;cases hf:l.findIdx? (λx=>decide (x.Id=id))with
  |none =>
   have:=List.findIdx?_eq_none_iff.1 hf _ (List.getElem_mem hj);simp[h]at this
  |some i=>rw[hf]at h0;simp only at h0;omega
 ·exact h0
theorem NC(h:House)(ht:XF h=some true):h.Trials.length=h.Claims.length:=by
 by_cases hlen:h.Trials.length=h.Claims.length
 ·exact hlen
 ·exfalso
  unfold XF at ht;rw[show(!decide (ln h.Trials=ln h.Claims))=true from by rw[Q5,Q5];simp;omega]at ht
  cases ht
theorem Ey(l:List Claim)(id:Int)(hl:l.length≤1048576):JO l id=some (DY l id)∧Xn l id=some (DY l id):=by
 have hs:=X3 l (λx=>decide (x.Id=id)) (λi=>(i:Int)) (step:=ZR l id)
  (λi hi=>by
   simp only[ZR,Qy hi,Qs hi,QC hi,QM (show(i:Int)<9223372036854775807 by omega),Qc,Qn]
   cases decide (l[i].Id=id)<;>rfl)
  (by simp only[ZR,QP (Qg _),Qb])
 refine⟨?_,Oa l id hl⟩;unfold JO DY;rw[hs];cases l.findIdx? (λx=>decide (x.Id=id))<;>rfl
end Go.Proofs.YtoilkmgiofimjaaGreatDoor
