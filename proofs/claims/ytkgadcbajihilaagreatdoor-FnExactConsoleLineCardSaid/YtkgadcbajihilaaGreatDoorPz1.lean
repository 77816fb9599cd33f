import Derived.Test.YtkgadcbajihilaaGreatDoorFam
set_option linter.unusedVariables false
set_option linter.unusedSimpArgs false
set_option linter.defProp false
namespace Go.Proofs.YtkgadcbajihilaaGreatDoor
open Go
def WN(v:Int){m:Int}(hm:0<m):-m<v.tmod m∧v.tmod m<m:=by
 refine⟨?_,Int.tmod_lt_of_pos v hm⟩;have h:=Int.tmod_lt_of_pos (-v) hm;rw[Int.neg_tmod]at h;omega
def lT(v:Int):HN v 2147483647=Ia v 2147483647:=by
 obtain⟨h1,h2⟩:=WN v (m:=2147483647) (by omega)
 unfold HN Ia QR QO;simp only[Qa,show(decide ((1:Int)≤2147483647)&&decide ((2147483647:Int)≤1000000000000))=true from rfl,Qh,Qb,show(!decide ((2147483647:Int)=0))=true from rfl,QL];generalize v.tmod 2147483647=t at h1 h2;rw[VD (by omega) (by omega)]
 by_cases ht:t<0
 ·rw[Qf ht,Qc,Int.tmod_eq_of_lt (by omega) (by omega)]
 ·rw[Qe ht,Qb,Int.tmod_eq_emod_of_nonneg (by omega)]
  congr 1;omega
def uk(v:Int):∃c,Ia v 2147483647=some c:=by
 unfold Ia QO;simp only[Qa,show(decide ((1:Int)≤2147483647)&&decide ((2147483647:Int)≤1000000000000))=true from rfl,Qh,Qb,show(!decide ((2147483647:Int)=0))=true from rfl,QL];cases decide (v.tmod 2147483647<0)<;>exact⟨_,rfl⟩
def oy(l:List Int):Dn l=Il l:=by
 have h:Jt l=HB l (ln l):=by
  funext ⟨d,i⟩;simp only[Jt,HB,OE,lT];cases decide (i<ln l)with
  |false=>rfl
  |true =>
   cases Q1 l i with
   |false=>rfl
   |true =>
    simp only[Qc,QL];cases Ia (gt l i) 2147483647<;>rfl
 unfold Dn Il;rw[h]
def sf(l:List Int)(hl:l.length≤1048576):∃c,Dn l=some c:=by
 unfold Dn;obtain⟨r,hr⟩:=k0 (step:=Jt l) (λi s=>s.2=(i:Int)) l.length (λi s hi hs=>by
   obtain⟨d,i'⟩:=s;simp only at hs;subst hs;obtain⟨c,hc⟩:=uk (gt l (i:Int));refine .inr ⟨((QU (QU (QU (d*1000003)+c)+13)).tmod 2147483647,QU ((i:Int)+1)),by simp only[Jt,Q0 hi,QP hi,lT,hc,Qa,Qc,QL],?_⟩
   exact Vg (by omega)) (λs hs=>by
   obtain⟨d,i'⟩:=s;simp only at hs;subst hs;exact⟨d,by simp only[Jt,Q6 (Qg _),Qb]⟩) l.length 0 (11,0) (by omega) rfl
 exact⟨r,by rw[hr];rfl⟩
def aJ(s:Int)(x:Hand):∃c,Bm s x=some c∧ZY s x=some c:=by
 obtain⟨c,hc⟩:=sf [s,x.Qo,x.Qx,x.QA,x.At] (by simp)
 exact⟨c,by unfold Bm;rw[hc];rfl,by unfold ZY;rw[←oy,hc];rfl⟩
def Jj(l:List Hand)(t:Int):Nat→Int
 |0=>-1
 |n+1=>if(gt l (n:Int)).Qo=t then(n:Int)else Jj l t n
def L2(l:List Hand)(t:Int):∀n,Jj l t n=-1∨∃j:Nat,j<n∧Jj l t n=(j:Int)
 |0=>.inl rfl
 |n+1=>by
  unfold Jj
  split
  ·exact .inr ⟨n,by omega,rfl⟩
  ·rcases L2 l t n with h|⟨j,h1,h2⟩
   ·exact .inl h
   ·exact .inr ⟨j,by omega,h2⟩
def ib(l:List Hand)(t:Int)(n:Nat)(hn:n≤l.length)(hl:l.length≤1048576):FX l t (n:Int)=some (Jj l t n):=by
 have hr:=J2 (step:=AS l t (n:Int)) (λi=>(Jj l t i,(i:Int))) (r:=Jj l t n) n (λi hi=>by
   simp only[AS,show decide ((i:Int)<(n:Int))=true from Qf (by omega),QP (show i<l.length by omega),Vg (show(i:Int)<9223372036854775807 by omega),Qc,QL,Jj]
   by_cases ht:(gt l (i:Int)).Qo=t
   ·rw[Qf ht,if_pos ht];rfl
   ·rw[Qe ht,if_neg ht];rfl) (by
   simp only[AS,show decide ((n:Int)<(n:Int))=false from Qe (by omega),Qb])
 unfold FX;rw[show run (AS l t (n:Int)) ((-1),0)=some (Jj l t n)from hr];rfl
def QiV{α:Type}[Inhabited α](l:List α)(n:Nat)(i:Nat)(h:i<n):gt (cut l 0 (n:Int)) (i:Int)=gt l (i:Int):=by
 unfold gt cut;simp[List.getD_eq_getElem?_getD,List.getElem?_take,h]
def oH{α:Type}(l:List α)(n:Nat)(h:n≤l.length):(cut l 0 (n:Int)).length=n:=by
 unfold cut;simp;omega
def fL(l:List Hand)(t:Int)(n:Nat)(hn:n≤l.length)(hl:l.length≤1048576):Bk (cut l 0 (n:Int)) t=some (Jj l t n):=by
 have key:∀j:Nat,j≤n→run (DD (cut l 0 (n:Int)) t) ((j:Int)-1)=some (bif decide (Jj l t j<0)then .brk ()else .ret (Jj l t j)):=by
  intro j
  induction j with
  |zero=>intro _;rw[Vk];rfl
  |succ j ih =>
   intro hj;have hlt:j<(cut l 0 (n:Int)).length:=by rw[oH l n hn];omega
   rw[show((j+1:Nat):Int)-1=(j:Int)by omega,Vk]
   simp only[DD,show decide (0≤(j:Int))=true from Qf (by omega),QP hlt,QiV l n j (by omega),Qc,QL]
   by_cases ht:(gt l (j:Int)).Qo=t
   ·have e:Jj l t (j+1)=(j:Int):=by unfold Jj;rw[if_pos ht]
    rw[Qf ht,e,Qe (show ¬(j:Int)<0 by omega)];rfl
   ·have e:Jj l t (j+1)=Jj l t j:=by rw[Jj,if_neg ht]
    rw[Qe ht,e,show QU ((j:Int)-1)=(j:Int)-1 from VD (by omega) (by omega)]
    exact ih (by omega)
 unfold Bk;rw[show QU (ln (cut l 0 (n:Int))-1)=(n:Int)-1 from by rw[Vp,oH l n hn,VD]<;>omega,key n (Qg _)]
 rcases L2 l t n with h|⟨j,_,h⟩
 ·rw[h];rfl
 ·rw[h,Qe (show ¬(j:Int)<0 by omega)];rfl
def Sr(l:List Hand)(hl:l.length≤100)(s:Int)(k:Nat)(hk:k≤l.length):VJ l (s,(k:Int))=AU l l (ln l) (s,(k:Int)):=by
 by_cases hlt:k<l.length
 ·obtain⟨c,hc1,hc2⟩:=aJ s l[k]
  have e100:decide (ln l≤100)=true:=Qf (by rw[Vp];omega)
  have hcut:Ff 0 (k:Int) (ln l)=true:=by unfold Ff;simp[Vp];omega
  simp only[VJ,AU,Q0 hlt,e100,QP hlt,Q3 hlt,Bool.and_true,Qc,QL,hc1,hc2,Qa,QR,QO,hcut,ib l _ k hk (by omega),fL l _ k hk (by omega),Vg (show(k:Int)<9223372036854775807 by omega)]
  have h3:∀h:Int,decide (3≤h)=decide (2<h):=λh=>by rw[decide_eq_decide];omega
  have tail:∀(r:Int) (q:Int),(r=-1∨∃j:Nat,j<k∧r=(j:Int)) →
    ((bif decide (r<0)then(bif decide (2<l[k].Qx)then some true else(bif decide (0≤r)then(bif decide (l[k].Qx=1)then some true else nd (Q1 l r)<|some (decide (3≤(gt l r).Qx)))else some false))else(bif decide (0≤r)then(bif decide (l[k].Qx=1)then some true else nd (Q1 l r)<|some (decide (3≤(gt l r).Qx)))else some false)).bind λb2=>(bif b2 then some (.inr (.ret false))else some (.inl (q,((k+1:Nat):Int))):Option ((Int×Int)⊕(Fl Bool Unit)))) =
    (bif decide (r<0)then(bif decide (2<l[k].Qx)then some (.inr (.ret false))else some (.inl (q,((k+1:Nat):Int))))else(bif decide (l[k].Qx=1)then some true else nd (Q1 l r)<|some (decide (2<(gt l r).Qx))).bind λb2=>(bif b2 then some (.inr (.ret false))else some (.inl (q,((k+1:Nat):Int))))):=by
   intro r q hr
   rcases hr with rfl|⟨j,hj,rfl⟩
   ·simp only[show decide ((-1:Int)<0)=true from rfl,show decide (0≤(-1:Int))=false from rfl,Qc,Qb]
    cases decide (2<l[k].Qx)<;>rfl
   ·simp only[show decide ((j:Int)<0)=false from Qe (by omega),show decide (0≤(j:Int))=true from Qf (by omega),Qc,Qb,QP (show j<l.length by omega),QL,h3]
  have ht:=L2 l l[k].Qo k;by_cases hq:l[k].Seal=c
  ·subst hq
   simp only[decide_true,Qh,Qb];by_cases h0:0<k
   ·simp only[show decide (0<(k:Int))=true from Qf (by omega),show QU ((k:Int)-1)=((k-1:Nat):Int)from by rw[VD]<;>omega,QP (show k-1<l.length by omega),Qc,QL,Qa]
    cases (decide (1≤l[k].Qo)&&decide (l[k].Qo≤999))<;>cases (decide (1≤l[k].Qx)&&decide (l[k].Qx≤5))<;>cases (decide (0≤l[k].QA)&&decide (l[k].QA≤999))<;>cases (decide (0≤l[k].At)&&decide (l[k].At≤100000))<;>cases decide (l[k].At<(gt l ((k-1:Nat):Int)).At) <;>
     simp only[Qh,Qi,Qc,Qb,Qa]
    exact tail _ _ ht
   ·simp only[show decide (0<(k:Int))=false from Qe (by omega),Qb,Qa]
    cases (decide (1≤l[k].Qo)&&decide (l[k].Qo≤999))<;>cases (decide (1≤l[k].Qx)&&decide (l[k].Qx≤5))<;>cases (decide (0≤l[k].QA)&&decide (l[k].QA≤999))<;>cases (decide (0≤l[k].At)&&decide (l[k].At≤100000)) <;>
     simp only[Qh,Qi,Qc,Qb,Qa]
    exact tail _ _ ht
  ·simp only[Qe hq,Qi,Qc]
   by_cases h0:0<k
   ·simp only[show decide (0<(k:Int))=true from Qf (by omega),show QU ((k:Int)-1)=((k-1:Nat):Int)from by rw[VD]<;>omega,QP (show k-1<l.length by omega),Qc,QL,Qa]
    cases (decide (1≤l[k].Qo)&&decide (l[k].Qo≤999))<;>cases (decide (1≤l[k].Qx)&&decide (l[k].Qx≤5))<;>cases (decide (0≤l[k].QA)&&decide (l[k].QA≤999))<;>cases (decide (0≤l[k].At)&&decide (l[k].At≤100000))<;>cases decide (l[k].At<(gt l ((k-1:Nat):Int)).At) <;>
     simp only[Qh,Qi,Qc,Qb,Qa]
   ·simp only[show decide (0<(k:Int))=false from Qe (by omega),Qb,Qa]
    cases (decide (1≤l[k].Qo)&&decide (l[k].Qo≤999))<;>cases (decide (1≤l[k].Qx)&&decide (l[k].Qx≤5))<;>cases (decide (0≤l[k].QA)&&decide (l[k].QA≤999))<;>cases (decide (0≤l[k].At)&&decide (l[k].At≤100000)) <;>
     simp only[Qh,Qi,Qc,Qb,Qa]
 ·have:k=l.length:=by omega
  subst this;simp only[VJ,AU,Q6 (Qg _),Bool.false_and,Qb]
def Iw(l:List Hand)(hl:l.length≤100)(s:Int)(k:Nat)(hlt:k<l.length) :
  VJ l (s,(k:Int))=some (.inr (.ret false))∨(∃c,VJ l (s,(k:Int))=some (.inl (c,((k+1:Nat):Int))))∧0≤l[k].At∧l[k].At≤100000∧∀(h:0<k),(l[k-1]'(by omega)).At≤l[k].At:=by
 obtain⟨c,hc1,hc2⟩:=aJ s l[k];have e100:decide (ln l≤100)=true:=Qf (by rw[Vp];omega)
 have ht:=L2 l l[k].Qo k;simp only[VJ,Q0 hlt,e100,QP hlt,Q3 hlt,Bool.and_true,Qc,QL,hc1,Qa,QR,ib l _ k (by omega) (by omega),Vg (show(k:Int)<9223372036854775807 by omega)]
 have tail:∀r:Int,(r=-1∨∃j:Nat,j<k∧r=(j:Int))→∃b,(bif decide (r<0)then(bif decide (2<l[k].Qx)then some true else(bif decide (0≤r)then(bif decide (l[k].Qx=1)then some true else nd (Q1 l r)<|some (decide (3≤(gt l r).Qx)))else some false))else(bif decide (0≤r)then(bif decide (l[k].Qx=1)then some true else nd (Q1 l r)<|some (decide (3≤(gt l r).Qx)))else some false))=some b:=by
  intro r hr
  rcases hr with rfl|⟨j,hj,rfl⟩
  ·simp only[show decide ((-1:Int)<0)=true from rfl,show decide (0≤(-1:Int))=false from rfl,Qc,Qb]
   cases decide (2<l[k].Qx)<;>exact⟨_,rfl⟩
  ·simp only[show decide ((j:Int)<0)=false from Qe (by omega),show decide (0≤(j:Int))=true from Qf (by omega),Qc,Qb,QP (show j<l.length by omega),QL]
   cases decide (l[k].Qx=1)<;>exact⟨_,rfl⟩
 obtain⟨b,hb⟩:=tail _ ht;simp only[hb,Qa];by_cases h1:(decide (1≤l[k].Qo)&&decide (l[k].Qo≤999))=false
 ·left;simp only[h1,Qh,Qi,Qc,Qb,Qa]
 rw[Bool.not_eq_false]at h1;by_cases h2:(decide (1≤l[k].Qx)&&decide (l[k].Qx≤5))=false
 ·left;simp only[h1,h2,Qh,Qi,Qc,Qb,Qa]
 rw[Bool.not_eq_false]at h2;by_cases h3:(decide (0≤l[k].QA)&&decide (l[k].QA≤999))=false
 ·left;simp only[h1,h2,h3,Qh,Qi,Qc,Qb,Qa]
 rw[Bool.not_eq_false]at h3;by_cases h4:(decide (0≤l[k].At)&&decide (l[k].At≤100000))=false
 ·left;simp only[h1,h2,h3,h4,Qh,Qi,Qc,Qb,Qa]
 rw[Bool.not_eq_false]at h4;simp only[h1,h2,h3,h4,Qh,Qb,Qa];simp only[Bool.and_eq_true,decide_eq_true_eq]at h4;cases decide (l[k].Seal=c)with
 |false=>left;simp only[Qi,Qc,Qa]
 |true =>
  simp only[Qh,Qb];by_cases h0:0<k
  ·simp only[show decide (0<(k:Int))=true from Qf (by omega),show QU ((k:Int)-1)=((k-1:Nat):Int)from by rw[VD]<;>omega,QP (show k-1<l.length by omega),Q3 (show k-1<l.length by omega),Qc,QL,Qa]
   by_cases h5:l[k].At<(l[k-1]'(by omega)).At
   ·left;rw[Qf h5];rfl
   ·rw[Qe h5]
    simp only[Qb];cases b with
    |true=>left;rfl
    |false=>right;exact⟨⟨_,rfl⟩,h4.1,h4.2,λ_=>by omega⟩
  ·simp only[show decide (0<(k:Int))=false from Qe (by omega),Qb,Qa]
   cases b with
   |true=>left;rfl
   |false=>right;exact⟨⟨_,rfl⟩,h4.1,h4.2,λh=>absurd h h0⟩
def kz(l:List Hand)(hl:l.length≤100):run (VJ l) (0,0)=some (.brk ())∨run (VJ l) (0,0)=some (.ret false):=by
 have key:∀(m k:Nat) (s:Int),k+m=l.length→run (VJ l) (s,(k:Int))=some (.brk ())∨run (VJ l) (s,(k:Int))=some (.ret false):=by
  intro m
  induction m with
  |zero =>
   intro k s hk;have:k=l.length:=by omega
   subst this;left;rw[Vk];simp only[VJ,Q6 (Qg _),Bool.false_and,Qb,Qa]
  |succ m ih =>
   intro k s hk
   rcases Iw l hl s k (by omega)with h|⟨⟨c,h⟩,_⟩
   ·right;rw[Vk,h];rfl
   ·rw[Vk,h];exact ih (k+1) c (by omega)
 exact key l.length 0 0 (by omega)
def YU(l:List Hand):∃b,XT l=some b∧XQ l=some b ∧
  (b=true→l.length≤100∧∀k (h:k<l.length),0≤l[k].At∧l[k].At≤100000∧∀(h':0<k),(l[k-1]'(by omega)).At≤l[k].At):=by
 by_cases hl:l.length≤100
 ·have he:run (VJ l) (0,0)=run (AU l l (ln l)) (0,0):=by
   refine sB (λs=>∃k:Nat,k≤l.length∧s.2=(k:Int)) (λs ⟨k,hk,hs⟩=>?_) (λs s' ⟨k,hk,hs⟩ hg=>?_) ⟨0,by omega,rfl⟩
   ·obtain⟨a,i⟩:=s
    simp only at hs;subst hs;exact Sr l hl a k hk
   ·obtain⟨a,i⟩:=s
    simp only at hs;subst hs;rw[←Sr l hl a k hk]at hg;by_cases hlt:k<l.length
    ·rcases Iw l hl a k hlt with h|⟨⟨c,h⟩,_⟩
     ·rw[h]at hg;simp at hg
     ·rw[h]at hg
      injection hg with hg;injection hg with hg;subst hg
      exact⟨k+1,by omega,rfl⟩
    ·have:k=l.length:=by omega
     subst this;simp only[VJ,Q6 (Qg _),Bool.false_and,Qb]at hg;simp at hg
  have e100:decide (ln l≤100)=true:=Qf (by rw[Vp];omega)
  have e101:decide (100<ln l)=false:=Qe (by rw[Vp];omega)
  unfold XT XQ;rw[←he,e101]
  rcases kz l hl with h|h
  ·refine⟨true,by rw[h,e100];rfl,by rw[h];rfl,λ_=>⟨hl,λk hk=>?_⟩⟩
   obtain⟨⟨s,i⟩,s',hs,hst⟩:=WP (step:=VJ l) (λi s=>s.2=(i:Int)) l.length () (λi s hi hs=>by
    obtain⟨a,i'⟩:=s;simp only at hs;subst hs
    rcases Iw l hl a i hi with h|⟨⟨c,h⟩,_⟩
    ·exact .inl ⟨_,h⟩
    ·exact .inr ⟨_,h,rfl⟩) l.length 0 (0,0) (by omega) rfl h k (by omega) hk
   simp only at hs;subst hs
   rcases Iw l hl s k hk with h'|⟨_,h'⟩
   ·rw[h']at hst;simp at hst
   ·exact h'
  ·exact⟨false,by rw[h];rfl,by rw[h];rfl,λh=>by cases h⟩
 ·refine⟨false,?_,?_,λh=>by cases h⟩
  ·have e100:decide (ln l≤100)=false:=Qe (by rw[Vp];omega)
   unfold XT;rw[Vk];simp only[VJ,e100,Bool.and_false,Qb,Qa];rfl
  ·unfold XQ
   rw[show decide (100<ln l)=true from Qf (by rw[Vp];omega)]
   rfl
section
variable{ρ σ:Type}
def GK{n:Nat}{r:ρ}{s1 s2:Int→Option (Int⊕(Fl ρ Unit))}
  (h:∀i,i<n→(∀j,j<i→s1 (j:Int)=some (.inl ((j+1:Nat):Int)))→∃b,s1 (i:Int)=some (bif b then .inr (.ret r)else .inl ((i+1:Nat):Int))∧s2 (i:Int)=some (bif b then .inr (.ret r)else .inl ((i+1:Nat):Int)))
  (e1:s1 (n:Int)=some (.inr (.brk ()))) (e2:s2 (n:Int)=some (.inr (.brk ()))) :
  ∃b,run s1 0=some (bif b then .brk ()else .ret r)∧run s2 0=some (bif b then .brk ()else .ret r)∧(b=true→∀i,i<n→s1 (i:Int)=some (.inl ((i+1:Nat):Int))∧s2 (i:Int)=some (.inl ((i+1:Nat):Int))):=by
 have key:∀(m i:Nat),i+m=n→(∀j,j<i→s1 (j:Int)=some (.inl ((j+1:Nat):Int)))→∃b,run s1 (i:Int)=some (bif b then .brk ()else .ret r)∧run s2 (i:Int)=some (bif b then .brk ()else .ret r)∧(b=true→∀j,i≤j→j<n→s1 (j:Int)=some (.inl ((j+1:Nat):Int))∧s2 (j:Int)=some (.inl ((j+1:Nat):Int))):=by
  intro m
  induction m with
  |zero =>
   intro i hi _;have:i=n:=by omega
   subst this;exact⟨true,by rw[Vk,e1];rfl,by rw[Vk,e2];rfl,λ_ j h1 h2=>by omega⟩
  |succ m ih =>
   intro i hi hpre;obtain⟨b,h1,h2⟩:=h i (by omega) hpre
   cases b with
   |true=>exact⟨false,by rw[Vk,h1];rfl,by rw[Vk,h2];rfl,λh=>by cases h⟩
   |false =>
    obtain⟨b,q1,q2,q3⟩:=ih (i+1) (by omega) (λj hj=>by
     by_cases hji:j=i
     ·subst hji;exact h1
     ·exact hpre j (by omega))
    refine⟨b,by rw[Vk,h1];exact q1,by rw[Vk,h2];exact q2,λhb j hij hj=>?_⟩
    by_cases hji:i=j
    ·subst hji;exact⟨h1,h2⟩
    ·exact q3 hb j (by omega) hj
 obtain⟨b,q1,q2,q3⟩:=key n 0 (by omega) (λj hj=>by omega)
 exact⟨b,q1,q2,λhb i hi=>q3 hb i (by omega) hi⟩
def Om{n:Nat}{step:σ×Int→Option ((σ×Int)⊕ρ)}{fin:σ→ρ}(Q:Nat→σ→Prop)
  (h1:∀i v,i<n→Q i v→∃v',step (v,(i:Int))=some (.inl (v',((i+1:Nat):Int)))∧Q (i+1) v') (h2:∀v,Q n v→step (v,(n:Int))=some (.inr (fin v))) :
  ∀v,Q 0 v→∃v',run step (v,0)=some (fin v')∧Q n v':=by
 have key:∀(m i:Nat) (v:σ),i+m=n→Q i v→∃v',run step (v,(i:Int))=some (fin v')∧Q n v':=by
  intro m
  induction m with
  |zero =>
   intro i v hi hq;have:i=n:=by omega
   subst this;exact⟨v,by rw[Vk,h2 v hq];rfl,hq⟩
  |succ m ih =>
   intro i v hi hq;obtain⟨v',q1,q2⟩:=h1 i v (by omega) hq
   rw[Vk,q1];exact ih (i+1) v' (by omega) q2
 intro v hv;exact key n 0 v (by omega) hv
end
def D6{n:Nat}{k:Int}{b:Bool}(x:Option (Fl Bool Unit))(hx:x=some (bif b then .brk ()else .ret false)) :
  x.bind (J1 (λr=>some r) λ_=>some (decide ((n:Int)≤k)))=some (b&&decide ((n:Int)≤k)) ∧
   (bif decide (k<(n:Int))then some false else x.bind (J1 (λr=>some r) λ_=>some true))=some (b&&decide ((n:Int)≤k)):=by
 subst hx;by_cases h:(n:Int)≤k
 ·rw[Qf h,Qe (show ¬k<(n:Int)by omega)]
  cases b<;>exact⟨rfl,rfl⟩
 ·rw[Qe h,Qf (show k<(n:Int)by omega)]
  cases b<;>exact⟨rfl,rfl⟩
def Ds{i:Nat}(h0:0<i)(h:(i:Int)≤9223372036854775807):QU ((i:Int)-1)=((i-1:Nat):Int):=by rw[VD]<;>omega
def WQ(l:List Entry)(hl:l.length≤2097152):∃b,Jz l=some b∧Jy l=some b ∧
  (b=true→l.length≤100∧∀i (h:i<l.length),∀(h':0<i),(l[i-1]'(by omega)).At≤l[i].At):=by
 obtain⟨b,h1,h2,h3⟩:=GK (n:=l.length) (r:=false) (s1:=JE l) (s2:=ZE l l (ln l)) (λi hi _=>by
   simp only[JE,ZE,Q0 hi,QP hi,Q3 hi,Vg (show(i:Int)<9223372036854775807 by omega),Qc,QL,QR,QO,Qa]
   by_cases h0:0<i
   ·simp only[show decide (0<(i:Int))=true from Qf (by omega),Ds h0 (by omega),QP (show i-1<l.length by omega),Qc,QL]
    cases (decide (0≤l[i].From)&&decide (l[i].From≤999))<;>cases (decide (0≤l[i].To)&&decide (l[i].To≤999))<;>cases decide (l[i].From=l[i].To)<;>cases (decide (1≤l[i].Qy)&&decide (l[i].Qy≤10000000))<;>cases (decide (0≤l[i].At)&&decide (l[i].At≤100000))<;>cases decide (l[i].At<(gt l ((i-1:Nat):Int)).At)<;>first|exact⟨true,rfl,rfl⟩|exact⟨false,rfl,rfl⟩
   ·simp only[show decide (0<(i:Int))=false from Qe (by omega),Qb]
    cases (decide (0≤l[i].From)&&decide (l[i].From≤999))<;>cases (decide (0≤l[i].To)&&decide (l[i].To≤999))<;>cases decide (l[i].From=l[i].To)<;>cases (decide (1≤l[i].Qy)&&decide (l[i].Qy≤10000000))<;>cases (decide (0≤l[i].At)&&decide (l[i].At≤100000))<;>first|exact⟨true,rfl,rfl⟩|exact⟨false,rfl,rfl⟩)
  (by simp only[JE,Q6 (Qg _),Qb]) (by simp only[ZE,Q6 (Qg _),Qb])
 refine⟨b&&decide ((l.length:Int)≤100),(D6 _ h1).1,(D6 _ h2).2,λhb=>?_⟩
 simp only[Bool.and_eq_true,decide_eq_true_eq]at hb;refine⟨by omega,λi hi h0=>?_⟩
 have hstep:=(h3 hb.1 i hi).1;simp only[JE,Q0 hi,QP hi,Q3 hi,Qc,QL,QR,Qa,show decide (0<(i:Int))=true from Qf (by omega),Ds h0 (by omega),QP (show i-1<l.length by omega),Q3 (show i-1<l.length by omega)]at hstep
 by_cases hlt:l[i].At<(l[i-1]'(by omega)).At
 ·rw[Qf hlt]at hstep
  exfalso;revert hstep;cases (decide (0≤l[i].From)&&decide (l[i].From≤999))<;>cases (decide (0≤l[i].To)&&decide (l[i].To≤999))<;>cases decide (l[i].From=l[i].To)<;>cases (decide (1≤l[i].Qy)&&decide (l[i].Qy≤10000000))<;>cases (decide (0≤l[i].At)&&decide (l[i].At≤100000))<;>simp
 ·omega
def Rk(l:List Entry)(hl:l.length≤1048576):∃b,Jz l=some b∧Jy l=some b ∧
  (b=true→l.length≤100∧∀i (h:i<l.length),∀(h':0<i),(l[i-1]'(by omega)).At≤l[i].At):=WQ l (by omega)
def SM(x:Qo):∃b,Js x=some b∧CL x=some b∧(b=true→1≤x.Id):=by
 have e:CL x=Js x:=rfl;rw[e];unfold Js QR;simp only[Qa];cases h1:(decide (1≤x.Id)&&decide (x.Id≤999))with
 |false=>exact⟨false,rfl,rfl,λh=>by cases h⟩
 |true =>
  have:1≤x.Id:=by simp only[Bool.and_eq_true,decide_eq_true_eq]at h1;exact h1.1
  cases (decide (1≤x.Kind)&&decide (x.Kind≤8))<;>cases (decide (0≤x.Colour)&&decide (x.Colour≤7))<;>cases (decide (1≤x.Size)&&decide (x.Size≤50))<;>exact⟨_,rfl,rfl,λ_=>this⟩
def Ou(f:QB):∃b,XN f=some b∧Bl f=some b∧(b=true→1≤f.Qo.Id):=by
 obtain⟨b,h1,h2,h3⟩:=SM f.Qo;unfold XN Bl QR QO;rw[h1,h2];simp only[Qa];cases b with
 |false=>exact⟨false,rfl,rfl,λh=>by cases h⟩
 |true=>cases (decide (1≤f.Place)&&decide (f.Place≤30))<;>cases (decide (0≤f.At)&&decide (f.At≤100000))<;>exact⟨_,rfl,rfl,λ_=>h3 rfl⟩
def fq(l:List QB)(hl:l.length≤2097152):∃b,J0 l=some b∧Bo l=some b∧(b=true→l.length≤20∧(∀i (h:i<l.length),1≤l[i].Qo.Id)∧∀i (h:i<l.length) (h0:0<i),(l[i-1]'(by omega)).Qo.Id<l[i].Qo.Id):=by
 obtain⟨b,h1,h2,h3⟩:=GK (n:=l.length) (r:=false) (s1:=V2 l) (s2:=BD l l (ln l)) (λi hi _=>by
   obtain⟨b,q1,q2,_⟩:=Ou l[i];simp only[V2,BD,Q0 hi,QP hi,Q3 hi,Vg (show(i:Int)<9223372036854775807 by omega),Qc,QL,q1,q2,Qa]
   by_cases h0:0<i
   ·simp only[show decide (0<(i:Int))=true from Qf (by omega),Ds h0 (by omega),QP (show i-1<l.length by omega),Qc,QL]
    cases b<;>cases decide (l[i].Qo.Id≤(gt l ((i-1:Nat):Int)).Qo.Id)<;>first|exact⟨true,rfl,rfl⟩|exact⟨false,rfl,rfl⟩
   ·simp only[show decide (0<(i:Int))=false from Qe (by omega),Qb]
    cases b<;>first|exact⟨true,rfl,rfl⟩|exact⟨false,rfl,rfl⟩)
  (by simp only[V2,Q6 (Qg _),Qb]) (by simp only[BD,Q6 (Qg _),Qb])
 refine⟨b&&decide ((l.length:Int)≤20),(D6 _ h1).1,(D6 _ h2).2,λhb=>?_⟩
 simp only[Bool.and_eq_true,decide_eq_true_eq]at hb;refine⟨by omega,λi hi=>?_,λi hi h0=>?_⟩
 ·have hstep:=(h3 hb.1 i hi).1
  obtain⟨c,q1,q2,q3⟩:=Ou l[i];simp only[V2,Q0 hi,QP hi,Q3 hi,Qc,QL,q1,Qa]at hstep;cases c with
  |true=>exact q3 rfl
  |false=>simp at hstep
 ·have hstep:=(h3 hb.1 i hi).1
  obtain⟨c,q1,q2,q3⟩:=Ou l[i];simp only[V2,Q0 hi,QP hi,Q3 hi,Qc,QL,q1,Qa,show decide (0<(i:Int))=true from Qf (by omega),Ds h0 (by omega),QP (show i-1<l.length by omega),Q3 (show i-1<l.length by omega)]at hstep
  by_cases hlt:l[i].Qo.Id≤(l[i-1]'(by omega)).Qo.Id
  ·exfalso
   rw[Qf hlt]at hstep;cases c<;>simp at hstep
  ·omega
def Sj(l:List QB)(hl:l.length≤1048576):∃b,J0 l=some b∧Bo l=some b∧(b=true→l.length≤20∧∀i (h:i<l.length),1≤l[i].Qo.Id):=by
 obtain⟨b,h1,h2,h3⟩:=fq l (by omega)
 exact⟨b,h1,h2,λh=>⟨(h3 h).1,(h3 h).2.1⟩⟩
def TN(l:List Mark)(hl:l.length≤9223372036854775807):∃b,Bi l=some b∧CZ l=some b:=by
 obtain⟨b,h1,h2,h3⟩:=GK (n:=l.length) (r:=false) (s1:=JT l) (s2:=BF l l (ln l)) (λi hi _=>by
   simp only[JT,BF,Q0 hi,QP hi,Q3 hi,Vg (show(i:Int)<9223372036854775807 by omega),Qc,QL,QR,QO,Qa]
   by_cases h0:0<i
   ·simp only[show decide (0<(i:Int))=true from Qf (by omega),Ds h0 (by omega),QP (show i-1<l.length by omega),Qc,QL]
    cases (decide (1≤l[i].Question)&&decide (l[i].Question≤20))<;>cases (decide (0≤l[i].Answer)&&decide (l[i].Answer≤99))<;>cases decide (l[i].Question≤(gt l ((i-1:Nat):Int)).Question)<;>first|exact⟨true,rfl,rfl⟩|exact⟨false,rfl,rfl⟩
   ·simp only[show decide (0<(i:Int))=false from Qe (by omega),Qb]
    cases (decide (1≤l[i].Question)&&decide (l[i].Question≤20))<;>cases (decide (0≤l[i].Answer)&&decide (l[i].Answer≤99))<;>first|exact⟨true,rfl,rfl⟩|exact⟨false,rfl,rfl⟩)
  (by simp only[JT,Q6 (Qg _),Qb]) (by simp only[BF,Q6 (Qg _),Qb])
 exact⟨_,(D6 _ h1).1,(D6 _ h2).2⟩
def WB(l:List Qm)(hl:l.length≤2097152)(hm:∀x∈l,x.Marks.length≤1048576):∃b,A5 l=some b∧AP l=some b∧(b=true→l.length≤20∧∀i (h:i<l.length) (h0:0<i),(l[i-1]'(by omega)).Qo<l[i].Qo):=by
 obtain⟨b,h1,h2,h3⟩:=GK (n:=l.length) (r:=false) (s1:=JG l) (s2:=ZN l l (ln l)) (λi hi _=>by
   obtain⟨m,m1,m2⟩:=TN l[i].Marks (Nat.le_trans (hm _ (List.getElem_mem hi)) (by omega))
   simp only[JG,ZN,Q0 hi,QP hi,Q3 hi,Vg (show(i:Int)<9223372036854775807 by omega),Qc,QL,QR,QO,m1,m2,Qa]
   by_cases h0:0<i
   ·simp only[show decide (0<(i:Int))=true from Qf (by omega),Ds h0 (by omega),QP (show i-1<l.length by omega),Qc,QL]
    cases (decide (1≤l[i].Qo)&&decide (l[i].Qo≤999))<;>cases m<;>cases decide (ln l[i].Marks=0)<;>cases (decide (0≤l[i].Salt)&&decide (l[i].Salt≤1000000))<;>cases decide (l[i].Qo≤(gt l ((i-1:Nat):Int)).Qo)<;>first|exact⟨true,rfl,rfl⟩|exact⟨false,rfl,rfl⟩
   ·simp only[show decide (0<(i:Int))=false from Qe (by omega),Qb]
    cases (decide (1≤l[i].Qo)&&decide (l[i].Qo≤999))<;>cases m<;>cases decide (ln l[i].Marks=0)<;>cases (decide (0≤l[i].Salt)&&decide (l[i].Salt≤1000000))<;>first|exact⟨true,rfl,rfl⟩|exact⟨false,rfl,rfl⟩)
  (by simp only[JG,Q6 (Qg _),Qb]) (by simp only[ZN,Q6 (Qg _),Qb])
 refine⟨_,(D6 _ h1).1,(D6 _ h2).2,λhb=>?_⟩
 simp only[Bool.and_eq_true,decide_eq_true_eq]at hb;refine⟨by omega,λi hi h0=>?_⟩
 have hstep:=(h3 hb.1 i hi).1;obtain⟨m,m1,m2⟩:=TN l[i].Marks (Nat.le_trans (hm _ (List.getElem_mem hi)) (by omega))
 simp only[JG,Q0 hi,QP hi,Q3 hi,Qc,QL,QR,m1,Qa,show decide (0<(i:Int))=true from Qf (by omega),Ds h0 (by omega),QP (show i-1<l.length by omega),Q3 (show i-1<l.length by omega)]at hstep
 by_cases hlt:l[i].Qo≤(l[i-1]'(by omega)).Qo
 ·exfalso
  rw[Qf hlt]at hstep;revert hstep;cases (decide (1≤l[i].Qo)&&decide (l[i].Qo≤999))<;>cases m<;>cases decide (ln l[i].Marks=0)<;>cases (decide (0≤l[i].Salt)&&decide (l[i].Salt≤1000000))<;>simp
 ·omega
def P4(l:List Qm)(hl:l.length≤1048576)(hm:∀x∈l,x.Marks.length≤1048576):∃b,A5 l=some b∧AP l=some b:=by
 obtain⟨b,h1,h2,_⟩:=WB l (by omega) hm
 exact⟨b,h1,h2⟩
def Za{α:Type}(l:List α)(i:Nat):cut l 0 (i:Int)=l.take i:=by simp[cut]
def Md{i n:Nat}(h:i≤n):Ff 0 (i:Int) (n:Int)=true:=by unfold Ff;simp;omega
def DI(l:List Qr)(t:Int):Int:=match l.findIdx? (λx=>decide (x.Qo=t))with|some i=>(i:Int)|none=>-1
def LW(l:List Qr)(t:Int)(hl:l.length≤1048576):X7 l t=some (bif decide (t=0)then -1 else DI l t):=by
 have hi:=Jo l (λx=>decide (x.Qo=t)) (λi=>(i:Int)) (step:=Vy l t (ln l))
  (λi hi=>by
   simp only[Vy,GS,Qa,Q0 hi,QP hi,Q3 hi,Vg (show(i:Int)<9223372036854775807 by omega),Qc,QL]
   cases decide (l[i].Qo=t)<;>rfl)
  (by simp only[Vy,Q6 (Qg _),Qb])
 unfold X7 Xq DI;rw[hi];cases decide (t=0)with
 |true=>rfl
 |false=>cases l.findIdx? (λx=>decide (x.Qo=t))<;>rfl
def Io(l:List Qr)(t:Int):(l.any (λx=>decide (x.Qo=t))=false∧DI l t=-1)∨∃k:Nat,∃hk:k<l.length,DI l t=(k:Int)∧l[k].Qo=t∧l.any (λx=>decide (x.Qo=t))=true:=by
 unfold DI;cases hf:l.findIdx? (λx=>decide (x.Qo=t))with
 |none =>
  left;refine⟨?_,rfl⟩;rw[List.any_eq_false];intro y hy;have:=List.findIdx?_eq_none_iff.1 hf y hy;simpa using this
 |some i =>
  obtain⟨hi,hp⟩:=C6 hf;right;exact⟨i,hi,rfl,by simpa using hp,List.any_eq_true.2 ⟨_,List.getElem_mem hi,hp⟩⟩
def Qc9(l:List Qr)(t:Int)(hl:l.length≤1048576)(hid:∀x∈l,1≤x.Id):∃c,G3 l t=some c∧decide (c=0)=!(!decide (t=0)&&l.any (λx=>decide (x.Qo=t))):=by
 unfold G3;rw[LW l t hl];by_cases ht:t=0
 ·rw[Qf ht];exact⟨0,rfl,rfl⟩
 ·rw[Qe ht]
  simp only[Qb,Qa]
  rcases Io l t with⟨h1,h2⟩|⟨k,hk,h1,h2,h3⟩
  ·rw[h1,h2];exact⟨0,rfl,rfl⟩
  ·have hpos:=hid l[k] (List.getElem_mem hk)
   rw[h1,h3,Qe (show ¬(k:Int)<0 by omega),QP hk,Q3 hk]
   refine⟨l[k].Id,rfl,?_⟩;rw[Qe (by omega)];rfl
def LB(l:List Qr)(i:Nat)(hi:i<l.length)(hl:l.length≤1048576) :
  run (ZH l (i:Int)) 0=some (bif !decide (l[i].Qo=0)&&(l.take i).any (λx=>decide (x.Qo=l[i].Qo))then .ret false else .brk ()):=by
 have hlen:(l.take i).length=i:=by simp;omega
 have hr:=MB (l.take i) (λx=>!decide (l[i].Qo=0)&&decide (x.Qo=l[i].Qo)) (r:=false) (step:=ZH l (i:Int))
  (λk hk=>by
   rw[hlen]at hk;have hkl:k<l.length:=by omega
   have e:(l.take i)[k]'(by rw[hlen];exact hk)=l[k]:=by simp
   simp only[ZH,e,show decide ((k:Int)<(i:Int))=true from Qf (by omega),QP hi,Q3 hi,QP hkl,Q3 hkl,Vg (show(k:Int)<9223372036854775807 by omega),Qc,QL]
   cases decide (l[i].Qo=0)<;>cases decide (l[k].Qo=l[i].Qo)<;>rfl)
  (by rw[hlen];simp only[ZH,show decide ((i:Int)<(i:Int))=false from Qe (by omega),Qb])
 rw[hr];congr 1;cases decide (l[i].Qo=0)with
 |true =>
  have:(l.take i).any (λx=>!true&&decide (x.Qo=l[i].Qo))=false:=by rw[List.any_eq_false];simp
  rw[this];rfl
 |false=>simp
def UQ(l:List Qr)(hl:l.length≤1048576):∃b,Z9 l=some b∧Br l=some b∧(b=true→l.length≤30∧(∀x∈l,1≤x.Id)∧∀i (h:i<l.length) (h0:0<i),(l[i-1]'(by omega)).Id<l[i].Id):=by
 have idOf:∀i (hi:i<l.length),X9 l (i:Int)=some (.inl ((i+1:Nat):Int))→1≤l[i].Id:=by
  intro i hi hstep;by_cases h:1≤l[i].Id
  ·exact h
  ·exfalso
   have e:(decide (1≤l[i].Id)&&decide (l[i].Id≤99))=false:=by rw[Qe h];rfl
   simp only[X9,Q0 hi,QP hi,Q3 hi,Qc,QL,QR,Qa,e,Qi]at hstep;simp at hstep
 obtain⟨b,h1,h2,h3⟩:=GK (n:=l.length) (r:=false) (s1:=X9 l) (s2:=By l l (ln l)) (λi hi hpre=>by
   have hids:∀x∈l.take i,1≤x.Id:=by
    intro x hx;obtain⟨k,hk,rfl⟩:=List.getElem_of_mem hx;have hk':k<i:=by simp at hk;omega
    simp only[List.getElem_take];exact idOf k (by omega) (hpre k hk')
   obtain⟨c,c1,c2⟩:=Qc9 (l.take i) l[i].Qo (by simp;omega) hids
   have hsl:Ff 0 (i:Int) (ln l)=true:=Md (by omega)
   simp only[X9,By,Q0 hi,QP hi,Q3 hi,Vg (show(i:Int)<9223372036854775807 by omega),Qc,QL,QR,QO,Qa,LB l i hi hl,Za,c1,c2,hsl]
   generalize (!decide (l[i].Qo=0)&&(l.take i).any (λx=>decide (x.Qo=l[i].Qo)))=q
   by_cases h0:0<i
   ·simp only[show decide (0<(i:Int))=true from Qf (by omega),Ds h0 (by omega),QP (show i-1<l.length by omega),Qc,QL]
    cases (decide (1≤l[i].Id)&&decide (l[i].Id≤99))<;>cases (decide (1≤l[i].Size)&&decide (l[i].Size≤50))<;>cases (decide (0≤l[i].Qo)&&decide (l[i].Qo≤999))<;>cases decide (l[i].Id≤(gt l ((i-1:Nat):Int)).Id)<;>cases q<;>first|exact⟨true,rfl,rfl⟩|exact⟨false,rfl,rfl⟩
   ·simp only[show decide (0<(i:Int))=false from Qe (by omega),Qb]
    cases (decide (1≤l[i].Id)&&decide (l[i].Id≤99))<;>cases (decide (1≤l[i].Size)&&decide (l[i].Size≤50))<;>cases (decide (0≤l[i].Qo)&&decide (l[i].Qo≤999))<;>cases q<;>first|exact⟨true,rfl,rfl⟩|exact⟨false,rfl,rfl⟩)
  (by simp only[X9,Q6 (Qg _),Qb]) (by simp only[By,Q6 (Qg _),Qb])
 refine⟨b&&decide ((l.length:Int)≤30),(D6 _ h1).1,(D6 _ h2).2,λhb=>?_⟩
 simp only[Bool.and_eq_true,decide_eq_true_eq]at hb;refine⟨by omega,λx hx=>?_,λi hi h0=>?_⟩
 ·obtain⟨k,hk,rfl⟩:=List.getElem_of_mem hx
  exact idOf k hk (h3 hb.1 k hk).1
 ·have hstep:=(h3 hb.1 i hi).1
  simp only[X9,Q0 hi,QP hi,Q3 hi,Qc,QL,QR,LB l i hi hl,Qa,show decide (0<(i:Int))=true from Qf (by omega),Ds h0 (by omega),QP (show i-1<l.length by omega),Q3 (show i-1<l.length by omega)]at hstep
  by_cases hlt:l[i].Id≤(l[i-1]'(by omega)).Id
  ·exfalso
   rw[Qf hlt]at hstep;revert hstep;cases (decide (1≤l[i].Id)&&decide (l[i].Id≤99))<;>cases (decide (1≤l[i].Size)&&decide (l[i].Size≤50))<;>cases (decide (0≤l[i].Qo)&&decide (l[i].Qo≤999))<;>simp
  ·omega
def TA(l:List Qr)(hl:l.length≤1048576):∃b,Z9 l=some b∧Br l=some b∧(b=true→l.length≤30∧∀x∈l,1≤x.Id):=by
 obtain⟨b,h1,h2,h3⟩:=UQ l hl;exact⟨b,h1,h2,λh=>⟨(h3 h).1,(h3 h).2.1⟩⟩
def Km(x y:Qu):Bool:=decide (x.State=3)&&(decide (y.State=3)&&decide (y.Qo=x.Qo))
def Lc(l:List Qu)(i:Nat)(hi:i<l.length)(hl:l.length≤2097152) :
  run (Zf l (i:Int) l[i]) 0=some (bif (l.take i).any (Km l[i])then .ret false else .brk ()):=by
 have hlen:(l.take i).length=i:=by simp;omega
 exact MB (l.take i) (Km l[i]) (r:=false) (step:=Zf l (i:Int) l[i])
  (λk hk=>by
   rw[hlen]at hk;have hkl:k<l.length:=by omega
   have e:(l.take i)[k]'(by rw[hlen];exact hk)=l[k]:=by simp
   simp only[Zf,Km,e,show decide ((k:Int)<(i:Int))=true from Qf (by omega),QP hkl,Q3 hkl,Vg (show(k:Int)<9223372036854775807 by omega),Qc,QL]
   cases decide (l[i].State=3)<;>cases decide (l[k].State=3)<;>cases decide (l[k].Qo=l[i].Qo)<;>rfl)
  (by rw[hlen];simp only[Zf,show decide ((i:Int)<(i:Int))=false from Qe (by omega),Qb])
def TM(l t:List Qu)(x:Qu)(a b:Int)(p:List Qu)(hp:p.length≤2097152) :
  run (Zc l x t a b p (ln p)) 0=some (bif p.any (Km x)then .ret false else .brk ()):=by
 exact MB p (Km x) (r:=false) (step:=Zc l x t a b p (ln p))
  (λk hk=>by
   have hc:decide (x.Qo=p[k].Qo)=decide (p[k].Qo=x.Qo):=by rw[decide_eq_decide];exact eq_comm
   simp only[Zc,Km,Q0 hk,QP hk,Q3 hk,hc,Vg (show(k:Int)<9223372036854775807 by omega),Qc,QL]
   cases (decide (x.State=3)&&(decide (p[k].State=3)&&decide (p[k].Qo=x.Qo)))<;>rfl)
  (by simp only[Zc,Q6 (Qg _),Qb])
def RD(l:List Qu)(hl:l.length≤2097152):∃b,V5 l=some b∧Jr l=some b∧(b=true→l.length≤20∧∀i (h:i<l.length),0≤l[i].State∧l[i].State≤3):=by
 obtain⟨b,h1,h2,h3⟩:=GK (n:=l.length) (r:=false) (s1:=Xc l) (s2:=AJ l l (ln l)) (λi hi _=>by
   have hsl:Ff 0 (i:Int) (ln l)=true:=Md (by omega)
   simp only[Xc,AJ,Q0 hi,QP hi,Q3 hi,Vg (show(i:Int)<9223372036854775807 by omega),Qc,QL,QR,QO,Qa,Lc l i hi hl,Za,hsl,TM l l l[i] (ln l) (i:Int) (l.take i) (by simp;omega)]
   generalize (l.take i).any (Km l[i])=q;by_cases h0:0<i
   ·simp only[show decide (0<(i:Int))=true from Qf (by omega),Ds h0 (by omega),QP (show i-1<l.length by omega),Qc,QL]
    cases (decide (1≤l[i].Id)&&decide (l[i].Id≤999))<;>cases (decide (1≤l[i].QA)&&decide (l[i].QA≤999))<;>cases (decide (1≤l[i].Qo)&&decide (l[i].Qo≤999))<;>cases (decide (0≤l[i].At)&&decide (l[i].At≤100000))<;>cases (decide (0≤l[i].State)&&decide (l[i].State≤3))<;>cases decide (l[i].Id≤(gt l ((i-1:Nat):Int)).Id)<;>cases q<;>first|exact⟨true,rfl,rfl⟩|exact⟨false,rfl,rfl⟩
   ·simp only[show decide (0<(i:Int))=false from Qe (by omega),Qb]
    cases (decide (1≤l[i].Id)&&decide (l[i].Id≤999))<;>cases (decide (1≤l[i].QA)&&decide (l[i].QA≤999))<;>cases (decide (1≤l[i].Qo)&&decide (l[i].Qo≤999))<;>cases (decide (0≤l[i].At)&&decide (l[i].At≤100000))<;>cases (decide (0≤l[i].State)&&decide (l[i].State≤3))<;>cases q<;>first|exact⟨true,rfl,rfl⟩|exact⟨false,rfl,rfl⟩)
  (by simp only[Xc,Q6 (Qg _),Qb]) (by simp only[AJ,Q6 (Qg _),Qb])
 refine⟨b&&decide ((l.length:Int)≤20),(D6 _ h1).1,(D6 _ h2).2,λhb=>?_⟩
 simp only[Bool.and_eq_true,decide_eq_true_eq]at hb;refine⟨by omega,λi hi=>?_⟩
 have hstep:=(h3 hb.1 i hi).1;simp only[Xc,Q0 hi,QP hi,Q3 hi,Qc,QL,QR,Qa]at hstep;by_cases hst:(decide (0≤l[i].State)&&decide (l[i].State≤3))=true
 ·simpa using hst
 ·exfalso
  simp only[Bool.eq_false_iff.2 hst,Qi,Qc]at hstep;revert hstep;cases (decide (1≤l[i].Id)&&decide (l[i].Id≤999))<;>cases (decide (1≤l[i].QA)&&decide (l[i].QA≤999))<;>cases (decide (1≤l[i].Qo)&&decide (l[i].Qo≤999))<;>cases (decide (0≤l[i].At)&&decide (l[i].At≤100000))<;>simp
def Kj(l:List Qu)(hl:l.length≤1048576):∃b,V5 l=some b∧Jr l=some b∧(b=true→l.length≤20∧∀i (h:i<l.length),0≤l[i].State∧l[i].State≤3):=RD l (by omega)
def XG(l:List QB)(id:Int):Int:=match l.findIdx? (λx=>decide (x.Qo.Id=id))with|some i=>(i:Int)|none=>-1
def XX(l:List QB)(id:Int)(hl:l.length≤1048576):Xr l id=some (XG l id)∧XB l id=some (XG l id):=by
 have hs:=Jo l (λx=>decide (x.Qo.Id=id)) (λi=>(i:Int)) (step:=AH l id)
  (λi hi=>by
   simp only[AH,Q0 hi,QP hi,Q3 hi,Vg (show(i:Int)<9223372036854775807 by omega),Qc,QL]
   cases decide (l[i].Qo.Id=id)<;>rfl)
  (by simp only[AH,Q6 (Qg _),Qb])
 have hi:=Jo l (λx=>decide (x.Qo.Id=id)) (λi=>(i:Int)) (step:=Vs l id (ln l))
  (λi hi=>by
   simp only[Vs,F9,Qa,Q0 hi,QP hi,Q3 hi,Vg (show(i:Int)<9223372036854775807 by omega),Qc,QL]
   cases decide (l[i].Qo.Id=id)<;>rfl)
  (by simp only[Vs,Q6 (Qg _),Qb])
 unfold Xr XB Xj XG;rw[hs,hi];cases l.findIdx? (λx=>decide (x.Qo.Id=id))<;>exact⟨rfl,rfl⟩
def Mz(l:List Hand)(t:Int):∀(n j:Nat),Jj l t n=(j:Int)→j<n∧(gt l (j:Int)).Qo=t
 |0,j,h=>by unfold Jj at h;omega
 |n+1,j,h=>by
  unfold Jj at h
  split at h
  ·rename_i ht
   have:n=j:=by omega
   subst this;exact⟨by omega,ht⟩
  ·obtain⟨h1,h2⟩:=Mz l t n j h
   exact⟨by omega,h2⟩
def OD(l:List Hand)(t:Int):∀(n i:Nat),i<n→(gt l (i:Int)).Qo=t→∃j:Nat,j<n∧Jj l t n=(j:Int)
 |0,i,hi,_=>by omega
 |n+1,i,hi,ht=>by
  unfold Jj;by_cases hn:(gt l (n:Int)).Qo=t
  ·rw[if_pos hn];exact⟨n,by omega,rfl⟩
  ·rw[if_neg hn]
   have:i≠n:=λh=>by subst h;exact hn ht
   obtain⟨j,h1,h2⟩:=OD l t n i (by omega) ht
   exact⟨j,by omega,h2⟩
def hm(l:List Hand)(house t:Int):Bool:=decide ((gt l (Jj l t l.length)).Qx=2)&&decide ((gt l (Jj l t l.length)).QA=house)
def QsG(out:List Int)(x:Int)(hl:out.length≤1000000):∃out',BY out x=some out'∧out'.length≤out.length+1∧∀t,t∈out'↔t∈out∨t=x:=by
 have key:∀(m i:Nat),i+m=out.length→∃k:Nat,k≤out.length∧run (XL out x) (i:Int)=some (k:Int):=by
  intro m
  induction m with
  |zero =>
   intro i hi;have:i=out.length:=by omega
   subst this;exact⟨out.length,Qg _,by rw[Vk];simp only[XL,Q6 (Qg _),Qb,Qa]⟩
  |succ m ih =>
   intro i hi;have hlt:i<out.length:=by omega
   cases hc:decide (out[i]<x)with
   |false=>exact⟨i,by omega,by rw[Vk];simp only[XL,Q0 hlt,QP hlt,Q3 hlt,hc,Qc,Qb,QL,Qa]⟩
   |true =>
    obtain⟨k,k1,k2⟩:=ih (i+1) (by omega)
    refine⟨k,k1,?_⟩;rw[Vk];simp only[XL,Q0 hlt,QP hlt,Q3 hlt,hc,Qc,QL,Qa,Vg (show(i:Int)<9223372036854775807 by omega)]
    exact k2
 obtain⟨k,hk,hr⟩:=key out.length 0 (by omega)
 have hr':run (XL out x) 0=some (k:Int):=hr;have e1:cut out 0 (k:Int)=out.take k:=Za out k;have e2:cut out (k:Int) (ln out)=out.drop k:=by unfold cut;rw[Vp];simp
 have new:BY out x=some out∧x∈out∨BY out x=some (out.take k++[x]++out.drop k):=by
  have s1:Ff 0 (k:Int) (ln out)=true:=Md hk;have s2:Ff (k:Int) (ln out) (ln out)=true:=by unfold Ff;rw[Vp];simp;omega
  have put:(nd (Ff 0 (k:Int) (ln out))<|nd (Ff (k:Int) (ln out) (ln out))<|nd (rm (0+(cut out 0 (k:Int)).length) 8)<|nd (rm ((cut out 0 (k:Int)).length+1) 8)<|nd (rm ((cut out 0 (k:Int)).length+1+(cut out (k:Int) (ln out)).length) 8)<|some (((cut out 0 (k:Int))++[x])++(cut out (k:Int) (ln out))))=some (out.take k++[x]++out.drop k):=by
   rw[s1,s2,e1,e2,VU (by simp;omega) (by omega),VU (by simp;omega) (by omega),VU (by simp;omega) (by omega)]
   rfl
  unfold BY;rw[hr'];simp only[Qa];by_cases hlt:k<out.length
  ·rw[Q0 hlt,QP hlt,Q3 hlt]
   simp only[Qc,QL,Qa];by_cases hx:out[k]=x
   ·left
    rw[Qf hx,VU (show 0+out.length≤2000000 by omega) (by omega)]
    exact⟨rfl,by rw[←hx];exact List.getElem_mem hlt⟩
   ·right
    rw[Qe hx];exact put
  ·right
   rw[Q6 (show out.length≤k by omega)]
   exact put
 rcases new with⟨h1,h2⟩|h1
 ·exact⟨out,h1,by omega,λt=>⟨.inl,λh=>h.elim _root_.id λh=>by rw[h];exact h2⟩⟩
 ·refine⟨_,h1,by simp;omega,λt=>?_⟩
  have:t∈out↔t∈out.take k∨t∈out.drop k:=by
   conv=>lhs;rw[←List.take_append_drop k out]
   exact List.mem_append
  simp only[List.mem_append,List.mem_singleton];rw[this];constructor
  ·rintro((h|h)|h)
   ·exact .inl (.inl h)
   ·exact .inr h
   ·exact .inl (.inr h)
  ·rintro((h|h)|h)
   ·exact .inl (.inl h)
   ·exact .inr h
   ·exact .inl (.inr h)
def fJ(l:List Hand)(t:Int)(hl:l.length≤1048576):Bk l t=some (Jj l t l.length):=by
 have h:=fL l t l.length (Qg _) hl;rw[Za,List.take_length]at h;exact h
def ru(l:List Hand)(house:Int)(hl:l.length≤100)(c1:XT l=some true)(c2:XQ l=some true) :
  ∃r1 r2,Ga l house=some r1∧D8 l house=some r2∧(∀t,t∈r1↔t∈r2)∧r1.length≤100∧r2.length≤100:=by
 have hat:∀i,i<l.length→∃j:Nat,j<l.length∧Jj l (gt l (i:Int)).Qo l.length=(j:Int):=λi hi=>OD l _ l.length i hi rfl
 obtain⟨r1,a1,a2,a3⟩:=Om (n:=l.length) (step:=Cr l house) (fin:=λr=>r)
  (λi (out:List Int)=>out.length≤i∧∀t,t∈out↔(∃k,k<i∧(gt l (k:Int)).Qo=t)∧hm l house t=true)
  (λi out hi ⟨ho,hq⟩=>by
   obtain⟨j,hj,hj2⟩:=hat i hi;simp only[Cr,Q0 hi,c1,QP hi,Qc,QL,Qa,Vg (show(i:Int)<9223372036854775807 by omega)]
   rw[show ln l=((l.length:Nat):Int)from rfl,ib l _ l.length (Qg _) (by omega)]
   simp only[Qa];cases hb:hm l house (gt l (i:Int)).Qo with
   |true =>
    obtain⟨out',p1,p2,p3⟩:=QsG out (gt l (i:Int)).Qo (by omega)
    have hb':=hb;unfold hm at hb';rw[hj2]at hb' ⊢;rw[QP hj,hb'];simp only[QL,Qa,Qc,p1];refine⟨out',rfl,by omega,λt=>?_⟩
    rw[p3 t,hq t];constructor
    ·rintro(⟨⟨k,k1,k2⟩,h⟩|rfl)
     ·exact⟨⟨k,by omega,k2⟩,h⟩
     ·exact⟨⟨i,by omega,rfl⟩,hb⟩
    ·rintro⟨⟨k,k1,k2⟩,h⟩
     by_cases hki:k=i
     ·subst hki;exact .inr k2.symm
     ·exact .inl ⟨⟨k,by omega,k2⟩,h⟩
   |false =>
    have hb':=hb;unfold hm at hb';rw[hj2]at hb' ⊢;rw[QP hj,hb'];simp only[QL,Qa,Qb];refine⟨out,rfl,by omega,λt=>?_⟩
    rw[hq t];constructor
    ·rintro⟨⟨k,k1,k2⟩,h⟩
     exact⟨⟨k,by omega,k2⟩,h⟩
    ·rintro⟨⟨k,k1,k2⟩,h⟩
     by_cases hki:k=i
     ·subst hki;rw[k2,h]at hb;cases hb
     ·exact⟨⟨k,by omega,k2⟩,h⟩)
  (λout _=>by simp only[Cr,Q6 (Qg _),Qb,Qa]) [] ⟨by simp,λt=>by simp⟩
 obtain⟨r2,b1,b2,b3⟩:=Om (n:=l.length) (step:=Ce l house l (ln l)) (fin:=λr=>r)
  (λi (out:List Int)=>out.length≤i∧∀t,t∈out↔∃k:Nat,k<i∧(gt l (k:Int)).Qo=t∧Jj l t l.length=(k:Int)∧hm l house t=true)
  (λi out hi ⟨ho,hq⟩=>by
   simp only[Ce,Q0 hi,QP hi,Qc,QL,fJ l _ (show l.length≤1048576 by omega),Qa,Vg (show(i:Int)<9223372036854775807 by omega)]
   have hbv:(bif decide ((gt l (i:Int)).Qx=2)then(bif decide ((gt l (i:Int)).QA=house)then some (decide (Jj l (gt l (i:Int)).Qo l.length=(i:Int)))else some false)else some false)=some (decide (Jj l (gt l (i:Int)).Qo l.length=(i:Int))&&hm l house (gt l (i:Int)).Qo):=by
    by_cases he:Jj l (gt l (i:Int)).Qo l.length=(i:Int)
    ·unfold hm
     rw[he];cases decide ((gt l (i:Int)).Qx=2)<;>cases decide ((gt l (i:Int)).QA=house)<;>simp
    ·rw[Qe he]
     cases decide ((gt l (i:Int)).Qx=2)<;>cases decide ((gt l (i:Int)).QA=house)<;>rfl
   rw[hbv];simp only[Qa];cases hb:(decide (Jj l (gt l (i:Int)).Qo l.length=(i:Int))&&hm l house (gt l (i:Int)).Qo)with
   |true =>
    simp only[Bool.and_eq_true,decide_eq_true_eq]at hb;rw[VU (show out.length+1≤2000000 by omega) (by omega)]
    refine⟨out++[(gt l (i:Int)).Qo],rfl,by simp;omega,λt=>?_⟩
    simp only[List.mem_append,List.mem_singleton];rw[hq t];constructor
    ·rintro(⟨k,k1,k2⟩|rfl)
     ·exact⟨k,by omega,k2⟩
     ·exact⟨i,by omega,rfl,hb⟩
    ·rintro⟨k,k1,k2,k3⟩
     by_cases hki:k=i
     ·subst hki;exact .inr k2.symm
     ·exact .inl ⟨k,by omega,k2,k3⟩
   |false =>
    refine⟨out,rfl,by omega,λt=>?_⟩
    rw[hq t];constructor
    ·rintro⟨k,k1,k2⟩
     exact⟨k,by omega,k2⟩
    ·rintro⟨k,k1,k2,k3,k4⟩
     by_cases hki:k=i
     ·subst hki
      rw[k2,Qf k3,k4]at hb;cases hb
     ·exact⟨k,by omega,k2,k3,k4⟩)
  (λout _=>by simp only[Ce,Q6 (Qg _),Qb]) [] ⟨by simp,λt=>by simp⟩
 have hperm:(Al r2).Perm r2:=List.mergeSort_perm _ _;refine⟨r1,Al r2,?_,?_,λt=>?_,by omega,by rw[hperm.length_eq];omega⟩
 ·unfold Ga
  rw[a1];rfl
 ·unfold D8
  rw[c2];simp only[Qa,Qh,Qb];rw[b1];simp only[Qa];rw[Qf (by omega)];rfl
 ·rw[hperm.mem_iff,a3 t,b3 t]
  constructor
  ·rintro⟨⟨k,k1,k2⟩,h⟩
   obtain⟨j,j1,j2⟩:=OD l t l.length k k1 k2;exact⟨j,j1,(Mz l t l.length j j2).2,j2,h⟩
  ·rintro⟨k,k1,k2,k3,k4⟩
   exact⟨⟨k,k1,k2⟩,k4⟩
def QkM(l:List Int)(v:Int)(hl:l.length≤1048576):D5 l v=some (decide (v∈l)):=by
 have hr:=MB l (λx=>decide (x=v)) (r:=true) (step:=EV l v)
  (λi hi=>by
   simp only[EV,Q0 hi,QP hi,Q3 hi,Vg (show(i:Int)<9223372036854775807 by omega),Qc,QL]
   cases decide (l[i]=v)<;>rfl)
  (by simp only[EV,Q6 (Qg _),Qb])
 unfold D5;rw[hr];by_cases h:v∈l
 ·rw[Qf h,List.any_eq_true.2 ⟨v,h,by simp⟩];rfl
 ·rw[Qe h,List.any_eq_false.2 (λx hx=>by simp;rintro rfl;exact h hx)];rfl
def QhC(l:List Int)(v:Int)(hl:l.length≤1048576):Jg l v=some (decide (v∈l)):=by
 have hi:=Jo l (λx=>decide (v=x)) (λi=>(i:Int)) (step:=Zr l v (ln l))
  (λi hi=>by
   simp only[Zr,Q0 hi,QP hi,Q3 hi,Vg (show(i:Int)<9223372036854775807 by omega),Qc,QL]
   cases decide (v=l[i])<;>rfl)
  (by simp only[Zr,Q6 (Qg _),Qb])
 unfold Jg FR;rw[hi];cases hf:l.findIdx? (λx=>decide (v=x))with
 |none =>
  have:¬v∈l:=λh=>by
   have:=List.findIdx?_eq_none_iff.1 hf v h;simp at this
  rw[Qe this];rfl
 |some i =>
  obtain⟨hi',hp⟩:=C6 hf;have:v∈l:=by
   have e:v=l[i]:=by simpa using hp
   rw[e];exact List.getElem_mem hi'
  rw[Qf this];show some (decide (0≤(i:Int)))=_;rw[Qf (by omega)]
def ro(l:List Qr)(t:Int)(hl:l.length≤1048576)(hid:∀x∈l,1≤x.Id):∃c,Zt l t=some c∧decide (c=0)=!(!decide (t=0)&&l.any (λx=>decide (x.Qo=t))):=by
 have hr:=Jo l (λx=>!decide (t=0)&&decide (x.Qo=t)) (λi=>(gt l (i:Int)).Id) (step:=J3 l t)
  (λi hi=>by
   simp only[J3,Q0 hi,QP hi,Q3 hi,Vg (show(i:Int)<9223372036854775807 by omega),Qc,QL]
   cases decide (t=0)<;>cases decide (l[i].Qo=t)<;>rfl)
  (by simp only[J3,Q6 (Qg _),Qb])
 unfold Zt;rw[hr];cases hf:l.findIdx? (λx=>!decide (t=0)&&decide (x.Qo=t))with
 |none =>
  refine⟨0,rfl,?_⟩;have:=List.findIdx?_eq_none_iff.1 hf;cases ht:decide (t=0)with
  |true=>rfl
  |false =>
   rw[ht]at this;have:l.any (λx=>decide (x.Qo=t))=false:=by
    rw[List.any_eq_false];intro x hx;have:=this x hx;simpa using this
   rw[this];rfl
 |some i =>
  obtain⟨hi',hp⟩:=C6 hf;refine⟨(gt l (i:Int)).Id,rfl,?_⟩;simp only[Bool.and_eq_true]at hp;rw[Q3 hi',Qe (by have:=hid l[i] (List.getElem_mem hi');omega),hp.1,List.any_eq_true.2 ⟨l[i],List.getElem_mem hi',hp.2⟩]
  rfl
def dt(x:Qp):∃b,DW x=some b∧Gd x=some b:=by
 have e:Gd x=DW x:=rfl;rw[e];unfold DW QR;simp only[Qa];cases (decide (1≤x.Qu)&&decide (x.Qu≤999))<;>cases (decide (0≤x.Right)&&decide (x.Right≤100))<;>exact⟨_,rfl,rfl⟩
def YM(l:List Qm)(t:Int)(hl:l.length≤1048576)(hm:∀x∈l,x.Marks.length≤1048576):∃m,CI l t=some m∧CD l t=some m∧m.length≤1048576:=by
 have hs:=Jo l (λx=>decide (x.Qo=t)) (λi=>(i:Int)) (step:=Cy l t)
  (λi hi=>by
   simp only[Cy,Q0 hi,QP hi,Q3 hi,Vg (show(i:Int)<9223372036854775807 by omega),Qc,QL]
   cases decide (l[i].Qo=t)<;>rfl)
  (by simp only[Cy,Q6 (Qg _),Qb])
 have hi:=Jo l (λx=>decide (x.Qo=t)) (λi=>(i:Int)) (step:=Vb l t (ln l))
  (λi hi=>by
   simp only[Vb,Ed,Qa,Q0 hi,QP hi,Q3 hi,Vg (show(i:Int)<9223372036854775807 by omega),Qc,QL]
   cases decide (l[i].Qo=t)<;>rfl)
  (by simp only[Vb,Q6 (Qg _),Qb])
 unfold CI CD Ki Bj VP;rw[hs,hi];cases hf:l.findIdx? (λx=>decide (x.Qo=t))with
 |none=>exact⟨[],rfl,rfl,by simp⟩
 |some i =>
  obtain⟨hi',_⟩:=C6 hf;have hmi:=hm l[i] (List.getElem_mem hi');refine⟨l[i].Marks,?_,?_,hmi⟩
  ·simp only[Qa,lA,show decide ((i:Int)<0)=false from Qe (by omega),Qb,QP hi',Q3 hi',QL,VU (show 0+l[i].Marks.length≤2000000 by omega) (show 16≤1024 by omega)]
  ·simp only[Qa,lA,show decide ((i:Int)<0)=false from Qe (by omega),Qb,QP hi',Q3 hi',QL,Jk,VU (show 0+l[i].Marks.length≤2000000 by omega) (show 16≤1024 by omega)]
def Mq(l:List Mark)(x:Qp)(hl:l.length≤1048576):∃c,A6 l x=some c∧AR l x=some c:=by
 obtain⟨b,b1,b2⟩:=dt x;obtain⟨m,m1,m2⟩:=TN l (by omega)
 have V9:HC l=F7 l:=by
  unfold HC F7 LS;by_cases h:ln l<3
  ·rw[Qf h,if_pos h];rfl
  ·rw[Qe h,if_neg h];rfl
 unfold A6 AR;rw[b1,b2,m1,m2,V9];unfold F7;cases b<;>cases m<;>cases decide (1<x.Wrong)<;>cases decide (0<ln l)<;>simp only[Qa,Qh,Qi,Qc,Qb,Bool.or_true,Bool.or_false,Bool.true_or,Bool.false_or] <;>
  first|exact⟨_,rfl,rfl⟩|(cases decide ((if ln l<3 then ln l else 3)≤x.Right)<;>exact⟨_,rfl,rfl⟩)
def Mh{α:Type}(l:List α)(hour:α→Int)(now:Int){step:Int×Int→Option ((Int×Int)⊕Int)}
  (h1:∀(i:Nat) (v:Int) (h:i<l.length),step (v,(i:Int))=some (.inl ((if v<hour l[i]then hour l[i]else v),((i+1:Nat):Int)))) (h2:∀v,step (v,(l.length:Int))=some (.inr v)) (v0:Int) :
  ∃v,run step (v0,0)=some v∧(v≤now↔v0≤now∧∀x∈l,hour x≤now):=by
 obtain⟨v,q1,q2⟩:=Om (n:=l.length) (step:=step) (fin:=λv=>v) (λi v=>v≤now↔v0≤now∧∀x∈l.take i,hour x≤now)
  (λi v hi hq=>by
   refine⟨_,h1 i v hi,?_⟩;rw[List.take_succ_eq_append_getElem hi];have:(∀x∈l.take i++[l[i]],hour x≤now)↔(∀x∈l.take i,hour x≤now)∧hour l[i]≤now:=by
    simp only[List.mem_append,List.mem_singleton];constructor
    ·intro h;exact⟨λx hx=>h x (.inl hx),h _ (.inr rfl)⟩
    ·rintro⟨h,h'⟩ x (hx|rfl)
     ·exact h x hx
     ·exact h'
   rw[this];constructor
   ·intro hv
    have h3:v≤now∧hour l[i]≤now:=by split at hv<;>omega
    exact⟨(hq.1 h3.1).1,(hq.1 h3.1).2,h3.2⟩
   ·rintro⟨a,b,c⟩
    have:=hq.2 ⟨a,b⟩
    split<;>omega) (λv _=>h2 v) v0 (by simp)
 exact⟨v,q1,by rw[List.take_length]at q2;exact q2⟩
def Qab(h:Ql)(now:Int)(m1:h.Qt.length≤1048576)(m2:h.Qv.length≤1048576)(m3:h.Qw.length≤1048576)(m4:h.Book.length≤1048576) :
  ∃v,IJ h=some v∧(v≤now↔-1≤now∧(∀x∈h.Qt,x.At≤now)∧(∀x∈h.Qv,x.At≤now)∧(∀x∈h.Qw,x.At≤now)∧∀x∈h.Book,x.At≤now):=by
 obtain⟨v1,a1,a2⟩:=Mh h.Qt (·.At) now (step:=Dc h h.Qt (ln h.Qt)) (λi v hi=>by simp only[Dc,Q0 hi,QP hi,Q3 hi,Vg (show(i:Int)<9223372036854775807 by omega),Qc,QL])
  (λv=>by simp only[Dc,Q6 (Qg _),Qb]) (-1)
 obtain⟨v2,b1,b2⟩:=Mh h.Qv (·.At) now (step:=DF h h.Qv (ln h.Qv)) (λi v hi=>by simp only[DF,Q0 hi,QP hi,Q3 hi,Vg (show(i:Int)<9223372036854775807 by omega),Qc,QL])
  (λv=>by simp only[DF,Q6 (Qg _),Qb]) v1
 obtain⟨v3,c1,c2⟩:=Mh h.Qw (·.At) now (step:=Cm h h.Qw (ln h.Qw)) (λi v hi=>by simp only[Cm,Q0 hi,QP hi,Q3 hi,Vg (show(i:Int)<9223372036854775807 by omega),Qc,QL])
  (λv=>by simp only[Cm,Q6 (Qg _),Qb]) v2
 obtain⟨v4,d1,d2⟩:=Mh h.Book (·.At) now (step:=Cb h.Book (ln h.Book)) (λi v hi=>by simp only[Cb,Q0 hi,QP hi,Q3 hi,Vg (show(i:Int)<9223372036854775807 by omega),Qc,QL])
  (λv=>by simp only[Cb,Q6 (Qg _),Qb]) v3
 refine⟨v4,?_,?_⟩
 ·unfold IJ
  rw[a1];simp only[Qa];rw[b1];simp only[Qa];rw[c1];simp only[Qa];rw[d1];rfl
 ·rw[d2,c2,b2,a2]
  simp only[and_assoc]
section
variable{ρ:Type}
def qa(q:Nat→Bool):Nat→Nat→Bool
 |_,0=>true
 |i,m+1=>q i&&qa q (i+1) m
def my{α:Type}[Inhabited α](l:List α)(f:α→Bool):∀(m i:Nat),i+m=l.length→qa (λi=>f (gt l (i:Int))) i m=(l.drop i).all f
 |0,i,h=>by
  have:i=l.length:=by omega
  subst this;rw[List.drop_length];rfl
 |m+1,i,h=>by
  have hlt:i<l.length:=by omega
  rw[qa,my l f m (i+1) (by omega),List.drop_eq_getElem_cons hlt,List.all_cons,Q3 hlt]
def lg{n:Nat}{r:ρ}{s1 s2:Int→Option (Int⊕(Fl ρ Unit))}(q:Nat→Bool)
  (h:∀i,i<n→∃b,s1 (i:Int)=some (bif b then .inl ((i+1:Nat):Int)else .inr (.ret r))∧s2 (i:Int)=some (bif b&&q i then .inl ((i+1:Nat):Int)else .inr (.ret r)))
  (e1:s1 (n:Int)=some (.inr (.brk ()))) (e2:s2 (n:Int)=some (.inr (.brk ()))) :
  ∃b,run s1 0=some (bif b then .brk ()else .ret r)∧run s2 0=some (bif b&&qa q 0 n then .brk ()else .ret r):=by
 have key:∀(m i:Nat),i+m=n→∃b,run s1 (i:Int)=some (bif b then .brk ()else .ret r)∧run s2 (i:Int)=some (bif b&&qa q i m then .brk ()else .ret r):=by
  intro m
  induction m with
  |zero =>
   intro i hi;have:i=n:=by omega
   subst this;exact⟨true,by rw[Vk,e1];rfl,by rw[Vk,e2];rfl⟩
  |succ m ih =>
   intro i hi;obtain⟨b,h1,h2⟩:=h i (by omega)
   cases b with
   |false=>exact⟨false,by rw[Vk,h1];rfl,by rw[Vk,h2];rfl⟩
   |true =>
    obtain⟨b',q1,q2⟩:=ih (i+1) (by omega)
    refine⟨b',by rw[Vk,h1];exact q1,?_⟩
    rw[Vk,h2,qa];cases q i with
    |false=>cases b'<;>rfl
    |true=>exact q2
 exact key n 0 (by omega)
end
def QcX{α:Type}{a b:List α}(p:α→Bool)(h:∀t,t∈a↔t∈b):a.all p=b.all p:=by
 rw[Bool.eq_iff_iff,List.all_eq_true,List.all_eq_true];exact⟨λh1 x hx=>h1 x ((h x).2 hx),λh1 x hx=>h1 x ((h x).1 hx)⟩
def Oz{α:Type}(l:List α)(hour:α→Int)(now:Int):l.all (λx=>!decide (now<hour x))=true↔∀x∈l,hour x≤now:=by
 rw[List.all_eq_true];constructor
 ·intro h x hx
  have:=h x hx;simp at this;exact this
 ·intro h x hx
  have:=h x hx;simp;exact this
def yc{α:Type}(l:List α)(hour:α→Int)(h:∀k (hk:k<l.length) (h0:0<k),hour (l[k-1]'(by omega))≤hour l[k])(now:Int)(hn:0<l.length) :
  (∀x∈l,hour x≤now)↔hour (l[l.length-1]'(by omega))≤now:=by
 have key:∀(d i:Nat) (hj:i+d<l.length),hour (l[i]'(by omega))≤hour l[i+d]:=by
  intro d
  induction d with
  |zero=>intro i hj;exact Int.le_refl _
  |succ d ih =>
   intro i hj;have h1:=ih i (by omega)
   have h2:=h (i+(d+1)) hj (by omega)
   have e:(l[i+(d+1)-1]'(by omega))=l[i+d]:=by congr 1
   rw[e]at h2;omega
 constructor
 ·intro hx;exact hx _ (List.getElem_mem _)
 ·intro hl x hx
  obtain⟨i,hi,rfl⟩:=List.getElem_of_mem hx;have:=key (l.length-1-i) i (by omega)
  have e:(l[i+(l.length-1-i)]'(by omega))=(l[l.length-1]'(by omega)):=by congr 1;omega
  rw[e]at this;omega
def kept(h:Ql)(m1:h.Qt.length≤1048576)(m3:h.Qs.length≤1048576)(m6:h.Qw.length≤100)(hf:∀i (hi:i<h.Qt.length),1≤h.Qt[i].Qo.Id)(hs:∀x∈h.Qs,1≤x.Id)
  (c1:XT h.Qw=some true) (c2:XQ h.Qw=some true) :
  ∃k,Bf h=some k∧DB h=some (k&&h.Qt.all (λx=>!decide (h.Now<x.At))):=by
 by_cases hlen:h.Qn.length=h.Qt.length
 ·have hd:(!decide (ln h.Qn=ln h.Qt))=false:=by rw[Vp,Vp,hlen];simp
  obtain⟨r1,r2,i1,i2,hmem,l1,l2⟩:=ru h.Qw h.No m6 c1 c2;unfold Bf DB;rw[hd,i1,i2];simp only[Qb,Qa];obtain⟨b,a1,a2⟩:=lg (n:=h.Qt.length) (r:=false) (s1:=Zv h r2 h.Qt (ln h.Qt)) (s2:=ZP h r1) (λi=>!decide (h.Now<(gt h.Qt (i:Int)).At)) (λi hi=>by
    have hi2:i<h.Qn.length:=by omega
    obtain⟨c,q1,q2⟩:=ro h.Qs h.Qt[i].Qo.Id m3 hs;have hid:=hf i hi;have hne:decide (h.Qt[i].Qo.Id=0)=false:=Qe (by omega)
    have hsame:decide (h.Qt[i].Qo.Id∈r1)=decide (h.Qt[i].Qo.Id∈r2):=by rw[decide_eq_decide];exact hmem _
    have hix:decide (0≤DI h.Qs h.Qt[i].Qo.Id)=h.Qs.any (λx=>decide (x.Qo=h.Qt[i].Qo.Id)):=by
     rcases Io h.Qs h.Qt[i].Qo.Id with⟨p1,p2⟩|⟨k,_,p1,_,p3⟩
     ·rw[p1,p2];rfl
     ·rw[p1,p3];exact Qf (by omega)
    rw[hne]at q2;simp only[Zv,ZP,Q0 hi,QP hi,Q3 hi,QP hi2,Q3 hi2,Vg (show(i:Int)<9223372036854775807 by omega),Qc,QL,q1,q2,LW h.Qs _ m3,hne,Qb,QkM r1 _ (by omega),QhC r2 _ (by omega),hsame,hix,Qa,Qi,Bool.true_and,Bool.not_not]
    cases decide (h.Qn[i].Qo=h.Qt[i].Qo.Id)<;>cases decide (h.Qs.any (λx=>decide (x.Qo=h.Qt[i].Qo.Id))=decide (h.Qt[i].Qo.Id∈r2))<;>cases decide (h.Now<h.Qt[i].At)<;>first|exact⟨true,rfl,rfl⟩|exact⟨false,rfl,rfl⟩)
   (by simp only[Zv,Q6 (Qg _),Qb]) (by simp only[ZP,Q6 (Qg _),Qb])
  have hqa:qa (λi=>!decide (h.Now<(gt h.Qt (i:Int)).At)) 0 h.Qt.length=h.Qt.all (λx=>!decide (h.Now<x.At)):=by
   have:=my h.Qt (λx=>!decide (h.Now<x.At)) h.Qt.length 0 (by omega)
   rw[this];rfl
  rw[hqa]at a2;have s3:=Ir h.Qs (λx=>decide (x.Qo=0)||!decide (XG h.Qt x.Qo<0)) (r:=false) (step:=ZJ h)
   (λi hi=>by
    simp only[ZJ,Q0 hi,QP hi,Q3 hi,Vg (show(i:Int)<9223372036854775807 by omega),Qc,QL,(XX h.Qt _ m1).1,Qa]
    cases decide (h.Qs[i].Qo=0)<;>cases decide (XG h.Qt h.Qs[i].Qo<0)<;>rfl)
   (by simp only[ZJ,Q6 (Qg _),Qb])
  have t3:=Ir h.Qs (λx=>decide (x.Qo=0)||!decide (XG h.Qt x.Qo<0)) (r:=false) (step:=Jb h r2 h.Qs (ln h.Qs))
   (λi hi=>by
    simp only[Jb,Q0 hi,QP hi,Q3 hi,Vg (show(i:Int)<9223372036854775807 by omega),Qc,QL,(XX h.Qt _ m1).2,Qa]
    cases decide (h.Qs[i].Qo=0)<;>cases decide (XG h.Qt h.Qs[i].Qo<0)<;>rfl)
   (by simp only[Jb,Q6 (Qg _),Qb])
  have s4:=Ir r1 (λt=>!decide (XG h.Qt t<0)) (r:=false) (step:=AA h r1)
   (λi hi=>by
    simp only[AA,Q0 hi,QP hi,Q3 hi,Vg (show(i:Int)<9223372036854775807 by omega),Qc,QL,(XX h.Qt _ m1).1,Qa]
    cases decide (XG h.Qt r1[i]<0)<;>rfl)
   (by simp only[AA,Q6 (Qg _),Qb])
  have t4:=Ir r2 (λt=>!decide (XG h.Qt t<0)) (r:=false) (step:=BA h r2 (ln r2))
   (λi hi=>by
    simp only[BA,Q0 hi,QP hi,Q3 hi,Vg (show(i:Int)<9223372036854775807 by omega),Qc,QL,(XX h.Qt _ m1).2,Qa]
    cases decide (XG h.Qt r2[i]<0)<;>rfl)
   (by simp only[BA,Q6 (Qg _),Qb])
  rw[QcX _ hmem]at s4;rw[a1,a2,s3,t3,s4,t4];generalize h.Qt.all (λx=>!decide (h.Now<x.At))=fa
  generalize h.Qs.all (λx=>decide (x.Qo=0)||!decide (XG h.Qt x.Qo<0))=sa
  generalize r2.all (λt=>!decide (XG h.Qt t<0))=ra
  cases b<;>cases fa<;>cases sa<;>cases ra<;>first|exact⟨true,rfl,rfl⟩|exact⟨false,rfl,rfl⟩
 ·have hd:(!decide (ln h.Qn=ln h.Qt))=true:=by rw[Vp,Vp];simp;omega
  unfold Bf DB;rw[hd];exact⟨false,rfl,rfl⟩
def wanted(s:Int)(h0:0≤s)(h1:s≤3):Q1 [0,1,2,1] s=true∧Hg s=some (gt ([0,1,2,1]:List Int) s):=by
 have:s=0∨s=1∨s=2∨s=3:=by omega
 rcases this with rfl|rfl|rfl|rfl<;>exact⟨rfl,rfl⟩
def trials(h:Ql)(m1:h.Qt.length≤1048576)(m2:h.Qn.length≤1048576)(mm:∀x∈h.Qn,x.Marks.length≤1048576)(m4:h.Qv.length≤1048576)(hst:∀i (hi:i<h.Qv.length),0≤h.Qv[i].State∧h.Qv[i].State≤3) :
  ∃k,XZ h=some k∧Dr h=some (k&&h.Qv.all (λx=>!decide (h.Now<x.At))):=by
 by_cases hlen:h.Qq.length=h.Qv.length
 ·have hd:(!decide (ln h.Qq=ln h.Qv))=false:=by rw[Vp,Vp,hlen];simp
  unfold XZ Dr;rw[hd];simp only[Qb];obtain⟨b,a1,a2⟩:=lg (n:=h.Qv.length) (r:=false) (s1:=V0 h h.Qv (ln h.Qv)) (s2:=Au h) (λi=>!decide (h.Now<(gt h.Qv (i:Int)).At)) (λi hi=>by
    have hi2:i<h.Qq.length:=by omega
    obtain⟨w1,w2⟩:=wanted h.Qv[i].State (hst i hi).1 (hst i hi).2;obtain⟨t,t1,t2⟩:=dt h.Qq[i];obtain⟨m,k1,k2,k3⟩:=YM h.Qn h.Qv[i].Qo m2 mm;obtain⟨c,s1,s2⟩:=Mq m h.Qq[i] k3;simp only[V0,Au,Q0 hi,QP hi,Q3 hi,QP hi2,Q3 hi2,Vg (show(i:Int)<9223372036854775807 by omega),Qc,QL,w1,w2,t1,t2,k1,k2,s1,s2,(XX h.Qt _ m1).1,(XX h.Qt _ m1).2,Qa]
    cases decide (XG h.Qt h.Qv[i].Qo<0)<;>cases decide (h.Qq[i].Qu=h.Qv[i].Id)<;>cases t<;>cases decide (c=gt [0,1,2,1] h.Qv[i].State)<;>cases decide (h.Now<h.Qv[i].At)<;>first|exact⟨true,rfl,rfl⟩|exact⟨false,rfl,rfl⟩)
   (by simp only[V0,Q6 (Qg _),Qb]) (by simp only[Au,Q6 (Qg _),Qb])
  have hqa:qa (λi=>!decide (h.Now<(gt h.Qv (i:Int)).At)) 0 h.Qv.length=h.Qv.all (λx=>!decide (h.Now<x.At)):=by
   have:=my h.Qv (λx=>!decide (h.Now<x.At)) h.Qv.length 0 (by omega)
   rw[this];rfl
  rw[hqa]at a2;rw[a1,a2];generalize h.Qv.all (λx=>!decide (h.Now<x.At))=fa
  cases b<;>cases fa<;>first|exact⟨true,rfl,rfl⟩|exact⟨false,rfl,rfl⟩
 ·have hd:(!decide (ln h.Qq=ln h.Qv))=true:=by rw[Vp,Vp];simp;omega
  unfold XZ Dr;rw[hd];exact⟨false,rfl,rfl⟩
def eM{α:Type}[Inhabited α](l:List α)(hour:α→Int)(hl:l.length≤1048576)(h:∀k (hk:k<l.length) (h0:0<k),hour (l[k-1]'(by omega))≤hour l[k])(now:Int){β:Type}(rest:Option Bool) :
  (bif decide (0<ln l)then nd (Q1 l (QU (ln l-1)))<|(bif decide (now<hour (gt l (QU (ln l-1))))then some true else rest)else rest)=(bif l.all (λx=>!decide (now<hour x))then rest else some true):=by
 by_cases hn:0<l.length
 ·have hlast:l.length-1<l.length:=by omega
  have e:QU (ln l-1)=((l.length-1:Nat):Int):=by rw[Vp,VD]<;>omega
  rw[Qf (show 0<ln l by rw[Vp];omega),e,QP hlast,Q3 hlast]
  simp only[Qc,QL];have hiff:=yc l hour h now hn;by_cases hlt:now<hour l[l.length-1]
  ·have:l.all (λx=>!decide (now<hour x))=false:=by
    rw[Bool.eq_false_iff];intro ha;have:=(Oz l hour now).1 ha _ (List.getElem_mem hlast);omega
   rw[Qf hlt,this];rfl
  ·have:l.all (λx=>!decide (now<hour x))=true:=(Oz l hour now).2 (hiff.2 (by omega))
   rw[Qe hlt,this];rfl
 ·have:l=[]:=by
   cases l with
   |nil=>rfl
   |cons x l=>simp at hn
  subst this;rfl
def gW(h:Ql)(hm:QX h):∃c,VV h=some c∧V8 h=some c:=by
 unfold QX at hm;obtain⟨m1,m2,m3,m4,m5,m6,m7⟩:=hm;have mm:∀x∈h.Qn,x.Marks.length≤1048576:=λx hx=>m2.2 x hx
 have m2':h.Qn.length≤1048576:=m2.1;obtain⟨f,f1,f2,f3⟩:=Sj h.Qt m1;obtain⟨s,s1,s2⟩:=P4 h.Qn m2' mm;obtain⟨t,t1,t2,t3⟩:=TA h.Qs m3;obtain⟨c,c1,c2,c3⟩:=Kj h.Qv m4;obtain⟨n,n1,n2,n3⟩:=YU h.Qw;obtain⟨e,e1,e2,e3⟩:=Rk h.Book m7;unfold VV V8;simp only[QR,QO,f1,f2,s1,s2,t1,t2,c1,c2,n1,n2,e1,e2,Qa];cases (decide (1≤h.No)&&decide (h.No≤9))with
 |false=>exact⟨false,rfl,rfl⟩
 |true =>
 cases f with
 |false=>exact⟨false,rfl,rfl⟩
 |true =>
 cases s with
 |false=>exact⟨false,rfl,rfl⟩
 |true =>
 cases t with
 |false=>exact⟨false,rfl,rfl⟩
 |true =>
 cases c with
 |false=>exact⟨false,rfl,rfl⟩
 |true =>
 cases n with
 |false=>exact⟨false,rfl,rfl⟩
 |true =>
 cases e with
 |false=>exact⟨false,rfl,rfl⟩
 |true =>
  obtain⟨k,k1,k2⟩:=kept h m1 m3 (n3 rfl).1 (f3 rfl).2 (t3 rfl).2 n1 n2;obtain⟨r,r1,r2⟩:=trials h m1 m2' mm m4 (c3 rfl).2;obtain⟨v,v1,v2⟩:=Qab h h.Now m1 m4 m6 m7;have hch:=eM h.Qw (·.At) m6 (λi hi h0=>((n3 rfl).2 i hi).2.2 h0) h.Now (β:=Unit)
  have hbk:=eM h.Book (·.At) m7 (λi hi h0=>(e3 rfl).2 i hi h0) h.Now (β:=Unit) (some false)
  have hb0:(bif decide (0<ln h.Book)then nd (Q1 h.Book (QU (ln h.Book-1)))<|some (decide (h.Now<(gt h.Book (QU (ln h.Book-1))).At))else some false)=(bif h.Book.all (λx=>!decide (h.Now<x.At))then some false else some true):=by
   rw[←hbk];cases decide (0<ln h.Book)with
   |false=>rfl
   |true =>
    cases Q1 h.Book (QU (ln h.Book-1))with
    |false=>rfl
    |true=>cases decide (h.Now<(gt h.Book (QU (ln h.Book-1))).At)<;>rfl
  simp only[k1,k2,r1,r2,v1,hb0,hch,Qa,Qh,Qb,Qc];have hv:decide (v≤h.Now)=(decide (-1≤h.Now)&&(h.Qt.all (λx=>!decide (h.Now<x.At))&&(h.Qv.all (λx=>!decide (h.Now<x.At))&&(h.Qw.all (λx=>!decide (h.Now<x.At))&&h.Book.all (λx=>!decide (h.Now<x.At)))))):=by
   rw[Bool.eq_iff_iff];simp only[Bool.and_eq_true,Oz h.Qt (·.At),Oz h.Qv (·.At),Oz h.Qw (·.At),Oz h.Book (·.At),decide_eq_true_eq]
   exact v2
  rw[hv];generalize h.Qt.all (λx=>!decide (h.Now<x.At))=a1
  generalize h.Qv.all (λx=>!decide (h.Now<x.At))=a2
  generalize h.Qw.all (λx=>!decide (h.Now<x.At))=a3
  generalize h.Book.all (λx=>!decide (h.Now<x.At))=a4
  cases hnow:(decide (0≤h.Now)&&decide (h.Now≤100000))with
  |false=>refine⟨false,rfl,?_⟩;cases k<;>cases r<;>cases decide (-1≤h.Now)<;>cases a1<;>cases a2<;>cases a3<;>cases a4<;>rfl
  |true =>
   have h1:decide (-1≤h.Now)=true:=by
    simp only[Bool.and_eq_true,decide_eq_true_eq]at hnow;exact Qf (by omega)
   rw[h1];cases k<;>cases r<;>cases a1<;>cases a2<;>cases a3<;>cases a4<;>first|exact⟨true,rfl,rfl⟩|exact⟨false,rfl,rfl⟩
structure HouseOk (h:Ql):Prop where
 no:1≤h.No∧h.No≤9
 now:0≤h.Now∧h.Now≤100000
 fS:J0 h.Qt=some true
 fI:Bo h.Qt=some true
 sS:A5 h.Qn=some true
 sI:AP h.Qn=some true
 tS:Z9 h.Qs=some true
 tI:Br h.Qs=some true
 cS:V5 h.Qv=some true
 cI:Jr h.Qv=some true
 nS:XT h.Qw=some true
 nI:XQ h.Qw=some true
 eS:Jz h.Book=some true
 eI:Jy h.Book=some true
 kept:Bf h=some true
 trials:XZ h=some true
 lateF:∀x∈h.Qt,x.At≤h.Now
 lateC:∀x∈h.Qv,x.At≤h.Now
 lateN:∀x∈h.Qw,x.At≤h.Now
 lateE:∀x∈h.Book,x.At≤h.Now
def p9(h:Ql)(hm:QX h)(ht:V8 h=some true):HouseOk h:=by
 obtain⟨m1,m2,m3,m4,m5,m6,m7⟩:=hm;obtain⟨f,f1,f2,f3⟩:=Sj h.Qt m1;obtain⟨s,s1,s2⟩:=P4 h.Qn m2.1 (λx hx=>m2.2 x hx)
 obtain⟨t,t1,t2,t3⟩:=TA h.Qs m3;obtain⟨c,c1,c2,c3⟩:=Kj h.Qv m4;obtain⟨n,n1,n2,n3⟩:=YU h.Qw;obtain⟨e,e1,e2,e3⟩:=Rk h.Book m7;unfold V8 at ht;simp only[QO,f2,s2,t2,c2,n2,e2,Qa]at ht;cases hN:(decide (1≤h.No)&&decide (h.No≤9))with
 |false=>rw[hN]at ht;cases ht
 |true =>
 rw[hN]at ht;cases f with
 |false=>cases ht
 |true =>
 cases s with
 |false=>cases ht
 |true =>
 cases t with
 |false=>cases ht
 |true =>
 cases c with
 |false=>cases ht
 |true =>
 cases n with
 |false=>cases ht
 |true =>
 cases e with
 |false=>cases ht
 |true =>
 obtain⟨k,k1,k2⟩:=kept h m1 m3 (n3 rfl).1 (f3 rfl).2 (t3 rfl).2 n1 n2;obtain⟨r,r1,r2⟩:=trials h m1 m2.1 (λx hx=>m2.2 x hx) m4 (c3 rfl).2
 obtain⟨v,v1,v2⟩:=Qab h h.Now m1 m4 m6 m7;simp only[k1,r1,v1,Qc,Qa]at ht;cases k with
 |false=>cases ht
 |true =>
 cases r with
 |false=>cases ht
 |true =>
 simp only[Qc,Qa]at ht;cases hv:decide (v≤h.Now)with
 |false=>rw[hv]at ht;cases ht
 |true =>
 rw[hv]at ht;have hv':v≤h.Now:=of_decide_eq_true hv;obtain⟨g0,g1,g2,g3,g4⟩:=v2.1 hv';simp only[Qc,Qa,Option.some.injEq,Bool.and_eq_true,decide_eq_true_eq]at ht hN;exact⟨hN,ht,f1,f2,s1,s2,t1,t2,c1,c2,n1,n2,e1,e2,k1,r1,g1,g2,g3,g4⟩
def SW(l:List Qm)(hl:tX JU l):Jw l=some l:=by
 have hlen:=hl.1;have h1:=J2 (step:=A4 l) (λi=>(l.take i,(i:Int))) (r:=l) l.length (λi hi=>by
   have hm:l[i].Marks.length≤1048576:=hl.2 _ (List.getElem_mem hi);have hr1:rm l[i].Marks.length 16=true:=VU (by omega) (by omega)
   have hr2:rm ((l.take i).length+1) 40=true:=VU (by rw[List.length_take];omega) (by omega)
   simp only[A4,Q0 hi,QP hi,Q3 hi,hr1,hr2,Qc,QL,Vg (show(i:Int)<9223372036854775807 by omega)]
   rw[List.take_succ_eq_append_getElem hi])
  (by simp only[A4,Q6 (Qg _),Qb,List.take_length])
 unfold Jw;rw[show run (A4 l) ([],0)=_ from by simpa using h1];rfl
def Jx(h:Ql)(hm:QX h):Vm h=some h:=by
 obtain⟨m1,m2,m3,m4,m5,m6,m7⟩:=hm;unfold Vm;simp only[SW _ m2,VU (show h.Qt.length≤2000000 by omega) (show 64≤1024 by omega),VU (show h.Qs.length≤2000000 by omega) (show 24≤1024 by omega),VU (show h.Qv.length≤2000000 by omega) (show 40≤1024 by omega),
  VU (show h.Qq.length≤2000000 by omega) (show 32≤1024 by omega),VU (show h.Qw.length≤2000000 by omega) (show 40≤1024 by omega),VU (show h.Book.length≤2000000 by omega) (show 32≤1024 by omega),QL,Qa]
end Go.Proofs.YtkgadcbajihilaaGreatDoor
