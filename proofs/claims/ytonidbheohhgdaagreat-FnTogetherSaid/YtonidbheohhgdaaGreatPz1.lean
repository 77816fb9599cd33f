import Derived.Test.YtonidbheohhgdaaGreatFam
namespace Go.Proofs.YtonidbheohhgdaaGreat
open Go
set_option linter.unusedVariables false
set_option linter.unusedSimpArgs false
theorem Qkh(v:Int){m:Int}(hm:0<m):-m<v.tmod m∧v.tmod m<m:=by
 refine⟨?_,Int.tmod_lt_of_pos v hm⟩;have h:=Int.tmod_lt_of_pos (-v) hm;rw[Int.neg_tmod]at h;omega
theorem QrS(v:Int):Qck v 2147483647=Qcb v 2147483647:=by
 obtain⟨h1,h2⟩:=Qkh v (m:=2147483647) (by omega)
 unfold Qck Qcb Qc Qb;simp only[Option.bind_some,show(decide ((1:Int)≤2147483647)&&decide ((2147483647:Int)≤1000000000000))=true from rfl,Bool.not_true,cond_false,show(!decide ((2147483647:Int)=0))=true from rfl,Qa];generalize v.tmod 2147483647=t at h1 h2;rw[QS (by omega) (by omega)]
 by_cases ht:t<0
 ·rw[decide_eq_true ht,cond_true,Int.tmod_eq_of_lt (by omega) (by omega)]
 ·rw[decide_eq_false ht,cond_false,Int.tmod_eq_emod_of_nonneg (by omega)]
  congr 1;omega
theorem Qws(v:Int):∃c,Qcb v 2147483647=some c:=by
 unfold Qcb Qb;simp only[Option.bind_some,show(decide ((1:Int)≤2147483647)&&decide ((2147483647:Int)≤1000000000000))=true from rfl,Bool.not_true,cond_false,show(!decide ((2147483647:Int)=0))=true from rfl,Qa];cases decide (v.tmod 2147483647<0)<;>exact⟨_,rfl⟩
theorem Qon(l:List Int):Zp l=QbO l:=by
 have h:V6 l=Qcn l (ln l):=by
  funext ⟨d,i⟩;simp only[V6,Qcn,QgR,QrS];cases decide (i<ln l)with
  |false=>rfl
  |true =>
   cases inb l i with
   |false=>rfl
   |true =>
    simp only[cond_true,Qa];cases Qcb (gt l i) 2147483647<;>rfl
 unfold Zp QbO;rw[h]
theorem QjK(l:List Int)(hl:l.length≤1048576):∃c,Zp l=some c:=by
 unfold Zp;obtain⟨r,hr⟩:=QpR (step:=V6 l) (fun i s=>s.2=(i:Int)) l.length (fun i s hi hs=>by
   obtain⟨d,i'⟩:=s;simp only at hs;subst hs;obtain⟨c,hc⟩:=Qws (gt l (i:Int));refine .inr ⟨((w64 (w64 (w64 (d*1000003)+c)+13)).tmod 2147483647,w64 ((i:Int)+1)),by simp only[V6,Qr hi,Qe hi,QrS,hc,Option.bind_some,cond_true,Qa],?_⟩
   exact Qy (by omega)) (fun s hs=>by
   obtain⟨d,i'⟩:=s;simp only at hs;subst hs;exact⟨d,by simp only[V6,Qv (Nat.le_refl _),cond_false]⟩) l.length 0 (11,0) (by omega) rfl
 exact⟨r,by rw[hr];rfl⟩
theorem Qmj(s:Int)(x:Hand):∃c,JS s x=some c∧ZF s x=some c:=by
 obtain⟨c,hc⟩:=QjK [s,x.Thing,x.Holder,x.Who,x.At] (by simp)
 exact⟨c,by unfold JS;rw[hc];rfl,by unfold ZF;rw[←Qon,hc];rfl⟩
def Xf(l:List Hand)(t:Int):Nat→Int
 |0=>-1
 |n+1=>if(gt l (n:Int)).Thing=t then(n:Int)else Xf l t n
theorem QgL(l:List Hand)(t:Int):∀n,Xf l t n=-1∨∃j:Nat,j<n∧Xf l t n=(j:Int)
 |0=>.inl rfl
 |n+1=>by
  unfold Xf
  split
  ·exact .inr ⟨n,by omega,rfl⟩
  ·rcases QgL l t n with h|⟨j,h1,h2⟩
   ·exact .inl h
   ·exact .inr ⟨j,by omega,h2⟩
theorem QnW(l:List Hand)(t:Int)(n:Nat)(hn:n≤l.length)(hl:l.length≤1048576):Qa6 l t (n:Int)=some (Xf l t n):=by
 have hr:=Xt (step:=JA l t (n:Int)) (fun i=>(Xf l t i,(i:Int))) (r:=Xf l t n) n (fun i hi=>by
   simp only[JA,show decide ((i:Int)<(n:Int))=true from decide_eq_true (by omega),Qe (show i<l.length by omega),Qy (show(i:Int)<9223372036854775807 by omega),cond_true,Qa,Xf]
   by_cases ht:(gt l (i:Int)).Thing=t
   ·rw[decide_eq_true ht,if_pos ht];rfl
   ·rw[decide_eq_false ht,if_neg ht];rfl) (by
   simp only[JA,show decide ((n:Int)<(n:Int))=false from decide_eq_false (by omega),cond_false])
 unfold Qa6;rw[show run (JA l t (n:Int)) ((-1),0)=some (Xf l t n)from hr];rfl
theorem QDE{α:Type}[Inhabited α](l:List α)(n:Nat)(i:Nat)(h:i<n):gt (cut l 0 (n:Int)) (i:Int)=gt l (i:Int):=by
 unfold gt cut;simp[List.getD_eq_getElem?_getD,List.getElem?_take,h]
theorem QsI{α:Type}(l:List α)(n:Nat)(h:n≤l.length):(cut l 0 (n:Int)).length=n:=by
 unfold cut;simp;omega
theorem Qnz(l:List Hand)(t:Int)(n:Nat)(hn:n≤l.length)(hl:l.length≤1048576):Qbv (cut l 0 (n:Int)) t=some (Xf l t n):=by
 have key:∀j:Nat,j≤n→run (QcI (cut l 0 (n:Int)) t) ((j:Int)-1)=some (bif decide (Xf l t j<0)then .brk ()else .ret (Xf l t j)):=by
  intro j
  induction j with
  |zero=>intro _;rw[Qg];rfl
  |succ j ih =>
   intro hj;have hlt:j<(cut l 0 (n:Int)).length:=by rw[QsI l n hn];omega
   rw[show((j+1:Nat):Int)-1=(j:Int)by omega,Qg]
   simp only[QcI,show decide (0≤(j:Int))=true from decide_eq_true (by omega),Qe hlt,QDE l n j (by omega),cond_true,Qa]
   by_cases ht:(gt l (j:Int)).Thing=t
   ·have e:Xf l t (j+1)=(j:Int):=by unfold Xf;rw[if_pos ht]
    rw[decide_eq_true ht,e,decide_eq_false (show ¬(j:Int)<0 by omega)];rfl
   ·have e:Xf l t (j+1)=Xf l t j:=by rw[Xf,if_neg ht]
    rw[decide_eq_false ht,e,show w64 ((j:Int)-1)=(j:Int)-1 from QS (by omega) (by omega)]
    exact ih (by omega)
 unfold Qbv;rw[show w64 (ln (cut l 0 (n:Int))-1)=(n:Int)-1 from by rw[VE,QsI l n hn,QS]<;>omega,key n (Nat.le_refl _)]
 rcases QgL l t n with h|⟨j,_,h⟩
 ·rw[h];rfl
 ·rw[h,decide_eq_false (show ¬(j:Int)<0 by omega)];rfl
theorem Qjh(l:List Hand)(hl:l.length≤100)(s:Int)(k:Nat)(hk:k≤l.length):QC l (s,(k:Int))=Qaw l l (ln l) (s,(k:Int)):=by
 by_cases hlt:k<l.length
 ·obtain⟨c,hc1,hc2⟩:=Qmj s l[k]
  have e100:decide (ln l≤100)=true:=decide_eq_true (by rw[VE];omega)
  have hcut:slB 0 (k:Int) (ln l)=true:=by unfold slB;simp[VE];omega
  simp only[QC,Qaw,Qr hlt,e100,Qe hlt,Qn hlt,Bool.and_true,cond_true,Qa,hc1,hc2,Option.bind_some,Qc,Qb,hcut,QnW l _ k hk (by omega),Qnz l _ k hk (by omega),Qy (show(k:Int)<9223372036854775807 by omega)]
  have h3:∀h:Int,decide (3≤h)=decide (2<h):=fun h=>by rw[decide_eq_decide];omega
  have tail:∀(r:Int) (q:Int),(r=-1∨∃j:Nat,j<k∧r=(j:Int)) →
    ((bif (decide (r<0))then(bif (decide (2<l[k].Holder))then some true else(bif (decide (0≤r))then(bif (decide (l[k].Holder=1))then some true else nd (inb l r)<|some (decide (3≤(gt l r).Holder)))else some false))else(bif (decide (0≤r))then(bif (decide (l[k].Holder=1))then some true else nd (inb l r)<|some (decide (3≤(gt l r).Holder)))else some false)).bind fun b2=>(bif b2 then some (.inr (.ret false))else some (.inl (q,((k+1:Nat):Int))):Option ((Int×Int)⊕(Fl Bool Unit)))) =
    (bif (decide (r<0))then(bif (decide (2<l[k].Holder))then some (.inr (.ret false))else some (.inl (q,((k+1:Nat):Int))))else(bif (decide (l[k].Holder=1))then some true else nd (inb l r)<|some (decide (2<(gt l r).Holder))).bind fun b2=>(bif b2 then some (.inr (.ret false))else some (.inl (q,((k+1:Nat):Int))))):=by
   intro r q hr
   rcases hr with rfl|⟨j,hj,rfl⟩
   ·simp only[show decide ((-1:Int)<0)=true from rfl,show decide (0≤(-1:Int))=false from rfl,cond_true,cond_false]
    cases decide (2<l[k].Holder)<;>rfl
   ·simp only[show decide ((j:Int)<0)=false from decide_eq_false (by omega),show decide (0≤(j:Int))=true from decide_eq_true (by omega),cond_true,cond_false,Qe (show j<l.length by omega),Qa,h3]
  have ht:=QgL l l[k].Thing k;by_cases hq:l[k].Seal=c
  ·subst hq
   simp only[decide_true,Bool.not_true,cond_false];by_cases h0:0<k
   ·simp only[show decide (0<(k:Int))=true from decide_eq_true (by omega),show w64 ((k:Int)-1)=((k-1:Nat):Int)from by rw[QS]<;>omega,Qe (show k-1<l.length by omega),cond_true,Qa,Option.bind_some]
    cases (decide (1≤l[k].Thing)&&decide (l[k].Thing≤999))<;>cases (decide (1≤l[k].Holder)&&decide (l[k].Holder≤5))<;>cases (decide (0≤l[k].Who)&&decide (l[k].Who≤999))<;>cases (decide (0≤l[k].At)&&decide (l[k].At≤100000))<;>cases decide (l[k].At<(gt l ((k-1:Nat):Int)).At) <;>
     simp only[Bool.not_true,Bool.not_false,cond_true,cond_false,Option.bind_some]
    exact tail _ _ ht
   ·simp only[show decide (0<(k:Int))=false from decide_eq_false (by omega),cond_false,Option.bind_some]
    cases (decide (1≤l[k].Thing)&&decide (l[k].Thing≤999))<;>cases (decide (1≤l[k].Holder)&&decide (l[k].Holder≤5))<;>cases (decide (0≤l[k].Who)&&decide (l[k].Who≤999))<;>cases (decide (0≤l[k].At)&&decide (l[k].At≤100000)) <;>
     simp only[Bool.not_true,Bool.not_false,cond_true,cond_false,Option.bind_some]
    exact tail _ _ ht
  ·simp only[decide_eq_false hq,Bool.not_false,cond_true]
   by_cases h0:0<k
   ·simp only[show decide (0<(k:Int))=true from decide_eq_true (by omega),show w64 ((k:Int)-1)=((k-1:Nat):Int)from by rw[QS]<;>omega,Qe (show k-1<l.length by omega),cond_true,Qa,Option.bind_some]
    cases (decide (1≤l[k].Thing)&&decide (l[k].Thing≤999))<;>cases (decide (1≤l[k].Holder)&&decide (l[k].Holder≤5))<;>cases (decide (0≤l[k].Who)&&decide (l[k].Who≤999))<;>cases (decide (0≤l[k].At)&&decide (l[k].At≤100000))<;>cases decide (l[k].At<(gt l ((k-1:Nat):Int)).At) <;>
     simp only[Bool.not_true,Bool.not_false,cond_true,cond_false,Option.bind_some]
   ·simp only[show decide (0<(k:Int))=false from decide_eq_false (by omega),cond_false,Option.bind_some]
    cases (decide (1≤l[k].Thing)&&decide (l[k].Thing≤999))<;>cases (decide (1≤l[k].Holder)&&decide (l[k].Holder≤5))<;>cases (decide (0≤l[k].Who)&&decide (l[k].Who≤999))<;>cases (decide (0≤l[k].At)&&decide (l[k].At≤100000)) <;>
     simp only[Bool.not_true,Bool.not_false,cond_true,cond_false,Option.bind_some]
 ·have:k=l.length:=by omega
  subst this;simp only[QC,Qaw,Qv (Nat.le_refl _),Bool.false_and,cond_false]
theorem QcN(l:List Hand)(hl:l.length≤100)(s:Int)(k:Nat)(hlt:k<l.length) :
  QC l (s,(k:Int))=some (.inr (.ret false))∨(∃c,QC l (s,(k:Int))=some (.inl (c,((k+1:Nat):Int))))∧0≤l[k].At∧l[k].At≤100000∧∀(h:0<k),(l[k-1]'(by omega)).At≤l[k].At:=by
 obtain⟨c,hc1,hc2⟩:=Qmj s l[k];have e100:decide (ln l≤100)=true:=decide_eq_true (by rw[VE];omega)
 have ht:=QgL l l[k].Thing k;simp only[QC,Qr hlt,e100,Qe hlt,Qn hlt,Bool.and_true,cond_true,Qa,hc1,Option.bind_some,Qc,QnW l _ k (by omega) (by omega),Qy (show(k:Int)<9223372036854775807 by omega)]
 have tail:∀r:Int,(r=-1∨∃j:Nat,j<k∧r=(j:Int))→∃b,(bif (decide (r<0))then(bif (decide (2<l[k].Holder))then some true else(bif (decide (0≤r))then(bif (decide (l[k].Holder=1))then some true else nd (inb l r)<|some (decide (3≤(gt l r).Holder)))else some false))else(bif (decide (0≤r))then(bif (decide (l[k].Holder=1))then some true else nd (inb l r)<|some (decide (3≤(gt l r).Holder)))else some false))=some b:=by
  intro r hr
  rcases hr with rfl|⟨j,hj,rfl⟩
  ·simp only[show decide ((-1:Int)<0)=true from rfl,show decide (0≤(-1:Int))=false from rfl,cond_true,cond_false]
   cases decide (2<l[k].Holder)<;>exact⟨_,rfl⟩
  ·simp only[show decide ((j:Int)<0)=false from decide_eq_false (by omega),show decide (0≤(j:Int))=true from decide_eq_true (by omega),cond_true,cond_false,Qe (show j<l.length by omega),Qa]
   cases decide (l[k].Holder=1)<;>exact⟨_,rfl⟩
 obtain⟨b,hb⟩:=tail _ ht;simp only[hb,Option.bind_some];by_cases h1:(decide (1≤l[k].Thing)&&decide (l[k].Thing≤999))=false
 ·left;simp only[h1,Bool.not_true,Bool.not_false,cond_true,cond_false,Option.bind_some]
 rw[Bool.not_eq_false]at h1;by_cases h2:(decide (1≤l[k].Holder)&&decide (l[k].Holder≤5))=false
 ·left;simp only[h1,h2,Bool.not_true,Bool.not_false,cond_true,cond_false,Option.bind_some]
 rw[Bool.not_eq_false]at h2;by_cases h3:(decide (0≤l[k].Who)&&decide (l[k].Who≤999))=false
 ·left;simp only[h1,h2,h3,Bool.not_true,Bool.not_false,cond_true,cond_false,Option.bind_some]
 rw[Bool.not_eq_false]at h3;by_cases h4:(decide (0≤l[k].At)&&decide (l[k].At≤100000))=false
 ·left;simp only[h1,h2,h3,h4,Bool.not_true,Bool.not_false,cond_true,cond_false,Option.bind_some]
 rw[Bool.not_eq_false]at h4;simp only[h1,h2,h3,h4,Bool.not_true,cond_false,Option.bind_some];simp only[Bool.and_eq_true,decide_eq_true_eq]at h4;cases decide (l[k].Seal=c)with
 |false=>left;simp only[Bool.not_false,cond_true,Option.bind_some]
 |true =>
  simp only[Bool.not_true,cond_false];by_cases h0:0<k
  ·simp only[show decide (0<(k:Int))=true from decide_eq_true (by omega),show w64 ((k:Int)-1)=((k-1:Nat):Int)from by rw[QS]<;>omega,Qe (show k-1<l.length by omega),Qn (show k-1<l.length by omega),cond_true,Qa,Option.bind_some]
   by_cases h5:l[k].At<(l[k-1]'(by omega)).At
   ·left;rw[decide_eq_true h5];rfl
   ·rw[decide_eq_false h5]
    simp only[cond_false];cases b with
    |true=>left;rfl
    |false=>right;exact⟨⟨_,rfl⟩,h4.1,h4.2,fun _=>by omega⟩
  ·simp only[show decide (0<(k:Int))=false from decide_eq_false (by omega),cond_false,Option.bind_some]
   cases b with
   |true=>left;rfl
   |false=>right;exact⟨⟨_,rfl⟩,h4.1,h4.2,fun h=>absurd h h0⟩
theorem Qpz(l:List Hand)(hl:l.length≤100):run (QC l) (0,0)=some (.brk ())∨run (QC l) (0,0)=some (.ret false):=by
 have key:∀(m k:Nat) (s:Int),k+m=l.length→run (QC l) (s,(k:Int))=some (.brk ())∨run (QC l) (s,(k:Int))=some (.ret false):=by
  intro m
  induction m with
  |zero =>
   intro k s hk;have:k=l.length:=by omega
   subst this;left;rw[Qg];simp only[QC,Qv (Nat.le_refl _),Bool.false_and,cond_false,Option.bind_some]
  |succ m ih =>
   intro k s hk
   rcases QcN l hl s k (by omega)with h|⟨⟨c,h⟩,_⟩
   ·right;rw[Qg,h];rfl
   ·rw[Qg,h];exact ih (k+1) c (by omega)
 exact key l.length 0 0 (by omega)
theorem QnR(l:List Hand):∃b,Vv l=some b∧Xy l=some b ∧
  (b=true→l.length≤100∧∀k (h:k<l.length),0≤l[k].At∧l[k].At≤100000∧∀(h':0<k),(l[k-1]'(by omega)).At≤l[k].At):=by
 by_cases hl:l.length≤100
 ·have he:run (QC l) (0,0)=run (Qaw l l (ln l)) (0,0):=by
   refine Qu1 (fun s=>∃k:Nat,k≤l.length∧s.2=(k:Int)) (fun s ⟨k,hk,hs⟩=>?_) (fun s s' ⟨k,hk,hs⟩ hg=>?_) ⟨0,by omega,rfl⟩
   ·obtain⟨a,i⟩:=s
    simp only at hs;subst hs;exact Qjh l hl a k hk
   ·obtain⟨a,i⟩:=s
    simp only at hs;subst hs;rw[←Qjh l hl a k hk]at hg;by_cases hlt:k<l.length
    ·rcases QcN l hl a k hlt with h|⟨⟨c,h⟩,_⟩
     ·rw[h]at hg;simp at hg
     ·rw[h]at hg
      injection hg with hg;injection hg with hg;subst hg
      exact⟨k+1,by omega,rfl⟩
    ·have:k=l.length:=by omega
     subst this;simp only[QC,Qv (Nat.le_refl _),Bool.false_and,cond_false]at hg;simp at hg
  have e100:decide (ln l≤100)=true:=decide_eq_true (by rw[VE];omega)
  have e101:decide (100<ln l)=false:=decide_eq_false (by rw[VE];omega)
  unfold Vv Xy;rw[←he,e101]
  rcases Qpz l hl with h|h
  ·refine⟨true,by rw[h,e100];rfl,by rw[h];rfl,fun _=>⟨hl,fun k hk=>?_⟩⟩
   obtain⟨⟨s,i⟩,s',hs,hst⟩:=Qkm (step:=QC l) (fun i s=>s.2=(i:Int)) l.length () (fun i s hi hs=>by
    obtain⟨a,i'⟩:=s;simp only at hs;subst hs
    rcases QcN l hl a i hi with h|⟨⟨c,h⟩,_⟩
    ·exact .inl ⟨_,h⟩
    ·exact .inr ⟨_,h,rfl⟩) l.length 0 (0,0) (by omega) rfl h k (by omega) hk
   simp only at hs;subst hs
   rcases QcN l hl s k hk with h'|⟨_,h'⟩
   ·rw[h']at hst;simp at hst
   ·exact h'
  ·exact⟨false,by rw[h];rfl,by rw[h];rfl,fun h=>by cases h⟩
 ·refine⟨false,?_,?_,fun h=>by cases h⟩
  ·have e100:decide (ln l≤100)=false:=decide_eq_false (by rw[VE];omega)
   unfold Vv;rw[Qg];simp only[QC,e100,Bool.and_false,cond_false,Option.bind_some];rfl
  ·unfold Xy
   rw[show decide (100<ln l)=true from decide_eq_true (by rw[VE];omega)]
   rfl
end Go.Proofs.YtonidbheohhgdaaGreat
namespace Go.Proofs.YtonidbheohhgdaaGreat
open Go
set_option linter.unusedVariables false
set_option linter.unusedSimpArgs false
section
variable{ρ σ:Type}
theorem QaK{n:Nat}{r:ρ}{s1 s2:Int→Option (Int⊕(Fl ρ Unit))}
  (h:∀i,i<n→(∀j,j<i→s1 (j:Int)=some (.inl ((j+1:Nat):Int)))→∃b,s1 (i:Int)=some (bif b then .inr (.ret r)else .inl ((i+1:Nat):Int))∧s2 (i:Int)=some (bif b then .inr (.ret r)else .inl ((i+1:Nat):Int)))
  (e1:s1 (n:Int)=some (.inr (.brk ()))) (e2:s2 (n:Int)=some (.inr (.brk ()))) :
  ∃b,run s1 0=some (bif b then .brk ()else .ret r)∧run s2 0=some (bif b then .brk ()else .ret r)∧(b=true→∀i,i<n→s1 (i:Int)=some (.inl ((i+1:Nat):Int))∧s2 (i:Int)=some (.inl ((i+1:Nat):Int))):=by
 have key:∀(m i:Nat),i+m=n→(∀j,j<i→s1 (j:Int)=some (.inl ((j+1:Nat):Int)))→∃b,run s1 (i:Int)=some (bif b then .brk ()else .ret r)∧run s2 (i:Int)=some (bif b then .brk ()else .ret r)∧(b=true→∀j,i≤j→j<n→s1 (j:Int)=some (.inl ((j+1:Nat):Int))∧s2 (j:Int)=some (.inl ((j+1:Nat):Int))):=by
  intro m
  induction m with
  |zero =>
   intro i hi _;have:i=n:=by omega
   subst this;exact⟨true,by rw[Qg,e1];rfl,by rw[Qg,e2];rfl,fun _ j h1 h2=>by omega⟩
  |succ m ih =>
   intro i hi hpre;obtain⟨b,h1,h2⟩:=h i (by omega) hpre
   cases b with
   |true=>exact⟨false,by rw[Qg,h1];rfl,by rw[Qg,h2];rfl,fun h=>by cases h⟩
   |false =>
    obtain⟨b,q1,q2,q3⟩:=ih (i+1) (by omega) (fun j hj=>by
     by_cases hji:j=i
     ·subst hji;exact h1
     ·exact hpre j (by omega))
    refine⟨b,by rw[Qg,h1];exact q1,by rw[Qg,h2];exact q2,fun hb j hij hj=>?_⟩
    by_cases hji:i=j
    ·subst hji;exact⟨h1,h2⟩
    ·exact q3 hb j (by omega) hj
 obtain⟨b,q1,q2,q3⟩:=key n 0 (by omega) (fun j hj=>by omega)
 exact⟨b,q1,q2,fun hb i hi=>q3 hb i (by omega) hi⟩
theorem Qei{n:Nat}{step:σ×Int→Option ((σ×Int)⊕ρ)}{fin:σ→ρ}(Q:Nat→σ→Prop)
  (h1:∀i v,i<n→Q i v→∃v',step (v,(i:Int))=some (.inl (v',((i+1:Nat):Int)))∧Q (i+1) v') (h2:∀v,Q n v→step (v,(n:Int))=some (.inr (fin v))) :
  ∀v,Q 0 v→∃v',run step (v,0)=some (fin v')∧Q n v':=by
 have key:∀(m i:Nat) (v:σ),i+m=n→Q i v→∃v',run step (v,(i:Int))=some (fin v')∧Q n v':=by
  intro m
  induction m with
  |zero =>
   intro i v hi hq;have:i=n:=by omega
   subst this;exact⟨v,by rw[Qg,h2 v hq];rfl,hq⟩
  |succ m ih =>
   intro i v hi hq;obtain⟨v',q1,q2⟩:=h1 i v (by omega) hq
   rw[Qg,q1];exact ih (i+1) v' (by omega) q2
 intro v hv;exact key n 0 v (by omega) hv
end
theorem Qaj{n:Nat}{k:Int}{b:Bool}(x:Option (Fl Bool Unit))(hx:x=some (bif b then .brk ()else .ret false)) :
  x.bind (evO (fun r=>some r) fun _=>some (decide ((n:Int)≤k)))=some (b&&decide ((n:Int)≤k)) ∧
   (bif decide (k<(n:Int))then some false else x.bind (evO (fun r=>some r) fun _=>some true))=some (b&&decide ((n:Int)≤k)):=by
 subst hx;by_cases h:(n:Int)≤k
 ·rw[decide_eq_true h,decide_eq_false (show ¬k<(n:Int)by omega)]
  cases b<;>exact⟨rfl,rfl⟩
 ·rw[decide_eq_false h,decide_eq_true (show k<(n:Int)by omega)]
  cases b<;>exact⟨rfl,rfl⟩
theorem XX{i:Nat}(h0:0<i)(h:(i:Int)≤9223372036854775807):w64 ((i:Int)-1)=((i-1:Nat):Int):=by rw[QS]<;>omega
theorem Qkb(l:List Entry)(hl:l.length≤2097152):∃b,V5 l=some b∧Qaq l=some b ∧
  (b=true→l.length≤100∧∀i (h:i<l.length),∀(h':0<i),(l[i-1]'(by omega)).At≤l[i].At):=by
 obtain⟨b,h1,h2,h3⟩:=QaK (n:=l.length) (r:=false) (s1:=Xe l) (s2:=Qah l l (ln l)) (fun i hi _=>by
   simp only[Xe,Qah,Qr hi,Qe hi,Qn hi,Qy (show(i:Int)<9223372036854775807 by omega),cond_true,Qa,Qc,Qb,Option.bind_some]
   by_cases h0:0<i
   ·simp only[show decide (0<(i:Int))=true from decide_eq_true (by omega),XX h0 (by omega),Qe (show i-1<l.length by omega),cond_true,Qa]
    cases (decide (0≤l[i].From)&&decide (l[i].From≤999))<;>cases (decide (0≤l[i].To)&&decide (l[i].To≤999))<;>cases decide (l[i].From=l[i].To)<;>cases (decide (1≤l[i].Cents)&&decide (l[i].Cents≤10000000))<;>cases (decide (0≤l[i].At)&&decide (l[i].At≤100000))<;>cases decide (l[i].At<(gt l ((i-1:Nat):Int)).At)<;>first|exact⟨true,rfl,rfl⟩|exact⟨false,rfl,rfl⟩
   ·simp only[show decide (0<(i:Int))=false from decide_eq_false (by omega),cond_false]
    cases (decide (0≤l[i].From)&&decide (l[i].From≤999))<;>cases (decide (0≤l[i].To)&&decide (l[i].To≤999))<;>cases decide (l[i].From=l[i].To)<;>cases (decide (1≤l[i].Cents)&&decide (l[i].Cents≤10000000))<;>cases (decide (0≤l[i].At)&&decide (l[i].At≤100000))<;>first|exact⟨true,rfl,rfl⟩|exact⟨false,rfl,rfl⟩)
  (by simp only[Xe,Qv (Nat.le_refl _),cond_false]) (by simp only[Qah,Qv (Nat.le_refl _),cond_false])
 refine⟨b&&decide ((l.length:Int)≤100),(Qaj _ h1).1,(Qaj _ h2).2,fun hb=>?_⟩
 simp only[Bool.and_eq_true,decide_eq_true_eq]at hb;refine⟨by omega,fun i hi h0=>?_⟩
 have hstep:=(h3 hb.1 i hi).1;simp only[Xe,Qr hi,Qe hi,Qn hi,cond_true,Qa,Qc,Option.bind_some,show decide (0<(i:Int))=true from decide_eq_true (by omega),XX h0 (by omega),Qe (show i-1<l.length by omega),Qn (show i-1<l.length by omega)]at hstep
 by_cases hlt:l[i].At<(l[i-1]'(by omega)).At
 ·rw[decide_eq_true hlt]at hstep
  exfalso;revert hstep;cases (decide (0≤l[i].From)&&decide (l[i].From≤999))<;>cases (decide (0≤l[i].To)&&decide (l[i].To≤999))<;>cases decide (l[i].From=l[i].To)<;>cases (decide (1≤l[i].Cents)&&decide (l[i].Cents≤10000000))<;>cases (decide (0≤l[i].At)&&decide (l[i].At≤100000))<;>simp
 ·omega
theorem QlR(l:List Entry)(hl:l.length≤1048576):∃b,V5 l=some b∧Qaq l=some b ∧
  (b=true→l.length≤100∧∀i (h:i<l.length),∀(h':0<i),(l[i-1]'(by omega)).At≤l[i].At):=Qkb l (by omega)
end Go.Proofs.YtonidbheohhgdaaGreat
namespace Go.Proofs.YtonidbheohhgdaaGreat
open Go
set_option linter.unusedVariables false
set_option linter.unusedSimpArgs false
theorem Qi7(x:Thing):∃b,XB x=some b∧JK x=some b∧(b=true→1≤x.Id):=by
 have e:JK x=XB x:=rfl;rw[e];unfold XB Qc;simp only[Option.bind_some];cases h1:(decide (1≤x.Id)&&decide (x.Id≤999))with
 |false=>exact⟨false,rfl,rfl,fun h=>by cases h⟩
 |true =>
  have:1≤x.Id:=by simp only[Bool.and_eq_true,decide_eq_true_eq]at h1;exact h1.1
  cases (decide (1≤x.Kind)&&decide (x.Kind≤8))<;>cases (decide (0≤x.Colour)&&decide (x.Colour≤7))<;>cases (decide (1≤x.Size)&&decide (x.Size≤50))<;>exact⟨_,rfl,rfl,fun _=>this⟩
theorem Qdp(f:Find):∃b,Xk f=some b∧Xn f=some b∧(b=true→1≤f.Thing.Id):=by
 obtain⟨b,h1,h2,h3⟩:=Qi7 f.Thing;unfold Xk Xn Qc Qb;rw[h1,h2];simp only[Option.bind_some];cases b with
 |false=>exact⟨false,rfl,rfl,fun h=>by cases h⟩
 |true=>cases (decide (1≤f.Place)&&decide (f.Place≤30))<;>cases (decide (0≤f.At)&&decide (f.At≤100000))<;>exact⟨_,rfl,rfl,fun _=>h3 rfl⟩
theorem QgC(l:List Find)(hl:l.length≤2097152):∃b,V1 l=some b∧Q2 l=some b∧(b=true→l.length≤20∧(∀i (h:i<l.length),1≤l[i].Thing.Id)∧∀i (h:i<l.length) (h0:0<i),(l[i-1]'(by omega)).Thing.Id<l[i].Thing.Id):=by
 obtain⟨b,h1,h2,h3⟩:=QaK (n:=l.length) (r:=false) (s1:=QU l) (s2:=QD l l (ln l)) (fun i hi _=>by
   obtain⟨b,q1,q2,_⟩:=Qdp l[i];simp only[QU,QD,Qr hi,Qe hi,Qn hi,Qy (show(i:Int)<9223372036854775807 by omega),cond_true,Qa,q1,q2,Option.bind_some]
   by_cases h0:0<i
   ·simp only[show decide (0<(i:Int))=true from decide_eq_true (by omega),XX h0 (by omega),Qe (show i-1<l.length by omega),cond_true,Qa]
    cases b<;>cases decide (l[i].Thing.Id≤(gt l ((i-1:Nat):Int)).Thing.Id)<;>first|exact⟨true,rfl,rfl⟩|exact⟨false,rfl,rfl⟩
   ·simp only[show decide (0<(i:Int))=false from decide_eq_false (by omega),cond_false]
    cases b<;>first|exact⟨true,rfl,rfl⟩|exact⟨false,rfl,rfl⟩)
  (by simp only[QU,Qv (Nat.le_refl _),cond_false]) (by simp only[QD,Qv (Nat.le_refl _),cond_false])
 refine⟨b&&decide ((l.length:Int)≤20),(Qaj _ h1).1,(Qaj _ h2).2,fun hb=>?_⟩
 simp only[Bool.and_eq_true,decide_eq_true_eq]at hb;refine⟨by omega,fun i hi=>?_,fun i hi h0=>?_⟩
 ·have hstep:=(h3 hb.1 i hi).1
  obtain⟨c,q1,q2,q3⟩:=Qdp l[i];simp only[QU,Qr hi,Qe hi,Qn hi,cond_true,Qa,q1,Option.bind_some]at hstep;cases c with
  |true=>exact q3 rfl
  |false=>simp at hstep
 ·have hstep:=(h3 hb.1 i hi).1
  obtain⟨c,q1,q2,q3⟩:=Qdp l[i];simp only[QU,Qr hi,Qe hi,Qn hi,cond_true,Qa,q1,Option.bind_some,show decide (0<(i:Int))=true from decide_eq_true (by omega),XX h0 (by omega),Qe (show i-1<l.length by omega),Qn (show i-1<l.length by omega)]at hstep
  by_cases hlt:l[i].Thing.Id≤(l[i-1]'(by omega)).Thing.Id
  ·exfalso
   rw[decide_eq_true hlt]at hstep;cases c<;>simp at hstep
  ·omega
theorem QpM(l:List Find)(hl:l.length≤1048576):∃b,V1 l=some b∧Q2 l=some b∧(b=true→l.length≤20∧∀i (h:i<l.length),1≤l[i].Thing.Id):=by
 obtain⟨b,h1,h2,h3⟩:=QgC l (by omega)
 exact⟨b,h1,h2,fun h=>⟨(h3 h).1,(h3 h).2.1⟩⟩
theorem QiG(l:List Mark)(hl:l.length≤9223372036854775807):∃b,QaD l=some b∧Qbq l=some b:=by
 obtain⟨b,h1,h2,h3⟩:=QaK (n:=l.length) (r:=false) (s1:=JY l) (s2:=Qa8 l l (ln l)) (fun i hi _=>by
   simp only[JY,Qa8,Qr hi,Qe hi,Qn hi,Qy (show(i:Int)<9223372036854775807 by omega),cond_true,Qa,Qc,Qb,Option.bind_some]
   by_cases h0:0<i
   ·simp only[show decide (0<(i:Int))=true from decide_eq_true (by omega),XX h0 (by omega),Qe (show i-1<l.length by omega),cond_true,Qa]
    cases (decide (1≤l[i].Question)&&decide (l[i].Question≤20))<;>cases (decide (0≤l[i].Answer)&&decide (l[i].Answer≤99))<;>cases decide (l[i].Question≤(gt l ((i-1:Nat):Int)).Question)<;>first|exact⟨true,rfl,rfl⟩|exact⟨false,rfl,rfl⟩
   ·simp only[show decide (0<(i:Int))=false from decide_eq_false (by omega),cond_false]
    cases (decide (1≤l[i].Question)&&decide (l[i].Question≤20))<;>cases (decide (0≤l[i].Answer)&&decide (l[i].Answer≤99))<;>first|exact⟨true,rfl,rfl⟩|exact⟨false,rfl,rfl⟩)
  (by simp only[JY,Qv (Nat.le_refl _),cond_false]) (by simp only[Qa8,Qv (Nat.le_refl _),cond_false])
 exact⟨_,(Qaj _ h1).1,(Qaj _ h2).2⟩
theorem Qki(l:List Secret)(hl:l.length≤2097152)(hm:∀x∈l,x.Marks.length≤1048576):∃b,V7 l=some b∧Qas l=some b∧(b=true→l.length≤20∧∀i (h:i<l.length) (h0:0<i),(l[i-1]'(by omega)).Thing<l[i].Thing):=by
 obtain⟨b,h1,h2,h3⟩:=QaK (n:=l.length) (r:=false) (s1:=Xi l) (s2:=Qak l l (ln l)) (fun i hi _=>by
   obtain⟨m,m1,m2⟩:=QiG l[i].Marks (Nat.le_trans (hm _ (List.getElem_mem hi)) (by omega))
   simp only[Xi,Qak,Qr hi,Qe hi,Qn hi,Qy (show(i:Int)<9223372036854775807 by omega),cond_true,Qa,Qc,Qb,m1,m2,Option.bind_some]
   by_cases h0:0<i
   ·simp only[show decide (0<(i:Int))=true from decide_eq_true (by omega),XX h0 (by omega),Qe (show i-1<l.length by omega),cond_true,Qa]
    cases (decide (1≤l[i].Thing)&&decide (l[i].Thing≤999))<;>cases m<;>cases decide (ln l[i].Marks=0)<;>cases (decide (0≤l[i].Salt)&&decide (l[i].Salt≤1000000))<;>cases decide (l[i].Thing≤(gt l ((i-1:Nat):Int)).Thing)<;>first|exact⟨true,rfl,rfl⟩|exact⟨false,rfl,rfl⟩
   ·simp only[show decide (0<(i:Int))=false from decide_eq_false (by omega),cond_false]
    cases (decide (1≤l[i].Thing)&&decide (l[i].Thing≤999))<;>cases m<;>cases decide (ln l[i].Marks=0)<;>cases (decide (0≤l[i].Salt)&&decide (l[i].Salt≤1000000))<;>first|exact⟨true,rfl,rfl⟩|exact⟨false,rfl,rfl⟩)
  (by simp only[Xi,Qv (Nat.le_refl _),cond_false]) (by simp only[Qak,Qv (Nat.le_refl _),cond_false])
 refine⟨_,(Qaj _ h1).1,(Qaj _ h2).2,fun hb=>?_⟩
 simp only[Bool.and_eq_true,decide_eq_true_eq]at hb;refine⟨by omega,fun i hi h0=>?_⟩
 have hstep:=(h3 hb.1 i hi).1;obtain⟨m,m1,m2⟩:=QiG l[i].Marks (Nat.le_trans (hm _ (List.getElem_mem hi)) (by omega))
 simp only[Xi,Qr hi,Qe hi,Qn hi,cond_true,Qa,Qc,m1,Option.bind_some,show decide (0<(i:Int))=true from decide_eq_true (by omega),XX h0 (by omega),Qe (show i-1<l.length by omega),Qn (show i-1<l.length by omega)]at hstep
 by_cases hlt:l[i].Thing≤(l[i-1]'(by omega)).Thing
 ·exfalso
  rw[decide_eq_true hlt]at hstep;revert hstep;cases (decide (1≤l[i].Thing)&&decide (l[i].Thing≤999))<;>cases m<;>cases decide (ln l[i].Marks=0)<;>cases (decide (0≤l[i].Salt)&&decide (l[i].Salt≤1000000))<;>simp
 ·omega
theorem Qmv(l:List Secret)(hl:l.length≤1048576)(hm:∀x∈l,x.Marks.length≤1048576):∃b,V7 l=some b∧Qas l=some b:=by
 obtain⟨b,h1,h2,_⟩:=Qki l (by omega) hm
 exact⟨b,h1,h2⟩
end Go.Proofs.YtonidbheohhgdaaGreat
namespace Go.Proofs.YtonidbheohhgdaaGreat
open Go
set_option linter.unusedVariables false
set_option linter.unusedSimpArgs false
theorem Xx{α:Type}(l:List α)(i:Nat):cut l 0 (i:Int)=l.take i:=by simp[cut]
theorem Qfi{i n:Nat}(h:i≤n):slB 0 (i:Int) (n:Int)=true:=by unfold slB;simp;omega
def ZK(l:List Slot)(t:Int):Int:=match l.findIdx? (fun x=>decide (x.Thing=t))with|some i=>(i:Int)|none=>-1
theorem Qgf(l:List Slot)(t:Int)(hl:l.length≤1048576):VS l t=some (bif decide (t=0)then -1 else ZK l t):=by
 have hi:=XY l (fun x=>decide (x.Thing=t)) (fun i=>(i:Int)) (step:=Qx l t (ln l))
  (fun i hi=>by
   simp only[Qx,QbC,Option.bind_some,Qr hi,Qe hi,Qn hi,Qy (show(i:Int)<9223372036854775807 by omega),cond_true,Qa]
   cases decide (l[i].Thing=t)<;>rfl)
  (by simp only[Qx,Qv (Nat.le_refl _),cond_false])
 unfold VS Vd ZK;rw[hi];cases decide (t=0)with
 |true=>rfl
 |false=>cases l.findIdx? (fun x=>decide (x.Thing=t))<;>rfl
theorem QdP(l:List Slot)(t:Int):(l.any (fun x=>decide (x.Thing=t))=false∧ZK l t=-1)∨∃k:Nat,∃hk:k<l.length,ZK l t=(k:Int)∧l[k].Thing=t∧l.any (fun x=>decide (x.Thing=t))=true:=by
 unfold ZK;cases hf:l.findIdx? (fun x=>decide (x.Thing=t))with
 |none =>
  left;refine⟨?_,rfl⟩;rw[List.any_eq_false];intro y hy;have:=List.findIdx?_eq_none_iff.1 hf y hy;simpa using this
 |some i =>
  obtain⟨hi,hp⟩:=QaZ hf;right;exact⟨i,hi,rfl,by simpa using hp,List.any_eq_true.2 ⟨_,List.getElem_mem hi,hp⟩⟩
theorem QBm(l:List Slot)(t:Int)(hl:l.length≤1048576)(hid:∀x∈l,1≤x.Id):∃c,Qd4 l t=some c∧decide (c=0)=!(!decide (t=0)&&l.any (fun x=>decide (x.Thing=t))):=by
 unfold Qd4;rw[Qgf l t hl];by_cases ht:t=0
 ·rw[decide_eq_true ht];exact⟨0,rfl,rfl⟩
 ·rw[decide_eq_false ht]
  simp only[cond_false,Option.bind_some]
  rcases QdP l t with⟨h1,h2⟩|⟨k,hk,h1,h2,h3⟩
  ·rw[h1,h2];exact⟨0,rfl,rfl⟩
  ·have hpos:=hid l[k] (List.getElem_mem hk)
   rw[h1,h3,decide_eq_false (show ¬(k:Int)<0 by omega),Qe hk,Qn hk]
   refine⟨l[k].Id,rfl,?_⟩;rw[decide_eq_false (by omega)];rfl
theorem Qe5(l:List Slot)(i:Nat)(hi:i<l.length)(hl:l.length≤1048576) :
  run (Vo l (i:Int)) 0=some (bif (!decide (l[i].Thing=0)&&(l.take i).any (fun x=>decide (x.Thing=l[i].Thing)))then .ret false else .brk ()):=by
 have hlen:(l.take i).length=i:=by simp;omega
 have hr:=Qfq (l.take i) (fun x=>!decide (l[i].Thing=0)&&decide (x.Thing=l[i].Thing)) (r:=false) (step:=Vo l (i:Int))
  (fun k hk=>by
   rw[hlen]at hk;have hkl:k<l.length:=by omega
   have e:(l.take i)[k]'(by rw[hlen];exact hk)=l[k]:=by simp
   simp only[Vo,e,show decide ((k:Int)<(i:Int))=true from decide_eq_true (by omega),Qe hi,Qn hi,Qe hkl,Qn hkl,Qy (show(k:Int)<9223372036854775807 by omega),cond_true,Qa]
   cases decide (l[i].Thing=0)<;>cases decide (l[k].Thing=l[i].Thing)<;>rfl)
  (by rw[hlen];simp only[Vo,show decide ((i:Int)<(i:Int))=false from decide_eq_false (by omega),cond_false])
 rw[hr];congr 1;cases decide (l[i].Thing=0)with
 |true =>
  have:(l.take i).any (fun x=>!true&&decide (x.Thing=l[i].Thing))=false:=by rw[List.any_eq_false];simp
  rw[this];rfl
 |false=>simp
theorem Qj3(l:List Slot)(hl:l.length≤1048576):∃b,V2 l=some b∧Qaz l=some b∧(b=true→l.length≤30∧(∀x∈l,1≤x.Id)∧∀i (h:i<l.length) (h0:0<i),(l[i-1]'(by omega)).Id<l[i].Id):=by
 have idOf:∀i (hi:i<l.length),Q3 l (i:Int)=some (.inl ((i+1:Nat):Int))→1≤l[i].Id:=by
  intro i hi hstep;by_cases h:1≤l[i].Id
  ·exact h
  ·exfalso
   have e:(decide (1≤l[i].Id)&&decide (l[i].Id≤99))=false:=by rw[decide_eq_false h];rfl
   simp only[Q3,Qr hi,Qe hi,Qn hi,cond_true,Qa,Qc,Option.bind_some,e,Bool.not_false]at hstep;simp at hstep
 obtain⟨b,h1,h2,h3⟩:=QaK (n:=l.length) (r:=false) (s1:=Q3 l) (s2:=QaS l l (ln l)) (fun i hi hpre=>by
   have hids:∀x∈l.take i,1≤x.Id:=by
    intro x hx;obtain⟨k,hk,rfl⟩:=List.getElem_of_mem hx;have hk':k<i:=by simp at hk;omega
    simp only[List.getElem_take];exact idOf k (by omega) (hpre k hk')
   obtain⟨c,c1,c2⟩:=QBm (l.take i) l[i].Thing (by simp;omega) hids
   have hsl:slB 0 (i:Int) (ln l)=true:=Qfi (by omega)
   simp only[Q3,QaS,Qr hi,Qe hi,Qn hi,Qy (show(i:Int)<9223372036854775807 by omega),cond_true,Qa,Qc,Qb,Option.bind_some,Qe5 l i hi hl,Xx,c1,c2,hsl]
   generalize (!decide (l[i].Thing=0)&&(l.take i).any (fun x=>decide (x.Thing=l[i].Thing)))=q
   by_cases h0:0<i
   ·simp only[show decide (0<(i:Int))=true from decide_eq_true (by omega),XX h0 (by omega),Qe (show i-1<l.length by omega),cond_true,Qa]
    cases (decide (1≤l[i].Id)&&decide (l[i].Id≤99))<;>cases (decide (1≤l[i].Size)&&decide (l[i].Size≤50))<;>cases (decide (0≤l[i].Thing)&&decide (l[i].Thing≤999))<;>cases decide (l[i].Id≤(gt l ((i-1:Nat):Int)).Id)<;>cases q<;>first|exact⟨true,rfl,rfl⟩|exact⟨false,rfl,rfl⟩
   ·simp only[show decide (0<(i:Int))=false from decide_eq_false (by omega),cond_false]
    cases (decide (1≤l[i].Id)&&decide (l[i].Id≤99))<;>cases (decide (1≤l[i].Size)&&decide (l[i].Size≤50))<;>cases (decide (0≤l[i].Thing)&&decide (l[i].Thing≤999))<;>cases q<;>first|exact⟨true,rfl,rfl⟩|exact⟨false,rfl,rfl⟩)
  (by simp only[Q3,Qv (Nat.le_refl _),cond_false]) (by simp only[QaS,Qv (Nat.le_refl _),cond_false])
 refine⟨b&&decide ((l.length:Int)≤30),(Qaj _ h1).1,(Qaj _ h2).2,fun hb=>?_⟩
 simp only[Bool.and_eq_true,decide_eq_true_eq]at hb;refine⟨by omega,fun x hx=>?_,fun i hi h0=>?_⟩
 ·obtain⟨k,hk,rfl⟩:=List.getElem_of_mem hx
  exact idOf k hk (h3 hb.1 k hk).1
 ·have hstep:=(h3 hb.1 i hi).1
  simp only[Q3,Qr hi,Qe hi,Qn hi,cond_true,Qa,Qc,Qe5 l i hi hl,Option.bind_some,show decide (0<(i:Int))=true from decide_eq_true (by omega),XX h0 (by omega),Qe (show i-1<l.length by omega),Qn (show i-1<l.length by omega)]at hstep
  by_cases hlt:l[i].Id≤(l[i-1]'(by omega)).Id
  ·exfalso
   rw[decide_eq_true hlt]at hstep;revert hstep;cases (decide (1≤l[i].Id)&&decide (l[i].Id≤99))<;>cases (decide (1≤l[i].Size)&&decide (l[i].Size≤50))<;>cases (decide (0≤l[i].Thing)&&decide (l[i].Thing≤999))<;>simp
  ·omega
theorem QlL(l:List Slot)(hl:l.length≤1048576):∃b,V2 l=some b∧Qaz l=some b∧(b=true→l.length≤30∧∀x∈l,1≤x.Id):=by
 obtain⟨b,h1,h2,h3⟩:=Qj3 l hl;exact⟨b,h1,h2,fun h=>⟨(h3 h).1,(h3 h).2.1⟩⟩
def QdT(x y:Claim):Bool:=decide (x.State=3)&&(decide (y.State=3)&&decide (y.Thing=x.Thing))
theorem Qeg(l:List Claim)(i:Nat)(hi:i<l.length)(hl:l.length≤2097152) :
  run (Xw l (i:Int) l[i]) 0=some (bif (l.take i).any (QdT l[i])then .ret false else .brk ()):=by
 have hlen:(l.take i).length=i:=by simp;omega
 exact Qfq (l.take i) (QdT l[i]) (r:=false) (step:=Xw l (i:Int) l[i])
  (fun k hk=>by
   rw[hlen]at hk;have hkl:k<l.length:=by omega
   have e:(l.take i)[k]'(by rw[hlen];exact hk)=l[k]:=by simp
   simp only[Xw,QdT,e,show decide ((k:Int)<(i:Int))=true from decide_eq_true (by omega),Qe hkl,Qn hkl,Qy (show(k:Int)<9223372036854775807 by omega),cond_true,Qa]
   cases decide (l[i].State=3)<;>cases decide (l[k].State=3)<;>cases decide (l[k].Thing=l[i].Thing)<;>rfl)
  (by rw[hlen];simp only[Xw,show decide ((i:Int)<(i:Int))=false from decide_eq_false (by omega),cond_false])
theorem QiR(l t:List Claim)(x:Claim)(a b:Int)(p:List Claim)(hp:p.length≤2097152) :
  run (ZA l x t a b p (ln p)) 0=some (bif p.any (QdT x)then .ret false else .brk ()):=by
 exact Qfq p (QdT x) (r:=false) (step:=ZA l x t a b p (ln p))
  (fun k hk=>by
   have hc:decide (x.Thing=p[k].Thing)=decide (p[k].Thing=x.Thing):=by rw[decide_eq_decide];exact eq_comm
   simp only[ZA,QdT,Qr hk,Qe hk,Qn hk,hc,Qy (show(k:Int)<9223372036854775807 by omega),cond_true,Qa]
   cases (decide (x.State=3)&&(decide (p[k].State=3)&&decide (p[k].Thing=x.Thing)))<;>rfl)
  (by simp only[ZA,Qv (Nat.le_refl _),cond_false])
theorem Qhy(l:List Claim)(hl:l.length≤2097152):∃b,QF l=some b∧Jg l=some b∧(b=true→l.length≤20∧∀i (h:i<l.length),0≤l[i].State∧l[i].State≤3):=by
 obtain⟨b,h1,h2,h3⟩:=QaK (n:=l.length) (r:=false) (s1:=Q4 l) (s2:=QaI l l (ln l)) (fun i hi _=>by
   have hsl:slB 0 (i:Int) (ln l)=true:=Qfi (by omega)
   simp only[Q4,QaI,Qr hi,Qe hi,Qn hi,Qy (show(i:Int)<9223372036854775807 by omega),cond_true,Qa,Qc,Qb,Option.bind_some,Qeg l i hi hl,Xx,hsl,QiR l l l[i] (ln l) (i:Int) (l.take i) (by simp;omega)]
   generalize (l.take i).any (QdT l[i])=q;by_cases h0:0<i
   ·simp only[show decide (0<(i:Int))=true from decide_eq_true (by omega),XX h0 (by omega),Qe (show i-1<l.length by omega),cond_true,Qa]
    cases (decide (1≤l[i].Id)&&decide (l[i].Id≤999))<;>cases (decide (1≤l[i].Who)&&decide (l[i].Who≤999))<;>cases (decide (1≤l[i].Thing)&&decide (l[i].Thing≤999))<;>cases (decide (0≤l[i].At)&&decide (l[i].At≤100000))<;>cases (decide (0≤l[i].State)&&decide (l[i].State≤3))<;>cases decide (l[i].Id≤(gt l ((i-1:Nat):Int)).Id)<;>cases q<;>first|exact⟨true,rfl,rfl⟩|exact⟨false,rfl,rfl⟩
   ·simp only[show decide (0<(i:Int))=false from decide_eq_false (by omega),cond_false]
    cases (decide (1≤l[i].Id)&&decide (l[i].Id≤999))<;>cases (decide (1≤l[i].Who)&&decide (l[i].Who≤999))<;>cases (decide (1≤l[i].Thing)&&decide (l[i].Thing≤999))<;>cases (decide (0≤l[i].At)&&decide (l[i].At≤100000))<;>cases (decide (0≤l[i].State)&&decide (l[i].State≤3))<;>cases q<;>first|exact⟨true,rfl,rfl⟩|exact⟨false,rfl,rfl⟩)
  (by simp only[Q4,Qv (Nat.le_refl _),cond_false]) (by simp only[QaI,Qv (Nat.le_refl _),cond_false])
 refine⟨b&&decide ((l.length:Int)≤20),(Qaj _ h1).1,(Qaj _ h2).2,fun hb=>?_⟩
 simp only[Bool.and_eq_true,decide_eq_true_eq]at hb;refine⟨by omega,fun i hi=>?_⟩
 have hstep:=(h3 hb.1 i hi).1;simp only[Q4,Qr hi,Qe hi,Qn hi,cond_true,Qa,Qc,Option.bind_some]at hstep;by_cases hst:(decide (0≤l[i].State)&&decide (l[i].State≤3))=true
 ·simpa using hst
 ·exfalso
  simp only[Bool.eq_false_iff.2 hst,Bool.not_false,cond_true]at hstep;revert hstep;cases (decide (1≤l[i].Id)&&decide (l[i].Id≤999))<;>cases (decide (1≤l[i].Who)&&decide (l[i].Who≤999))<;>cases (decide (1≤l[i].Thing)&&decide (l[i].Thing≤999))<;>cases (decide (0≤l[i].At)&&decide (l[i].At≤100000))<;>simp
theorem QeV(l:List Claim)(hl:l.length≤1048576):∃b,QF l=some b∧Jg l=some b∧(b=true→l.length≤20∧∀i (h:i<l.length),0≤l[i].State∧l[i].State≤3):=Qhy l (by omega)
end Go.Proofs.YtonidbheohhgdaaGreat
namespace Go.Proofs.YtonidbheohhgdaaGreat
open Go
set_option linter.unusedVariables false
set_option linter.unusedSimpArgs false
def Zf(l:List Find)(id:Int):Int:=match l.findIdx? (fun x=>decide (x.Thing.Id=id))with|some i=>(i:Int)|none=>-1
theorem Jr(l:List Find)(id:Int)(hl:l.length≤1048576):VZ l id=some (Zf l id)∧Za l id=some (Zf l id):=by
 have hs:=XY l (fun x=>decide (x.Thing.Id=id)) (fun i=>(i:Int)) (step:=Jm l id)
  (fun i hi=>by
   simp only[Jm,Qr hi,Qe hi,Qn hi,Qy (show(i:Int)<9223372036854775807 by omega),cond_true,Qa]
   cases decide (l[i].Thing.Id=id)<;>rfl)
  (by simp only[Jm,Qv (Nat.le_refl _),cond_false])
 have hi:=XY l (fun x=>decide (x.Thing.Id=id)) (fun i=>(i:Int)) (step:=Q0 l id (ln l))
  (fun i hi=>by
   simp only[Q0,Qe2,Option.bind_some,Qr hi,Qe hi,Qn hi,Qy (show(i:Int)<9223372036854775807 by omega),cond_true,Qa]
   cases decide (l[i].Thing.Id=id)<;>rfl)
  (by simp only[Q0,Qv (Nat.le_refl _),cond_false])
 unfold VZ Za X5 Zf;rw[hs,hi];cases l.findIdx? (fun x=>decide (x.Thing.Id=id))<;>exact⟨rfl,rfl⟩
end Go.Proofs.YtonidbheohhgdaaGreat
namespace Go.Proofs.YtonidbheohhgdaaGreat
open Go
set_option linter.unusedVariables false
set_option linter.unusedSimpArgs false
theorem Qim(l:List Hand)(t:Int):∀(n j:Nat),Xf l t n=(j:Int)→j<n∧(gt l (j:Int)).Thing=t
 |0,j,h=>by unfold Xf at h;omega
 |n+1,j,h=>by
  unfold Xf at h
  split at h
  ·rename_i ht
   have:n=j:=by omega
   subst this;exact⟨by omega,ht⟩
  ·obtain⟨h1,h2⟩:=Qim l t n j h
   exact⟨by omega,h2⟩
theorem QjS(l:List Hand)(t:Int):∀(n i:Nat),i<n→(gt l (i:Int)).Thing=t→∃j:Nat,j<n∧Xf l t n=(j:Int)
 |0,i,hi,_=>by omega
 |n+1,i,hi,ht=>by
  unfold Xf;by_cases hn:(gt l (n:Int)).Thing=t
  ·rw[if_pos hn];exact⟨n,by omega,rfl⟩
  ·rw[if_neg hn]
   have:i≠n:=fun h=>by subst h;exact hn ht
   obtain⟨j,h1,h2⟩:=QjS l t n i (by omega) ht
   exact⟨j,by omega,h2⟩
def hm(l:List Hand)(house t:Int):Bool:=decide ((gt l (Xf l t l.length)).Holder=2)&&decide ((gt l (Xf l t l.length)).Who=house)
theorem QJ9(out:List Int)(x:Int)(hl:out.length≤1000000):∃out',QbF out x=some out'∧out'.length≤out.length+1∧∀t,t∈out'↔t∈out∨t=x:=by
 have key:∀(m i:Nat),i+m=out.length→∃k:Nat,k≤out.length∧run (JN out x) (i:Int)=some (k:Int):=by
  intro m
  induction m with
  |zero =>
   intro i hi;have:i=out.length:=by omega
   subst this;exact⟨out.length,Nat.le_refl _,by rw[Qg];simp only[JN,Qv (Nat.le_refl _),cond_false,Option.bind_some]⟩
  |succ m ih =>
   intro i hi;have hlt:i<out.length:=by omega
   cases hc:decide (out[i]<x)with
   |false=>exact⟨i,by omega,by rw[Qg];simp only[JN,Qr hlt,Qe hlt,Qn hlt,hc,cond_true,cond_false,Qa,Option.bind_some]⟩
   |true =>
    obtain⟨k,k1,k2⟩:=ih (i+1) (by omega)
    refine⟨k,k1,?_⟩;rw[Qg];simp only[JN,Qr hlt,Qe hlt,Qn hlt,hc,cond_true,Qa,Option.bind_some,Qy (show(i:Int)<9223372036854775807 by omega)]
    exact k2
 obtain⟨k,hk,hr⟩:=key out.length 0 (by omega)
 have hr':run (JN out x) 0=some (k:Int):=hr;have e1:cut out 0 (k:Int)=out.take k:=Xx out k;have e2:cut out (k:Int) (ln out)=out.drop k:=by unfold cut;rw[VE];simp
 have new:QbF out x=some out∧x∈out∨QbF out x=some (out.take k++[x]++out.drop k):=by
  have s1:slB 0 (k:Int) (ln out)=true:=Qfi hk;have s2:slB (k:Int) (ln out) (ln out)=true:=by unfold slB;rw[VE];simp;omega
  have put:(nd (slB 0 (k:Int) (ln out))<|nd (slB (k:Int) (ln out) (ln out))<|nd (rm (0+(cut out 0 (k:Int)).length) 8)<|nd (rm ((cut out 0 (k:Int)).length+1) 8)<|nd (rm ((cut out 0 (k:Int)).length+1+(cut out (k:Int) (ln out)).length) 8)<|some (((cut out 0 (k:Int))++[x])++(cut out (k:Int) (ln out))))=some (out.take k++[x]++out.drop k):=by
   rw[s1,s2,e1,e2,QR (by simp;omega) (by omega),QR (by simp;omega) (by omega),QR (by simp;omega) (by omega)]
   rfl
  unfold QbF;rw[hr'];simp only[Option.bind_some];by_cases hlt:k<out.length
  ·rw[Qr hlt,Qe hlt,Qn hlt]
   simp only[cond_true,Qa,Option.bind_some];by_cases hx:out[k]=x
   ·left
    rw[decide_eq_true hx,QR (show 0+out.length≤2000000 by omega) (by omega)]
    exact⟨rfl,by rw[←hx];exact List.getElem_mem hlt⟩
   ·right
    rw[decide_eq_false hx];exact put
  ·right
   rw[Qv (show out.length≤k by omega)]
   exact put
 rcases new with⟨h1,h2⟩|h1
 ·exact⟨out,h1,by omega,fun t=>⟨.inl,fun h=>h.elim _root_.id fun h=>by rw[h];exact h2⟩⟩
 ·refine⟨_,h1,by simp;omega,fun t=>?_⟩
  have:t∈out↔t∈out.take k∨t∈out.drop k:=by
   conv=>lhs;rw[←List.take_append_drop k out]
   exact List.mem_append
  simp only[List.mem_append,List.mem_singleton];rw[this];constructor
  ·rintro((h|h)|h)
   ·exact .inl (.inl h)
   ·exact .inr h
   ·exact .inl (.inr h)
  ·rintro((h|h)|h)
   ·exact .inl (.inl h)
   ·exact .inr h
   ·exact .inl (.inr h)
theorem Qu7(l:List Hand)(t:Int)(hl:l.length≤1048576):Qbv l t=some (Xf l t l.length):=by
 have h:=Qnz l t l.length (Nat.le_refl _) hl;rw[Xx,List.take_length]at h;exact h
theorem QzL(l:List Hand)(house:Int)(hl:l.length≤100)(c1:Vv l=some true)(c2:Xy l=some true) :
  ∃r1 r2,Qae l house=some r1∧Qfn l house=some r2∧(∀t,t∈r1↔t∈r2)∧r1.length≤100∧r2.length≤100:=by
 have hat:∀i,i<l.length→∃j:Nat,j<l.length∧Xf l (gt l (i:Int)).Thing l.length=(j:Int):=fun i hi=>QjS l _ l.length i hi rfl
 obtain⟨r1,a1,a2,a3⟩:=Qei (n:=l.length) (step:=Zo l house) (fin:=fun r=>r)
  (fun i (out:List Int)=>out.length≤i∧∀t,t∈out↔(∃k,k<i∧(gt l (k:Int)).Thing=t)∧hm l house t=true)
  (fun i out hi ⟨ho,hq⟩=>by
   obtain⟨j,hj,hj2⟩:=hat i hi;simp only[Zo,Qr hi,c1,Qe hi,cond_true,Qa,Option.bind_some,Qy (show(i:Int)<9223372036854775807 by omega)]
   rw[show ln l=((l.length:Nat):Int)from rfl,QnW l _ l.length (Nat.le_refl _) (by omega)]
   simp only[Option.bind_some];cases hb:hm l house (gt l (i:Int)).Thing with
   |true =>
    obtain⟨out',p1,p2,p3⟩:=QJ9 out (gt l (i:Int)).Thing (by omega)
    have hb':=hb;unfold hm at hb';rw[hj2]at hb' ⊢;rw[Qe hj,hb'];simp only[Qa,Option.bind_some,cond_true,p1];refine⟨out',rfl,by omega,fun t=>?_⟩
    rw[p3 t,hq t];constructor
    ·rintro(⟨⟨k,k1,k2⟩,h⟩|rfl)
     ·exact⟨⟨k,by omega,k2⟩,h⟩
     ·exact⟨⟨i,by omega,rfl⟩,hb⟩
    ·rintro⟨⟨k,k1,k2⟩,h⟩
     by_cases hki:k=i
     ·subst hki;exact .inr k2.symm
     ·exact .inl ⟨⟨k,by omega,k2⟩,h⟩
   |false =>
    have hb':=hb;unfold hm at hb';rw[hj2]at hb' ⊢;rw[Qe hj,hb'];simp only[Qa,Option.bind_some,cond_false];refine⟨out,rfl,by omega,fun t=>?_⟩
    rw[hq t];constructor
    ·rintro⟨⟨k,k1,k2⟩,h⟩
     exact⟨⟨k,by omega,k2⟩,h⟩
    ·rintro⟨⟨k,k1,k2⟩,h⟩
     by_cases hki:k=i
     ·subst hki;rw[k2,h]at hb;cases hb
     ·exact⟨⟨k,by omega,k2⟩,h⟩)
  (fun out _=>by simp only[Zo,Qv (Nat.le_refl _),cond_false,Option.bind_some]) [] ⟨by simp,fun t=>by simp⟩
 obtain⟨r2,b1,b2,b3⟩:=Qei (n:=l.length) (step:=Qbw l house l (ln l)) (fin:=fun r=>r)
  (fun i (out:List Int)=>out.length≤i∧∀t,t∈out↔∃k:Nat,k<i∧(gt l (k:Int)).Thing=t∧Xf l t l.length=(k:Int)∧hm l house t=true)
  (fun i out hi ⟨ho,hq⟩=>by
   simp only[Qbw,Qr hi,Qe hi,cond_true,Qa,Qu7 l _ (show l.length≤1048576 by omega),Option.bind_some,Qy (show(i:Int)<9223372036854775807 by omega)]
   have hbv:(bif decide ((gt l (i:Int)).Holder=2)then(bif decide ((gt l (i:Int)).Who=house)then some (decide (Xf l (gt l (i:Int)).Thing l.length=(i:Int)))else some false)else some false)=some (decide (Xf l (gt l (i:Int)).Thing l.length=(i:Int))&&hm l house (gt l (i:Int)).Thing):=by
    by_cases he:Xf l (gt l (i:Int)).Thing l.length=(i:Int)
    ·unfold hm
     rw[he];cases decide ((gt l (i:Int)).Holder=2)<;>cases decide ((gt l (i:Int)).Who=house)<;>simp
    ·rw[decide_eq_false he]
     cases decide ((gt l (i:Int)).Holder=2)<;>cases decide ((gt l (i:Int)).Who=house)<;>rfl
   rw[hbv];simp only[Option.bind_some];cases hb:(decide (Xf l (gt l (i:Int)).Thing l.length=(i:Int))&&hm l house (gt l (i:Int)).Thing)with
   |true =>
    simp only[Bool.and_eq_true,decide_eq_true_eq]at hb;rw[QR (show out.length+1≤2000000 by omega) (by omega)]
    refine⟨out++[(gt l (i:Int)).Thing],rfl,by simp;omega,fun t=>?_⟩
    simp only[List.mem_append,List.mem_singleton];rw[hq t];constructor
    ·rintro(⟨k,k1,k2⟩|rfl)
     ·exact⟨k,by omega,k2⟩
     ·exact⟨i,by omega,rfl,hb⟩
    ·rintro⟨k,k1,k2,k3⟩
     by_cases hki:k=i
     ·subst hki;exact .inr k2.symm
     ·exact .inl ⟨k,by omega,k2,k3⟩
   |false =>
    refine⟨out,rfl,by omega,fun t=>?_⟩
    rw[hq t];constructor
    ·rintro⟨k,k1,k2⟩
     exact⟨k,by omega,k2⟩
    ·rintro⟨k,k1,k2,k3,k4⟩
     by_cases hki:k=i
     ·subst hki
      rw[k2,decide_eq_true k3,k4]at hb;cases hb
     ·exact⟨k,by omega,k2,k3,k4⟩)
  (fun out _=>by simp only[Qbw,Qv (Nat.le_refl _),cond_false]) [] ⟨by simp,fun t=>by simp⟩
 have hperm:(V3 r2).Perm r2:=List.mergeSort_perm _ _;refine⟨r1,V3 r2,?_,?_,fun t=>?_,by omega,by rw[hperm.length_eq];omega⟩
 ·unfold Qae
  rw[a1];rfl
 ·unfold Qfn
  rw[c2];simp only[Option.bind_some,Bool.not_true,cond_false];rw[b1];simp only[Option.bind_some];rw[decide_eq_true (by omega)];rfl
 ·rw[hperm.mem_iff,a3 t,b3 t]
  constructor
  ·rintro⟨⟨k,k1,k2⟩,h⟩
   obtain⟨j,j1,j2⟩:=QjS l t l.length k k1 k2;exact⟨j,j1,(Qim l t l.length j j2).2,j2,h⟩
  ·rintro⟨k,k1,k2,k3,k4⟩
   exact⟨⟨k,k1,k2⟩,k4⟩
theorem QC6(l:List Int)(v:Int)(hl:l.length≤1048576):QbL l v=some (decide (v∈l)):=by
 have hr:=Qfq l (fun x=>decide (x=v)) (r:=true) (step:=QaB l v)
  (fun i hi=>by
   simp only[QaB,Qr hi,Qe hi,Qn hi,Qy (show(i:Int)<9223372036854775807 by omega),cond_true,Qa]
   cases decide (l[i]=v)<;>rfl)
  (by simp only[QaB,Qv (Nat.le_refl _),cond_false])
 unfold QbL;rw[hr];by_cases h:v∈l
 ·rw[decide_eq_true h,List.any_eq_true.2 ⟨v,h,by simp⟩];rfl
 ·rw[decide_eq_false h,List.any_eq_false.2 (fun x hx=>by simp;rintro rfl;exact h hx)];rfl
theorem QFz(l:List Int)(v:Int)(hl:l.length≤1048576):VW l v=some (decide (v∈l)):=by
 have hi:=XY l (fun x=>decide (v=x)) (fun i=>(i:Int)) (step:=XL l v (ln l))
  (fun i hi=>by
   simp only[XL,Qr hi,Qe hi,Qn hi,Qy (show(i:Int)<9223372036854775807 by omega),cond_true,Qa]
   cases decide (v=l[i])<;>rfl)
  (by simp only[XL,Qv (Nat.le_refl _),cond_false])
 unfold VW Qba;rw[hi];cases hf:l.findIdx? (fun x=>decide (v=x))with
 |none =>
  have:¬v∈l:=fun h=>by
   have:=List.findIdx?_eq_none_iff.1 hf v h;simp at this
  rw[decide_eq_false this];rfl
 |some i =>
  obtain⟨hi',hp⟩:=QaZ hf;have:v∈l:=by
   have e:v=l[i]:=by simpa using hp
   rw[e];exact List.getElem_mem hi'
  rw[decide_eq_true this];show some (decide (0≤(i:Int)))=_;rw[decide_eq_true (by omega)]
theorem QzC(l:List Slot)(t:Int)(hl:l.length≤1048576)(hid:∀x∈l,1≤x.Id):∃c,XP l t=some c∧decide (c=0)=!(!decide (t=0)&&l.any (fun x=>decide (x.Thing=t))):=by
 have hr:=XY l (fun x=>!decide (t=0)&&decide (x.Thing=t)) (fun i=>(gt l (i:Int)).Id) (step:=XF l t)
  (fun i hi=>by
   simp only[XF,Qr hi,Qe hi,Qn hi,Qy (show(i:Int)<9223372036854775807 by omega),cond_true,Qa]
   cases decide (t=0)<;>cases decide (l[i].Thing=t)<;>rfl)
  (by simp only[XF,Qv (Nat.le_refl _),cond_false])
 unfold XP;rw[hr];cases hf:l.findIdx? (fun x=>!decide (t=0)&&decide (x.Thing=t))with
 |none =>
  refine⟨0,rfl,?_⟩;have:=List.findIdx?_eq_none_iff.1 hf;cases ht:decide (t=0)with
  |true=>rfl
  |false =>
   rw[ht]at this;have:l.any (fun x=>decide (x.Thing=t))=false:=by
    rw[List.any_eq_false];intro x hx;have:=this x hx;simpa using this
   rw[this];rfl
 |some i =>
  obtain⟨hi',hp⟩:=QaZ hf;refine⟨(gt l (i:Int)).Id,rfl,?_⟩;simp only[Bool.and_eq_true]at hp;rw[Qn hi',decide_eq_false (by have:=hid l[i] (List.getElem_mem hi');omega),hp.1,List.any_eq_true.2 ⟨l[i],List.getElem_mem hi',hp.2⟩]
  rfl
theorem QmC(x:Trial):∃b,Qad x=some b∧Qdr x=some b:=by
 have e:Qdr x=Qad x:=rfl;rw[e];unfold Qad Qc;simp only[Option.bind_some];cases (decide (1≤x.Claim)&&decide (x.Claim≤999))<;>cases (decide (0≤x.Right)&&decide (x.Right≤100))<;>exact⟨_,rfl,rfl⟩
theorem Qn2(l:List Secret)(t:Int)(hl:l.length≤1048576)(hm:∀x∈l,x.Marks.length≤1048576):∃m,QaV l t=some m∧Qdi l t=some m∧m.length≤1048576:=by
 have hs:=XY l (fun x=>decide (x.Thing=t)) (fun i=>(i:Int)) (step:=Zq l t)
  (fun i hi=>by
   simp only[Zq,Qr hi,Qe hi,Qn hi,Qy (show(i:Int)<9223372036854775807 by omega),cond_true,Qa]
   cases decide (l[i].Thing=t)<;>rfl)
  (by simp only[Zq,Qv (Nat.le_refl _),cond_false])
 have hi:=XY l (fun x=>decide (x.Thing=t)) (fun i=>(i:Int)) (step:=Qq l t (ln l))
  (fun i hi=>by
   simp only[Qq,Qdc,Option.bind_some,Qr hi,Qe hi,Qn hi,Qy (show(i:Int)<9223372036854775807 by omega),cond_true,Qa]
   cases decide (l[i].Thing=t)<;>rfl)
  (by simp only[Qq,Qv (Nat.le_refl _),cond_false])
 unfold QaV Qdi Qdn QaC VJ;rw[hs,hi];cases hf:l.findIdx? (fun x=>decide (x.Thing=t))with
 |none=>exact⟨[],rfl,rfl,by simp⟩
 |some i =>
  obtain⟨hi',_⟩:=QaZ hf;have hmi:=hm l[i] (List.getElem_mem hi');refine⟨l[i].Marks,?_,?_,hmi⟩
  ·simp only[Option.bind_some,Qv2,show decide ((i:Int)<0)=false from decide_eq_false (by omega),cond_false,Qe hi',Qn hi',Qa,QR (show 0+l[i].Marks.length≤2000000 by omega) (show 16≤1024 by omega)]
  ·simp only[Option.bind_some,Qv2,show decide ((i:Int)<0)=false from decide_eq_false (by omega),cond_false,Qe hi',Qn hi',Qa,Jq,QR (show 0+l[i].Marks.length≤2000000 by omega) (show 16≤1024 by omega)]
theorem Qe6(l:List Mark)(x:Trial)(hl:l.length≤1048576):∃c,JE l x=some c∧Qap l x=some c:=by
 obtain⟨b,b1,b2⟩:=QmC x;obtain⟨m,m1,m2⟩:=QiG l (by omega)
 have Vf:Qb6 l=Qdt l:=by
  unfold Qb6 Qdt Qbr;by_cases h:ln l<3
  ·rw[decide_eq_true h,if_pos h];rfl
  ·rw[decide_eq_false h,if_neg h];rfl
 unfold JE Qap;rw[b1,b2,m1,m2,Vf];unfold Qdt;cases b<;>cases m<;>cases decide (1<x.Wrong)<;>cases decide (0<ln l)<;>simp only[Option.bind_some,Bool.not_true,Bool.not_false,cond_true,cond_false,Bool.or_true,Bool.or_false,Bool.true_or,Bool.false_or] <;>
  first|exact⟨_,rfl,rfl⟩|(cases decide ((if ln l<3 then ln l else 3)≤x.Right)<;>exact⟨_,rfl,rfl⟩)
theorem Qfd{α:Type}(l:List α)(hour:α→Int)(now:Int){step:Int×Int→Option ((Int×Int)⊕Int)}
  (h1:∀(i:Nat) (v:Int) (h:i<l.length),step (v,(i:Int))=some (.inl ((if v<hour l[i]then hour l[i]else v),((i+1:Nat):Int)))) (h2:∀v,step (v,(l.length:Int))=some (.inr v)) (v0:Int) :
  ∃v,run step (v0,0)=some v∧(v≤now↔v0≤now∧∀x∈l,hour x≤now):=by
 obtain⟨v,q1,q2⟩:=Qei (n:=l.length) (step:=step) (fin:=fun v=>v) (fun i v=>v≤now↔v0≤now∧∀x∈l.take i,hour x≤now)
  (fun i v hi hq=>by
   refine⟨_,h1 i v hi,?_⟩;rw[List.take_succ_eq_append_getElem hi];have:(∀x∈l.take i++[l[i]],hour x≤now)↔(∀x∈l.take i,hour x≤now)∧hour l[i]≤now:=by
    simp only[List.mem_append,List.mem_singleton];constructor
    ·intro h;exact⟨fun x hx=>h x (.inl hx),h _ (.inr rfl)⟩
    ·rintro⟨h,h'⟩ x (hx|rfl)
     ·exact h x hx
     ·exact h'
   rw[this];constructor
   ·intro hv
    have h3:v≤now∧hour l[i]≤now:=by split at hv<;>omega
    exact⟨(hq.1 h3.1).1,(hq.1 h3.1).2,h3.2⟩
   ·rintro⟨a,b,c⟩
    have:=hq.2 ⟨a,b⟩
    split<;>omega) (fun v _=>h2 v) v0 (by simp)
 exact⟨v,q1,by rw[List.take_length]at q2;exact q2⟩
theorem Qxs(h:House)(now:Int)(m1:h.Finds.length≤1048576)(m2:h.Claims.length≤1048576)(m3:h.Chain.length≤1048576)(m4:h.Book.length≤1048576) :
  ∃v,QfV h=some v∧(v≤now↔-1≤now∧(∀x∈h.Finds,x.At≤now)∧(∀x∈h.Claims,x.At≤now)∧(∀x∈h.Chain,x.At≤now)∧∀x∈h.Book,x.At≤now):=by
 obtain⟨v1,a1,a2⟩:=Qfd h.Finds (·.At) now (step:=QbZ h h.Finds (ln h.Finds)) (fun i v hi=>by simp only[QbZ,Qr hi,Qe hi,Qn hi,Qy (show(i:Int)<9223372036854775807 by omega),cond_true,Qa])
  (fun v=>by simp only[QbZ,Qv (Nat.le_refl _),cond_false]) (-1)
 obtain⟨v2,b1,b2⟩:=Qfd h.Claims (·.At) now (step:=Qcf h h.Claims (ln h.Claims)) (fun i v hi=>by simp only[Qcf,Qr hi,Qe hi,Qn hi,Qy (show(i:Int)<9223372036854775807 by omega),cond_true,Qa])
  (fun v=>by simp only[Qcf,Qv (Nat.le_refl _),cond_false]) v1
 obtain⟨v3,c1,c2⟩:=Qfd h.Chain (·.At) now (step:=Qbz h h.Chain (ln h.Chain)) (fun i v hi=>by simp only[Qbz,Qr hi,Qe hi,Qn hi,Qy (show(i:Int)<9223372036854775807 by omega),cond_true,Qa])
  (fun v=>by simp only[Qbz,Qv (Nat.le_refl _),cond_false]) v2
 obtain⟨v4,d1,d2⟩:=Qfd h.Book (·.At) now (step:=Qby h.Book (ln h.Book)) (fun i v hi=>by simp only[Qby,Qr hi,Qe hi,Qn hi,Qy (show(i:Int)<9223372036854775807 by omega),cond_true,Qa])
  (fun v=>by simp only[Qby,Qv (Nat.le_refl _),cond_false]) v3
 refine⟨v4,?_,?_⟩
 ·unfold QfV
  rw[a1];simp only[Option.bind_some];rw[b1];simp only[Option.bind_some];rw[c1];simp only[Option.bind_some];rw[d1];rfl
 ·rw[d2,c2,b2,a2]
  simp only[and_assoc]
end Go.Proofs.YtonidbheohhgdaaGreat
namespace Go.Proofs.YtonidbheohhgdaaGreat
open Go
set_option linter.unusedVariables false
set_option linter.unusedSimpArgs false
section
variable{ρ:Type}
def qa(q:Nat→Bool):Nat→Nat→Bool
 |_,0=>true
 |i,m+1=>q i&&qa q (i+1) m
theorem Qsa{α:Type}[Inhabited α](l:List α)(f:α→Bool):∀(m i:Nat),i+m=l.length→qa (fun i=>f (gt l (i:Int))) i m=(l.drop i).all f
 |0,i,h=>by
  have:i=l.length:=by omega
  subst this;rw[List.drop_length];rfl
 |m+1,i,h=>by
  have hlt:i<l.length:=by omega
  rw[qa,Qsa l f m (i+1) (by omega),List.drop_eq_getElem_cons hlt,List.all_cons,Qn hlt]
theorem Qpl{n:Nat}{r:ρ}{s1 s2:Int→Option (Int⊕(Fl ρ Unit))}(q:Nat→Bool)
  (h:∀i,i<n→∃b,s1 (i:Int)=some (bif b then .inl ((i+1:Nat):Int)else .inr (.ret r))∧s2 (i:Int)=some (bif b&&q i then .inl ((i+1:Nat):Int)else .inr (.ret r)))
  (e1:s1 (n:Int)=some (.inr (.brk ()))) (e2:s2 (n:Int)=some (.inr (.brk ()))) :
  ∃b,run s1 0=some (bif b then .brk ()else .ret r)∧run s2 0=some (bif b&&qa q 0 n then .brk ()else .ret r):=by
 have key:∀(m i:Nat),i+m=n→∃b,run s1 (i:Int)=some (bif b then .brk ()else .ret r)∧run s2 (i:Int)=some (bif b&&qa q i m then .brk ()else .ret r):=by
  intro m
  induction m with
  |zero =>
   intro i hi;have:i=n:=by omega
   subst this;exact⟨true,by rw[Qg,e1];rfl,by rw[Qg,e2];rfl⟩
  |succ m ih =>
   intro i hi;obtain⟨b,h1,h2⟩:=h i (by omega)
   cases b with
   |false=>exact⟨false,by rw[Qg,h1];rfl,by rw[Qg,h2];rfl⟩
   |true =>
    obtain⟨b',q1,q2⟩:=ih (i+1) (by omega)
    refine⟨b',by rw[Qg,h1];exact q1,?_⟩
    rw[Qg,h2,qa];cases q i with
    |false=>cases b'<;>rfl
    |true=>exact q2
 exact key n 0 (by omega)
end
theorem Qy3{α:Type}{a b:List α}(p:α→Bool)(h:∀t,t∈a↔t∈b):a.all p=b.all p:=by
 rw[Bool.eq_iff_iff,List.all_eq_true,List.all_eq_true];exact⟨fun h1 x hx=>h1 x ((h x).2 hx),fun h1 x hx=>h1 x ((h x).1 hx)⟩
theorem QgE{α:Type}(l:List α)(hour:α→Int)(now:Int):l.all (fun x=>!decide (now<hour x))=true↔∀x∈l,hour x≤now:=by
 rw[List.all_eq_true];constructor
 ·intro h x hx
  have:=h x hx;simp at this;exact this
 ·intro h x hx
  have:=h x hx;simp;exact this
theorem QxH{α:Type}(l:List α)(hour:α→Int)(h:∀k (hk:k<l.length) (h0:0<k),hour (l[k-1]'(by omega))≤hour l[k])(now:Int)(hn:0<l.length) :
  (∀x∈l,hour x≤now)↔hour (l[l.length-1]'(by omega))≤now:=by
 have key:∀(d i:Nat) (hj:i+d<l.length),hour (l[i]'(by omega))≤hour l[i+d]:=by
  intro d
  induction d with
  |zero=>intro i hj;exact Int.le_refl _
  |succ d ih =>
   intro i hj;have h1:=ih i (by omega)
   have h2:=h (i+(d+1)) hj (by omega)
   have e:(l[i+(d+1)-1]'(by omega))=l[i+d]:=by congr 1
   rw[e]at h2;omega
 constructor
 ·intro hx;exact hx _ (List.getElem_mem _)
 ·intro hl x hx
  obtain⟨i,hi,rfl⟩:=List.getElem_of_mem hx;have:=key (l.length-1-i) i (by omega)
  have e:(l[i+(l.length-1-i)]'(by omega))=(l[l.length-1]'(by omega)):=by congr 1;omega
  rw[e]at this;omega
theorem kept(h:House)(m1:h.Finds.length≤1048576)(m3:h.Slots.length≤1048576)(m6:h.Chain.length≤100)(hf:∀i (hi:i<h.Finds.length),1≤h.Finds[i].Thing.Id)(hs:∀x∈h.Slots,1≤x.Id)
  (c1:Vv h.Chain=some true) (c2:Xy h.Chain=some true) :
  ∃k,Qcg h=some k∧Je h=some (k&&h.Finds.all (fun x=>!decide (h.Now<x.At))):=by
 by_cases hlen:h.Secrets.length=h.Finds.length
 ·have hd:(!decide (ln h.Secrets=ln h.Finds))=false:=by rw[VE,VE,hlen];simp
  obtain⟨r1,r2,i1,i2,hmem,l1,l2⟩:=QzL h.Chain h.No m6 c1 c2;unfold Qcg Je;rw[hd,i1,i2];simp only[cond_false,Option.bind_some];obtain⟨b,a1,a2⟩:=Qpl (n:=h.Finds.length) (r:=false) (s1:=QbB h r2 h.Finds (ln h.Finds)) (s2:=Xh h r1) (fun i=>!decide (h.Now<(gt h.Finds (i:Int)).At)) (fun i hi=>by
    have hi2:i<h.Secrets.length:=by omega
    obtain⟨c,q1,q2⟩:=QzC h.Slots h.Finds[i].Thing.Id m3 hs;have hid:=hf i hi;have hne:decide (h.Finds[i].Thing.Id=0)=false:=decide_eq_false (by omega)
    have hsame:decide (h.Finds[i].Thing.Id∈r1)=decide (h.Finds[i].Thing.Id∈r2):=by rw[decide_eq_decide];exact hmem _
    have hix:decide (0≤ZK h.Slots h.Finds[i].Thing.Id)=h.Slots.any (fun x=>decide (x.Thing=h.Finds[i].Thing.Id)):=by
     rcases QdP h.Slots h.Finds[i].Thing.Id with⟨p1,p2⟩|⟨k,_,p1,_,p3⟩
     ·rw[p1,p2];rfl
     ·rw[p1,p3];exact decide_eq_true (by omega)
    rw[hne]at q2;simp only[QbB,Xh,Qr hi,Qe hi,Qn hi,Qe hi2,Qn hi2,Qy (show(i:Int)<9223372036854775807 by omega),cond_true,Qa,q1,q2,Qgf h.Slots _ m3,hne,cond_false,QC6 r1 _ (by omega),QFz r2 _ (by omega),hsame,hix,Option.bind_some,Bool.not_false,Bool.true_and,Bool.not_not]
    cases decide (h.Secrets[i].Thing=h.Finds[i].Thing.Id)<;>cases decide (h.Slots.any (fun x=>decide (x.Thing=h.Finds[i].Thing.Id))=decide (h.Finds[i].Thing.Id∈r2))<;>cases decide (h.Now<h.Finds[i].At)<;>first|exact⟨true,rfl,rfl⟩|exact⟨false,rfl,rfl⟩)
   (by simp only[QbB,Qv (Nat.le_refl _),cond_false]) (by simp only[Xh,Qv (Nat.le_refl _),cond_false])
  have hqa:qa (fun i=>!decide (h.Now<(gt h.Finds (i:Int)).At)) 0 h.Finds.length=h.Finds.all (fun x=>!decide (h.Now<x.At)):=by
   have:=Qsa h.Finds (fun x=>!decide (h.Now<x.At)) h.Finds.length 0 (by omega)
   rw[this];rfl
  rw[hqa]at a2;have s3:=Qh3 h.Slots (fun x=>decide (x.Thing=0)||!decide (Zf h.Finds x.Thing<0)) (r:=false) (step:=Vi h)
   (fun i hi=>by
    simp only[Vi,Qr hi,Qe hi,Qn hi,Qy (show(i:Int)<9223372036854775807 by omega),cond_true,Qa,(Jr h.Finds _ m1).1,Option.bind_some]
    cases decide (h.Slots[i].Thing=0)<;>cases decide (Zf h.Finds h.Slots[i].Thing<0)<;>rfl)
   (by simp only[Vi,Qv (Nat.le_refl _),cond_false])
  have t3:=Qh3 h.Slots (fun x=>decide (x.Thing=0)||!decide (Zf h.Finds x.Thing<0)) (r:=false) (step:=Qa3 h r2 h.Slots (ln h.Slots))
   (fun i hi=>by
    simp only[Qa3,Qr hi,Qe hi,Qn hi,Qy (show(i:Int)<9223372036854775807 by omega),cond_true,Qa,(Jr h.Finds _ m1).2,Option.bind_some]
    cases decide (h.Slots[i].Thing=0)<;>cases decide (Zf h.Finds h.Slots[i].Thing<0)<;>rfl)
   (by simp only[Qa3,Qv (Nat.le_refl _),cond_false])
  have s4:=Qh3 r1 (fun t=>!decide (Zf h.Finds t<0)) (r:=false) (step:=XG h r1)
   (fun i hi=>by
    simp only[XG,Qr hi,Qe hi,Qn hi,Qy (show(i:Int)<9223372036854775807 by omega),cond_true,Qa,(Jr h.Finds _ m1).1,Option.bind_some]
    cases decide (Zf h.Finds r1[i]<0)<;>rfl)
   (by simp only[XG,Qv (Nat.le_refl _),cond_false])
  have t4:=Qh3 r2 (fun t=>!decide (Zf h.Finds t<0)) (r:=false) (step:=Qa7 h r2 (ln r2))
   (fun i hi=>by
    simp only[Qa7,Qr hi,Qe hi,Qn hi,Qy (show(i:Int)<9223372036854775807 by omega),cond_true,Qa,(Jr h.Finds _ m1).2,Option.bind_some]
    cases decide (Zf h.Finds r2[i]<0)<;>rfl)
   (by simp only[Qa7,Qv (Nat.le_refl _),cond_false])
  rw[Qy3 _ hmem]at s4;rw[a1,a2,s3,t3,s4,t4];generalize h.Finds.all (fun x=>!decide (h.Now<x.At))=fa
  generalize h.Slots.all (fun x=>decide (x.Thing=0)||!decide (Zf h.Finds x.Thing<0))=sa
  generalize r2.all (fun t=>!decide (Zf h.Finds t<0))=ra
  cases b<;>cases fa<;>cases sa<;>cases ra<;>first|exact⟨true,rfl,rfl⟩|exact⟨false,rfl,rfl⟩
 ·have hd:(!decide (ln h.Secrets=ln h.Finds))=true:=by rw[VE,VE];simp;omega
  unfold Qcg Je;rw[hd];exact⟨false,rfl,rfl⟩
theorem wanted(s:Int)(h0:0≤s)(h1:s≤3):inb [0,1,2,1] s=true∧Qea s=some (gt ([0,1,2,1]:List Int) s):=by
 have:s=0∨s=1∨s=2∨s=3:=by omega
 rcases this with rfl|rfl|rfl|rfl<;>exact⟨rfl,rfl⟩
theorem trials(h:House)(m1:h.Finds.length≤1048576)(m2:h.Secrets.length≤1048576)(mm:∀x∈h.Secrets,x.Marks.length≤1048576)(m4:h.Claims.length≤1048576)(hst:∀i (hi:i<h.Claims.length),0≤h.Claims[i].State∧h.Claims[i].State≤3) :
  ∃k,Xv h=some k∧Jk h=some (k&&h.Claims.all (fun x=>!decide (h.Now<x.At))):=by
 by_cases hlen:h.Trials.length=h.Claims.length
 ·have hd:(!decide (ln h.Trials=ln h.Claims))=false:=by rw[VE,VE,hlen];simp
  unfold Xv Jk;rw[hd];simp only[cond_false];obtain⟨b,a1,a2⟩:=Qpl (n:=h.Claims.length) (r:=false) (s1:=Vc h h.Claims (ln h.Claims)) (s2:=Jn h) (fun i=>!decide (h.Now<(gt h.Claims (i:Int)).At)) (fun i hi=>by
    have hi2:i<h.Trials.length:=by omega
    obtain⟨w1,w2⟩:=wanted h.Claims[i].State (hst i hi).1 (hst i hi).2;obtain⟨t,t1,t2⟩:=QmC h.Trials[i];obtain⟨m,k1,k2,k3⟩:=Qn2 h.Secrets h.Claims[i].Thing m2 mm;obtain⟨c,s1,s2⟩:=Qe6 m h.Trials[i] k3;simp only[Vc,Jn,Qr hi,Qe hi,Qn hi,Qe hi2,Qn hi2,Qy (show(i:Int)<9223372036854775807 by omega),cond_true,Qa,w1,w2,t1,t2,k1,k2,s1,s2,(Jr h.Finds _ m1).1,(Jr h.Finds _ m1).2,Option.bind_some]
    cases decide (Zf h.Finds h.Claims[i].Thing<0)<;>cases decide (h.Trials[i].Claim=h.Claims[i].Id)<;>cases t<;>cases decide (c=gt [0,1,2,1] h.Claims[i].State)<;>cases decide (h.Now<h.Claims[i].At)<;>first|exact⟨true,rfl,rfl⟩|exact⟨false,rfl,rfl⟩)
   (by simp only[Vc,Qv (Nat.le_refl _),cond_false]) (by simp only[Jn,Qv (Nat.le_refl _),cond_false])
  have hqa:qa (fun i=>!decide (h.Now<(gt h.Claims (i:Int)).At)) 0 h.Claims.length=h.Claims.all (fun x=>!decide (h.Now<x.At)):=by
   have:=Qsa h.Claims (fun x=>!decide (h.Now<x.At)) h.Claims.length 0 (by omega)
   rw[this];rfl
  rw[hqa]at a2;rw[a1,a2];generalize h.Claims.all (fun x=>!decide (h.Now<x.At))=fa
  cases b<;>cases fa<;>first|exact⟨true,rfl,rfl⟩|exact⟨false,rfl,rfl⟩
 ·have hd:(!decide (ln h.Trials=ln h.Claims))=true:=by rw[VE,VE];simp;omega
  unfold Xv Jk;rw[hd];exact⟨false,rfl,rfl⟩
theorem Qno{α:Type}[Inhabited α](l:List α)(hour:α→Int)(hl:l.length≤1048576)(h:∀k (hk:k<l.length) (h0:0<k),hour (l[k-1]'(by omega))≤hour l[k])(now:Int){β:Type}(rest:Option Bool) :
  (bif decide (0<ln l)then nd (inb l (w64 (ln l-1)))<|(bif decide (now<hour (gt l (w64 (ln l-1))))then some true else rest)else rest)=(bif l.all (fun x=>!decide (now<hour x))then rest else some true):=by
 by_cases hn:0<l.length
 ·have hlast:l.length-1<l.length:=by omega
  have e:w64 (ln l-1)=((l.length-1:Nat):Int):=by rw[VE,QS]<;>omega
  rw[decide_eq_true (show 0<ln l by rw[VE];omega),e,Qe hlast,Qn hlast]
  simp only[cond_true,Qa];have hiff:=QxH l hour h now hn;by_cases hlt:now<hour l[l.length-1]
  ·have:l.all (fun x=>!decide (now<hour x))=false:=by
    rw[Bool.eq_false_iff];intro ha;have:=(QgE l hour now).1 ha _ (List.getElem_mem hlast);omega
   rw[decide_eq_true hlt,this];rfl
  ·have:l.all (fun x=>!decide (now<hour x))=true:=(QgE l hour now).2 (hiff.2 (by omega))
   rw[decide_eq_false hlt,this];rfl
 ·have:l=[]:=by
   cases l with
   |nil=>rfl
   |cons x l=>simp at hn
  subst this;rfl
theorem QtK(h:House)(hm:Qi h):∃c,QJ h=some c∧Vn h=some c:=by
 unfold Qi at hm;obtain⟨m1,m2,m3,m4,m5,m6,m7⟩:=hm;have mm:∀x∈h.Secrets,x.Marks.length≤1048576:=fun x hx=>m2.2 x hx
 have m2':h.Secrets.length≤1048576:=m2.1;obtain⟨f,f1,f2,f3⟩:=QpM h.Finds m1;obtain⟨s,s1,s2⟩:=Qmv h.Secrets m2' mm;obtain⟨t,t1,t2,t3⟩:=QlL h.Slots m3;obtain⟨c,c1,c2,c3⟩:=QeV h.Claims m4;obtain⟨n,n1,n2,n3⟩:=QnR h.Chain;obtain⟨e,e1,e2,e3⟩:=QlR h.Book m7;unfold QJ Vn;simp only[Qc,Qb,f1,f2,s1,s2,t1,t2,c1,c2,n1,n2,e1,e2,Option.bind_some];cases (decide (1≤h.No)&&decide (h.No≤9))with
 |false=>exact⟨false,rfl,rfl⟩
 |true =>
 cases f with
 |false=>exact⟨false,rfl,rfl⟩
 |true =>
 cases s with
 |false=>exact⟨false,rfl,rfl⟩
 |true =>
 cases t with
 |false=>exact⟨false,rfl,rfl⟩
 |true =>
 cases c with
 |false=>exact⟨false,rfl,rfl⟩
 |true =>
 cases n with
 |false=>exact⟨false,rfl,rfl⟩
 |true =>
 cases e with
 |false=>exact⟨false,rfl,rfl⟩
 |true =>
  obtain⟨k,k1,k2⟩:=kept h m1 m3 (n3 rfl).1 (f3 rfl).2 (t3 rfl).2 n1 n2;obtain⟨r,r1,r2⟩:=trials h m1 m2' mm m4 (c3 rfl).2;obtain⟨v,v1,v2⟩:=Qxs h h.Now m1 m4 m6 m7;have hch:=Qno h.Chain (·.At) m6 (fun i hi h0=>((n3 rfl).2 i hi).2.2 h0) h.Now (β:=Unit)
  have hbk:=Qno h.Book (·.At) m7 (fun i hi h0=>(e3 rfl).2 i hi h0) h.Now (β:=Unit) (some false)
  have hb0:(bif decide (0<ln h.Book)then nd (inb h.Book (w64 (ln h.Book-1)))<|some (decide (h.Now<(gt h.Book (w64 (ln h.Book-1))).At))else some false)=(bif h.Book.all (fun x=>!decide (h.Now<x.At))then some false else some true):=by
   rw[←hbk];cases decide (0<ln h.Book)with
   |false=>rfl
   |true =>
    cases inb h.Book (w64 (ln h.Book-1))with
    |false=>rfl
    |true=>cases decide (h.Now<(gt h.Book (w64 (ln h.Book-1))).At)<;>rfl
  simp only[k1,k2,r1,r2,v1,hb0,hch,Option.bind_some,Bool.not_true,cond_false,cond_true];have hv:decide (v≤h.Now)=(decide (-1≤h.Now)&&(h.Finds.all (fun x=>!decide (h.Now<x.At))&&(h.Claims.all (fun x=>!decide (h.Now<x.At))&&(h.Chain.all (fun x=>!decide (h.Now<x.At))&&h.Book.all (fun x=>!decide (h.Now<x.At)))))):=by
   rw[Bool.eq_iff_iff];simp only[Bool.and_eq_true,QgE h.Finds (·.At),QgE h.Claims (·.At),QgE h.Chain (·.At),QgE h.Book (·.At),decide_eq_true_eq]
   exact v2
  rw[hv];generalize h.Finds.all (fun x=>!decide (h.Now<x.At))=a1
  generalize h.Claims.all (fun x=>!decide (h.Now<x.At))=a2
  generalize h.Chain.all (fun x=>!decide (h.Now<x.At))=a3
  generalize h.Book.all (fun x=>!decide (h.Now<x.At))=a4
  cases hnow:(decide (0≤h.Now)&&decide (h.Now≤100000))with
  |false=>refine⟨false,rfl,?_⟩;cases k<;>cases r<;>cases decide (-1≤h.Now)<;>cases a1<;>cases a2<;>cases a3<;>cases a4<;>rfl
  |true =>
   have h1:decide (-1≤h.Now)=true:=by
    simp only[Bool.and_eq_true,decide_eq_true_eq]at hnow;exact decide_eq_true (by omega)
   rw[h1];cases k<;>cases r<;>cases a1<;>cases a2<;>cases a3<;>cases a4<;>first|exact⟨true,rfl,rfl⟩|exact⟨false,rfl,rfl⟩
end Go.Proofs.YtonidbheohhgdaaGreat
namespace Go.Proofs.YtonidbheohhgdaaGreat
open Go
set_option linter.unusedVariables false
set_option linter.unusedSimpArgs false
structure HouseOk (h:House):Prop where
 no:1≤h.No∧h.No≤9
 now:0≤h.Now∧h.Now≤100000
 fS:V1 h.Finds=some true
 fI:Q2 h.Finds=some true
 sS:V7 h.Secrets=some true
 sI:Qas h.Secrets=some true
 tS:V2 h.Slots=some true
 tI:Qaz h.Slots=some true
 cS:QF h.Claims=some true
 cI:Jg h.Claims=some true
 nS:Vv h.Chain=some true
 nI:Xy h.Chain=some true
 eS:V5 h.Book=some true
 eI:Qaq h.Book=some true
 kept:Qcg h=some true
 trials:Xv h=some true
 lateF:∀x∈h.Finds,x.At≤h.Now
 lateC:∀x∈h.Claims,x.At≤h.Now
 lateN:∀x∈h.Chain,x.At≤h.Now
 lateE:∀x∈h.Book,x.At≤h.Now
theorem Qtu(h:House)(hm:Qi h)(ht:Vn h=some true):HouseOk h:=by
 obtain⟨m1,m2,m3,m4,m5,m6,m7⟩:=hm;obtain⟨f,f1,f2,f3⟩:=QpM h.Finds m1;obtain⟨s,s1,s2⟩:=Qmv h.Secrets m2.1 (fun x hx=>m2.2 x hx)
 obtain⟨t,t1,t2,t3⟩:=QlL h.Slots m3;obtain⟨c,c1,c2,c3⟩:=QeV h.Claims m4;obtain⟨n,n1,n2,n3⟩:=QnR h.Chain;obtain⟨e,e1,e2,e3⟩:=QlR h.Book m7;unfold Vn at ht;simp only[Qb,f2,s2,t2,c2,n2,e2,Option.bind_some]at ht;cases hN:(decide (1≤h.No)&&decide (h.No≤9))with
 |false=>rw[hN]at ht;cases ht
 |true =>
 rw[hN]at ht;cases f with
 |false=>cases ht
 |true =>
 cases s with
 |false=>cases ht
 |true =>
 cases t with
 |false=>cases ht
 |true =>
 cases c with
 |false=>cases ht
 |true =>
 cases n with
 |false=>cases ht
 |true =>
 cases e with
 |false=>cases ht
 |true =>
 obtain⟨k,k1,k2⟩:=kept h m1 m3 (n3 rfl).1 (f3 rfl).2 (t3 rfl).2 n1 n2;obtain⟨r,r1,r2⟩:=trials h m1 m2.1 (fun x hx=>m2.2 x hx) m4 (c3 rfl).2
 obtain⟨v,v1,v2⟩:=Qxs h h.Now m1 m4 m6 m7;simp only[k1,r1,v1,cond_true,Option.bind_some]at ht;cases k with
 |false=>cases ht
 |true =>
 cases r with
 |false=>cases ht
 |true =>
 simp only[cond_true,Option.bind_some]at ht;cases hv:decide (v≤h.Now)with
 |false=>rw[hv]at ht;cases ht
 |true =>
 rw[hv]at ht;have hv':v≤h.Now:=of_decide_eq_true hv;obtain⟨g0,g1,g2,g3,g4⟩:=v2.1 hv';simp only[cond_true,Option.bind_some,Option.some.injEq,Bool.and_eq_true,decide_eq_true_eq]at ht hN;exact⟨hN,ht,f1,f2,s1,s2,t1,t2,c1,c2,n1,n2,e1,e2,k1,r1,g1,g2,g3,g4⟩
theorem QuX(h:House)(hm:Qi h)(ht:QJ h=some true):Vn h=some true:=by
 obtain⟨c,c1,c2⟩:=QtK h hm;rw[c1]at ht;rw[c2];exact ht
theorem QiH(l:List Secret)(hl:smL QcL l):V4 l=some l:=by
 have hlen:=hl.1;have h1:=Xt (step:=Jy l) (fun i=>(l.take i,(i:Int))) (r:=l) l.length (fun i hi=>by
   have hm:l[i].Marks.length≤1048576:=hl.2 _ (List.getElem_mem hi);have hr1:rm l[i].Marks.length 16=true:=QR (by omega) (by omega)
   have hr2:rm ((l.take i).length+1) 40=true:=QR (by rw[List.length_take];omega) (by omega)
   simp only[Jy,Qr hi,Qe hi,Qn hi,hr1,hr2,cond_true,Qa,Qy (show(i:Int)<9223372036854775807 by omega)]
   rw[List.take_succ_eq_append_getElem hi])
  (by simp only[Jy,Qv (Nat.le_refl _),cond_false,List.take_length])
 unfold V4;rw[show run (Jy l) ([],0)=_ from by simpa using h1];rfl
theorem XA(h:House)(hm:Qi h):Q7 h=some h:=by
 obtain⟨m1,m2,m3,m4,m5,m6,m7⟩:=hm;unfold Q7;simp only[QiH _ m2,QR (show h.Finds.length≤2000000 by omega) (show 64≤1024 by omega),QR (show h.Slots.length≤2000000 by omega) (show 24≤1024 by omega),QR (show h.Claims.length≤2000000 by omega) (show 40≤1024 by omega),
  QR (show h.Trials.length≤2000000 by omega) (show 32≤1024 by omega),QR (show h.Chain.length≤2000000 by omega) (show 40≤1024 by omega),QR (show h.Book.length≤2000000 by omega) (show 32≤1024 by omega),Qa,Option.bind_some]
end Go.Proofs.YtonidbheohhgdaaGreat
