import Derived.Test.YtonidbheohhgdaaGreatPz1
import Derived.Test.YtonidbheohhgdaaGreatFam
namespace Go.Proofs.YtonidbheohhgdaaGreat
open Go
set_option linter.unusedVariables false
set_option linter.unusedSimpArgs false
noncomputable def XT(h:House):Bool:=(Vn h).getD false
theorem Xp(h:House)(hm:Qi h):QJ h=some (XT h)∧Vn h=some (XT h):=by
 obtain⟨c,c1,c2⟩:=QtK h hm;unfold XT;rw[c1,c2];exact⟨rfl,rfl⟩
theorem QgB(h:House)(hm:Qi h)(hb:XT h=true):HouseOk h:=Qtu h hm (by rw[(Xp h hm).2,hb])
theorem Qix(l:List Secret)(hl:smL QcL l):Zz l=some l:=by
 have hlen:=hl.1;have h1:=Xt (step:=Ji l (ln l)) (fun i=>(l.take i,(i:Int))) (r:=l) l.length (fun i hi=>by
   have hm:l[i].Marks.length≤1048576:=hl.2 _ (List.getElem_mem hi);have hr1:rm (0+l[i].Marks.length) 16=true:=QR (by omega) (by omega)
   have hr2:rm ((l.take i).length+1) 40=true:=QR (by rw[List.length_take];omega) (by omega)
   simp only[Ji,Jq,Qr hi,Qe hi,Qn hi,hr1,hr2,cond_true,Qa,Option.bind_some,Qy (show(i:Int)<9223372036854775807 by omega)]
   rw[List.take_succ_eq_append_getElem hi])
  (by simp only[Ji,Qv (Nat.le_refl _),cond_false,List.take_length])
 unfold Zz;rw[show run (Ji l (ln l)) ([],0)=_ from by simpa using h1];rfl
theorem Jw(h:House)(hm:Qi h):QW h=some h:=by
 obtain⟨m1,m2,m3,m4,m5,m6,m7⟩:=hm;unfold QW Zu Jv Vu QdB XC J6;simp only[Qix _ m2,QR (show 0+h.Finds.length≤2000000 by omega) (show 64≤1024 by omega),QR (show 0+h.Slots.length≤2000000 by omega) (show 24≤1024 by omega),QR (show 0+h.Claims.length≤2000000 by omega) (show 40≤1024 by omega),
  QR (show 0+h.Trials.length≤2000000 by omega) (show 32≤1024 by omega),QR (show 0+h.Chain.length≤2000000 by omega) (show 40≤1024 by omega),QR (show 0+h.Book.length≤2000000 by omega) (show 32≤1024 by omega),Qa,Option.bind_some]
theorem Qk7(l:List Bool)(hl:l.length≤1048576):Xj l false=some (!l.all id):=by
 have hr:=XY l (fun x=>decide (false=x)) (fun i=>(i:Int)) (step:=Zr l false (ln l))
  (fun i hi=>by
   simp only[Zr,Qr hi,Qe hi,Qn hi,Qy (show(i:Int)<9223372036854775807 by omega),cond_true,Qa]
   cases decide (false=l[i])<;>rfl)
  (by simp only[Zr,Qv (Nat.le_refl _),cond_false])
 unfold Xj Qd8;rw[hr];have hall:l.all id=(l.findIdx? (fun x=>decide (false=x))).isNone:=by
  cases hf:l.findIdx? (fun x=>decide (false=x))with
  |none =>
   rw[List.findIdx?_eq_none_iff]at hf;simp only[Option.isNone_none,List.all_eq_true];intro x hx;have:=hf x hx;cases x<;>simp at this ⊢
  |some i =>
   obtain⟨hlt,hp⟩:=QaZ hf;simp only[Option.isNone_some];rw[List.all_eq_false];exact⟨l[i],List.getElem_mem hlt,by simp at hp;simp[←hp]⟩
 rw[hall];cases l.findIdx? (fun x=>decide (false=x))with
 |none=>rfl
 |some i =>
  simp only[Option.bind_some,evO];rw[decide_eq_true (show(0:Int)≤(i:Int)by omega)];rfl
noncomputable def Qbc(h out:House)(ok:Bool):House×Bool:=bif ok&&(XT h&&XT out)then(out,true)else(h,false)
theorem Z1(h out:House)(ok:Bool)(hm:Qi h)(ho:Qi out):Qi (Qbc h out ok).1:=by
 unfold Qbc;cases ok&&(XT h&&XT out)<;>assumption
theorem Qd3(h out:House):Qbc h out false=(h,false):=rfl
theorem Quu(h out:House)(ok:Bool)(hb:XT h=false):Qbc h out ok=(h,false):=by
 unfold Qbc;rw[hb];cases ok<;>rfl
theorem Qci(h out:House)(ok:Bool)(hm:Qi h)(ho:Qi out):Qk h out ok=some (Qbc h out ok):=by
 unfold Qk Qbc;simp only[(Xp h hm).1,(Xp out ho).1,XA h hm,Option.bind_some];cases ok<;>cases XT h<;>cases XT out<;>rfl
theorem smH{h:House}(hm:Qi h){f:List Find}{s:List Secret}{t:List Slot}{c:List Claim}{r:List Trial}{n:List Hand}{b:List Entry}{k:Int}(h1:f.length≤1048576)(h2:smL QcL s)(h3:t.length≤1048576)(h4:c.length≤1048576)(h5:r.length≤1048576)(h6:n.length≤1048576)(h7:b.length≤1048576) :
  Qi ⟨h.No,f,s,t,c,r,n,b,k⟩:=⟨h1,h2,h3,h4,h5,h6,h7⟩
end Go.Proofs.YtonidbheohhgdaaGreat
namespace Go.Proofs.YtonidbheohhgdaaGreat
open Go
set_option linter.unusedVariables false
set_option linter.unusedSimpArgs false
def QcR(l:List Claim)(i:Nat):Bool :=
 (decide (1≤(gt l (i:Int)).Id)&&decide ((gt l (i:Int)).Id≤999))&&((decide (1≤(gt l (i:Int)).Who)&&decide ((gt l (i:Int)).Who≤999))&&((decide (1≤(gt l (i:Int)).Thing)&&decide ((gt l (i:Int)).Thing≤999))&&((decide (0≤(gt l (i:Int)).At)&&decide ((gt l (i:Int)).At≤100000))&&((decide (0≤(gt l (i:Int)).State)&&decide ((gt l (i:Int)).State≤3)) &&
  ((decide (i=0)||!decide ((gt l (i:Int)).Id≤(gt l ((i-1:Nat):Int)).Id))&&!(l.take i).any (QdT (gt l (i:Int))))))))
theorem Qrw(l:List Claim)(hl:l.length≤2097152)(i:Nat)(hi:i<l.length):Q4 l (i:Int)=some (bif QcR l i then .inl ((i+1:Nat):Int)else .inr (.ret false)):=by
 have hin:=Qeg l i hi (by omega)
 simp only[Q4,QcR,Qr hi,Qe hi,Qn hi,Qy (show(i:Int)<9223372036854775807 by omega),cond_true,Qa,Qc,Option.bind_some,hin]
 generalize (l.take i).any (QdT l[i])=q;by_cases h0:0<i
 ·simp only[show decide (0<(i:Int))=true from decide_eq_true (by omega),show decide (i=0)=false from decide_eq_false (by omega),XX h0 (by omega),Qe (show i-1<l.length by omega),cond_true,Qa]
  cases (decide (1≤l[i].Id)&&decide (l[i].Id≤999))<;>cases (decide (1≤l[i].Who)&&decide (l[i].Who≤999))<;>cases (decide (1≤l[i].Thing)&&decide (l[i].Thing≤999))<;>cases (decide (0≤l[i].At)&&decide (l[i].At≤100000))<;>cases (decide (0≤l[i].State)&&decide (l[i].State≤3))<;>cases decide (l[i].Id≤(gt l ((i-1:Nat):Int)).Id)<;>cases q<;>rfl
 ·simp only[show decide (0<(i:Int))=false from decide_eq_false (by omega),show decide (i=0)=true from decide_eq_true (by omega),cond_false]
  cases (decide (1≤l[i].Id)&&decide (l[i].Id≤999))<;>cases (decide (1≤l[i].Who)&&decide (l[i].Who≤999))<;>cases (decide (1≤l[i].Thing)&&decide (l[i].Thing≤999))<;>cases (decide (0≤l[i].At)&&decide (l[i].At≤100000))<;>cases (decide (0≤l[i].State)&&decide (l[i].State≤3))<;>cases q<;>rfl
theorem Qlf(l:List Claim)(hl:l.length≤2097152):QF l=some ((List.range l.length).all (QcR l)&&decide ((l.length:Int)≤20)):=by
 have key:∀(m i:Nat),i+m=l.length→run (Q4 l) (i:Int)=some (bif (List.range' i m).all (QcR l)then .brk ()else .ret false):=by
  intro m
  induction m with
  |zero =>
   intro i hi;have:i=l.length:=by omega
   subst this;rw[Qg];simp only[Q4,Qv (Nat.le_refl _),cond_false,List.range'_zero,List.all_nil,cond_true,Option.bind_some]
  |succ m ih =>
   intro i hi;rw[Qg,Qrw l hl i (by omega),List.range'_succ,List.all_cons]
   cases QcR l i with
   |false=>rfl
   |true=>simp only[cond_true,Bool.true_and];exact ih (i+1) (by omega)
 unfold QF;rw[show run (Q4 l) 0=_ from key l.length 0 (by omega),←List.range_eq_range']
 cases (List.range l.length).all (QcR l)<;>rfl
theorem Qfo(l:List Claim)(h:QF l=some true)(hl:l.length≤2097152):l.length≤20∧∀i,i<l.length→QcR l i=true:=by
 rw[Qlf l hl]at h;simp only[Option.some.injEq,Bool.and_eq_true,decide_eq_true_eq,List.all_eq_true,List.mem_range]at h;exact⟨by omega,h.1⟩
theorem QnS{α:Type}[Inhabited α](l:List α)(k:Nat)(x:α)(i:Nat)(hi:i<l.length):gt (l.set k x) (i:Int)=if i=k then x else gt l (i:Int):=by
 rw[Qn (by rw[List.length_set];exact hi),Qn hi,List.getElem_set]
 by_cases h:i=k
 ·subst h;simp
 ·rw[if_neg h,if_neg (by omega)]
theorem QmQ(l:List Claim)(k i:Nat)(x y:Claim)(hi:i≤l.length)(hx:x.State≠3)(h:(l.take i).any (QdT y)=false):((l.set k x).take i).any (QdT y)=false:=by
 rw[List.any_eq_false]at h ⊢;intro z hz;obtain⟨j,hj,rfl⟩:=List.getElem_of_mem hz;have hj':j<i∧j<l.length:=by simp at hj;omega
 rw[List.getElem_take,List.getElem_set];by_cases hk:k=j
 ·rw[if_pos hk];unfold QdT;simp[hx]
 ·rw[if_neg hk]
  exact h _ (by
   rw[List.mem_take_iff_getElem];exact⟨j,by omega,rfl⟩)
theorem Qrz(l:List Claim)(k:Nat)(hk:k<l.length)(s:Int)(hs:s=1∨s=2)(hl:l.length≤1048576)(h:QF l=some true):QF (l.set k ⟨l[k].Id,l[k].Who,l[k].Thing,l[k].At,s⟩)=some true:=by
 obtain⟨h1,h2⟩:=Qfo l h (by omega)
 rw[Qlf _ (by rw[List.length_set];omega)]
 rw[List.length_set];have:(List.range l.length).all (QcR (l.set k ⟨l[k].Id,l[k].Who,l[k].Thing,l[k].At,s⟩))=true:=by
  rw[List.all_eq_true];intro i hi;rw[List.mem_range]at hi;have ho:=h2 i hi;have hgi:∀j,j<l.length→(gt (l.set k ⟨l[k].Id,l[k].Who,l[k].Thing,l[k].At,s⟩) (j:Int)).Id=(gt l (j:Int)).Id:=by
   intro j hj;rw[QnS l k _ j hj];by_cases hjk:j=k
   ·subst hjk;rw[if_pos rfl,Qn hj]
   ·rw[if_neg hjk]
  unfold QcR at ho ⊢;rw[hgi i hi,hgi (i-1) (by omega)]
  simp only[Bool.and_eq_true]at ho ⊢;obtain⟨o1,o2,o3,o4,o5,o6,o7⟩:=ho;rw[QnS l k _ i hi];by_cases hik:i=k
  ·subst hik
   rw[Qn hi]at o1 o2 o3 o4 o5 o6 o7;rw[if_pos rfl,Qn hi];refine⟨o1,o2,o3,o4,?_,o6,?_⟩
   ·rcases hs with rfl|rfl<;>exact⟨rfl,rfl⟩
   ·have hst:s≠3:=by omega
    rw[show((l.set i ⟨l[i].Id,l[i].Who,l[i].Thing,l[i].At,s⟩).take i).any (QdT ⟨l[i].Id,l[i].Who,l[i].Thing,l[i].At,s⟩)=false from by
     rw[List.any_eq_false];intro z _;unfold QdT;simp[hst]]
    rfl
  ·rw[if_neg hik]
   refine⟨o1,o2,o3,o4,o5,o6,?_⟩;have o7':(l.take i).any (QdT (gt l (i:Int)))=false:=by simpa using o7
   rw[QmQ l k i _ _ (by omega) (by show s≠3;omega) o7']
   rfl
 rw[this];simp;omega
end Go.Proofs.YtonidbheohhgdaaGreat
namespace Go.Proofs.YtonidbheohhgdaaGreat
open Go
set_option linter.unusedVariables false
set_option linter.unusedSimpArgs false
theorem QtG{n:Nat}(f:Nat→Int)(h:∀i,i<n→0<i→f (i-1)<f i):∀j i,i<j→j<n→f i<f j:=by
 intro j
 induction j with
 |zero=>intro i h1 _;omega
 |succ j ih =>
  intro i h1 h2;have h3:=h (j+1) h2 (by omega)
  rw[show j+1-1=j by omega]at h3
  by_cases hij:i=j
  ·subst hij;exact h3
  ·have:=ih i (by omega) (by omega);omega
theorem Qfm(l:List Slot)(h:∀i (hi:i<l.length) (h0:0<i),(l[i-1]'(by omega)).Id<l[i].Id)(i j:Nat)(hi:i<l.length)(hj:j<l.length)(he:l[i].Id=l[j].Id):i=j:=by
 have hu:=QtG (n:=l.length) (fun i=>(gt l (i:Int)).Id) (fun i h1 h2=>by
  show(gt l ((i-1:Nat):Int)).Id<(gt l (i:Int)).Id;rw[Qn h1,Qn (show i-1<l.length by omega)];exact h i h1 h2)
 by_cases h1:i<j
 ·have:=hu j i h1 hj
  simp only[Qn hi,Qn hj]at this;omega
 ·by_cases h2:j<i
  ·have:=hu i j h2 hi
   simp only[Qn hi,Qn hj]at this;omega
  ·omega
theorem Qjj(l:List Slot)(t:Int)(hl:l.length≤1048576):XP l t=some (bif decide (t=0)||decide (ZK l t<0)then 0 else(gt l (ZK l t)).Id):=by
 have hr:=XY l (fun x=>!decide (t=0)&&decide (x.Thing=t)) (fun i=>(gt l (i:Int)).Id) (step:=XF l t)
  (fun i hi=>by
   simp only[XF,Qr hi,Qe hi,Qn hi,Qy (show(i:Int)<9223372036854775807 by omega),cond_true,Qa]
   cases decide (t=0)<;>cases decide (l[i].Thing=t)<;>rfl)
  (by simp only[XF,Qv (Nat.le_refl _),cond_false])
 unfold XP ZK;rw[hr];cases decide (t=0)with
 |true =>
  have:l.findIdx? (fun x=>!true&&decide (x.Thing=t))=none:=by rw[List.findIdx?_eq_none_iff];intro x _;rfl
  rw[this];rfl
 |false =>
  have e:(fun x:Slot=>!false&&decide (x.Thing=t))=(fun x:Slot=>decide (x.Thing=t)):=by funext x;simp
  rw[e];cases l.findIdx? (fun x=>decide (x.Thing=t))with
  |none=>rfl
  |some i =>
   simp only[Option.bind_some,evO,Bool.false_or,decide_eq_false (show ¬(i:Int)<0 by omega),cond_false]
def Zg(l:List Slot)(t:Int):Bool:=!(decide (t=0)||decide (ZK l t<0))
theorem Qc2(l:List Slot)(t:Int)(hl:l.length≤1048576):∃c,VS l t=some c∧decide (c<0)=!Zg l t:=by
 rw[Qgf l t hl];unfold Zg;cases decide (t=0)with
 |true=>exact⟨-1,rfl,rfl⟩
 |false=>exact⟨ZK l t,rfl,by simp⟩
end Go.Proofs.YtonidbheohhgdaaGreat
namespace Go.Proofs.YtonidbheohhgdaaGreat
open Go
set_option linter.unusedVariables false
set_option linter.unusedSimpArgs false
set_option maxRecDepth 100000
theorem QnK{zs:List Int}(hs:zs.Pairwise (·≤·)):∀m,m≤zs.length→(Lib.compactUpTo zs.toArray m).Pairwise (· < ·)∧(∀x,x∈Lib.compactUpTo zs.toArray m↔x∈zs.take m)
 |0,_=>by simp[Lib.compactUpTo]
 |m+1,hm=>by
  obtain⟨h1,h2⟩:=QnK hs m (by omega)
  have hmz:m<zs.length:=by omega
  have hget:zs.toArray[m]! = zs[m]:=by rw[getElem!_pos _ m (by simpa using hmz)];simp
  rw[Lib.compactUpTo_succ,List.take_succ_eq_append_getElem hmz];by_cases h0:m=0
  ·subst h0
   rw[Lib.keeps_lt_one _ 0 (by omega),if_pos rfl,hget]
   simp[Lib.compactUpTo]
  ·have hget':zs.toArray[m-1]! = zs[m-1]:=by rw[getElem!_pos _ (m-1) (by simp;omega)];simp
   have hle:∀x∈zs.take m,x≤zs[m-1]:=by
    intro x hx;obtain⟨i,hi,rfl⟩:=List.mem_iff_getElem.1 hx;rw[List.length_take]at hi;rw[List.getElem_take];by_cases hi':i=m-1
    ·subst hi';omega
    ·exact List.pairwise_iff_getElem.1 hs i (m-1) (by omega) (by omega) (by omega)
   have hlast:zs[m-1]∈zs.take m:=by
    rw[List.mem_iff_getElem];exact⟨m-1,by rw[List.length_take];omega,List.getElem_take⟩
   have hstep:zs[m-1]≤zs[m]:=List.pairwise_iff_getElem.1 hs (m-1) m (by omega) (by omega) (by omega)
   by_cases he:zs[m]=zs[m-1]
   ·rw[Lib.keeps_neg (by omega) (by rw[hget,hget',he])]
    simp only[Bool.false_eq_true,if_false,List.append_nil];refine⟨h1,fun x=>?_⟩
    rw[h2,List.mem_append,List.mem_singleton];exact⟨.inl,fun h=>h.elim id fun h=>by rw[h,he];exact hlast⟩
   ·rw[Lib.keeps_pos (by rw[hget,hget'];exact he),if_pos rfl,hget]
    refine⟨List.pairwise_append.2 ⟨h1,by simp,fun x hx y hy=>?_⟩,fun x=>?_⟩
    ·simp only[List.mem_singleton]at hy
     subst hy;have:=hle x ((h2 x).1 hx);omega
    ·rw[List.mem_append,List.mem_append,h2]
theorem Qjl(l:List Int):(Xd (V3 l)).Pairwise (· < ·)∧∀x,x∈Xd (V3 l)↔x∈l:=by
 have hs:(V3 l).Pairwise (·≤·):=by
  have:=List.pairwise_mergeSort (le:=fun x y:Int=>decide (x≤y)) (fun a b c h1 h2=>by simp at *;omega) (fun a b=>by simp;omega) l
  unfold V3;exact this.imp fun h=>by simpa using h
 obtain⟨h1,h2⟩:=QnK hs (V3 l).length (Nat.le_refl _);refine⟨h1,fun x=>?_⟩
 have:=h2 x;rw[List.take_length]at this;exact this.trans (by unfold V3;rw[List.mem_mergeSort])
theorem Qod(a:List Int)(hal:a.length≤2097152):Vr a=some (Xd (V3 a)):=by
 have hl2:ln [a,[]]=2:=rfl;have hc:Zv [a,[]]=some a:=by
  unfold Zv;have w0:w64 (0+ln a)=ln a:=by rw[QS]<;>unfold ln<;>omega
  have w1:w64 (ln a+ln ([]:List Int))=ln a:=by rw[QS]<;>unfold ln<;>simp<;>omega
  have hneg:decide (ln a<0)=false:=decide_eq_false (by unfold ln;omega)
  have s0:Vb [a,[]] [a,[]] (ln [a,[]]) (0,0)=some (.inl (ln a,1)):=by
   have g0:gt [a,([]:List Int)] 0=a:=rfl;simp only[Vb,hl2,g0,show inb [a,([]:List Int)] 0=true from rfl,show decide ((0:Int)<2)=true from rfl,w0,hneg,cond_true,cond_false,Qa,show w64 (0+1)=1 from rfl]
  have s1:Vb [a,[]] [a,[]] (ln [a,[]]) (ln a,1)=some (.inl (ln a,2)):=by
   have g1:gt [a,([]:List Int)] 1=[]:=rfl;simp only[Vb,hl2,g1,show inb [a,([]:List Int)] 1=true from rfl,show decide ((1:Int)<2)=true from rfl,w1,hneg,cond_true,cond_false,Qa,show w64 (1+1)=2 from rfl]
  have s2:Vb [a,[]] [a,[]] (ln [a,[]]) (ln a,2)=some (.inr (ln a)):=rfl;have r1:run (Vb [a,[]] [a,[]] (ln [a,[]])) (0,0)=some (ln a):=by
   rw[Qg,s0];show run _ (ln a,1)=_;rw[Qg,s1];show run _ (ln a,2)=_;rw[Qg,s2];rfl
  have hg:Zi (ln a)=some []:=by
   unfold Zi nd;rw[show(decide (0≤ln a)&&decide (ln a≤17592186044416))=true by unfold ln;simp;omega]
   rfl
  have t0:VG [a,[]] (ln [a,[]]) ([],0)=some (.inl (a,1)):=by
   have hrm:rm (([]:List Int).length+a.length) 8=true:=by unfold rm;exact decide_eq_true (by simp;omega)
   show(bif decide ((0:Int)<2)then nd (inb [a,[]] 0)<|nd (rm (([]:List Int).length+a.length) 8)<|some (Sum.inl ([]++a,w64 (0+1)))else some (Sum.inr []))=_;rw[hrm];rfl
  have t1:VG [a,[]] (ln [a,[]]) (a,1)=some (.inl (a,2)):=by
   have hrm:rm (a.length+([]:List Int).length) 8=true:=by unfold rm;exact decide_eq_true (by simp;omega)
   show(bif decide ((1:Int)<2)then nd (inb [a,[]] 1)<|nd (rm (a.length+([]:List Int).length) 8)<|some (Sum.inl (a++[],w64 (1+1)))else some (Sum.inr a))=_;rw[hrm,List.append_nil];rfl
  have t2:VG [a,[]] (ln [a,[]]) (a,2)=some (.inr a):=rfl;have r2:run (VG [a,[]] (ln [a,[]])) ([],0)=some a:=by
   rw[Qg,t0];show run _ (a,1)=_;rw[Qg,t1];show run _ (a,2)=_;rw[Qg,t2];rfl
  rw[r1];simp only[Option.bind_some,hg,r2]
 unfold Vr;have hsl:(V3 a).length=a.length:=by unfold V3;simp
 simp only[Option.bind_some,hc,hsl,show decide (a.length<4611686018427387904)=true from decide_eq_true (by omega),Qa]
end Go.Proofs.YtonidbheohhgdaaGreat
namespace Go.Proofs.YtonidbheohhgdaaGreat
open Go
set_option linter.unusedVariables false
set_option linter.unusedSimpArgs false
theorem QjW(l:List Find)(hl:l.length≤1048576)(h:Q2 l=some true):l.length≤20∧(∀f∈l,Xn f=some true)∧l.Pairwise fun x y=>x.Thing.Id<y.Thing.Id:=by
 obtain⟨b,e1,e2,e3⟩:=QgC l (by omega)
 rw[h]at e2;injection e2 with e2
 subst e2;obtain⟨n1,n2,n3⟩:=e3 rfl;refine⟨n1,?_,?_⟩
 ·obtain⟨b,h1,h2,h3⟩:=QaK (n:=l.length) (r:=false) (s1:=QD l l (ln l)) (s2:=QD l l (ln l)) (fun i hi _=>by
    obtain⟨b,q1,q2,_⟩:=Qdp l[i];simp only[QD,Qr hi,Qe hi,Qn hi,Qy (show(i:Int)<9223372036854775807 by omega),cond_true,Qa,q2,Option.bind_some]
    by_cases h0:0<i
    ·simp only[show decide (0<(i:Int))=true from decide_eq_true (by omega),XX h0 (by omega),Qe (show i-1<l.length by omega),cond_true,Qa]
     cases b<;>cases decide (l[i].Thing.Id≤(gt l ((i-1:Nat):Int)).Thing.Id)<;>first|exact⟨true,rfl,rfl⟩|exact⟨false,rfl,rfl⟩
    ·simp only[show decide (0<(i:Int))=false from decide_eq_false (by omega),cond_false]
     cases b<;>first|exact⟨true,rfl,rfl⟩|exact⟨false,rfl,rfl⟩)
   (by simp only[QD,Qv (Nat.le_refl _),cond_false]) (by simp only[QD,Qv (Nat.le_refl _),cond_false])
  unfold Q2 at h;rw[decide_eq_false (show ¬(20:Int)<ln l by unfold ln;omega),h1]at h
  cases b with
  |false=>simp[evO]at h
  |true =>
   intro f hf;obtain⟨i,hi,rfl⟩:=List.mem_iff_getElem.1 hf;have hstep:=(h3 rfl i hi).1;obtain⟨c,q1,q2,_⟩:=Qdp l[i];simp only[QD,Qr hi,Qe hi,Qn hi,cond_true,Qa,q2,Option.bind_some]at hstep;cases c with
   |true=>exact q2
   |false=>simp at hstep
 ·refine List.pairwise_iff_getElem.2 fun i j hi hj hij=>?_
  obtain⟨d,rfl⟩:∃d,j=i+1+d:=⟨j-i-1,by omega⟩
  induction d with
  |zero=>exact n3 (i+1) (by omega) (by omega)
  |succ d ih =>
   have h1:=ih (by omega) (by omega)
   have h2:=n3 (i+1+(d+1)) (by omega) (by omega)
   have:(l[i+1+(d+1)-1]'(by omega))=l[i+1+d]'(by omega):=by congr 1
   rw[this]at h2;omega
theorem Qr3(l:List Find)(h1:l.length≤20)(h2:∀f∈l,Xn f=some true)(h3:l.Pairwise fun x y=>x.Thing.Id<y.Thing.Id):Q2 l=some true:=by
 have hr:=Xt (step:=QD l l (ln l)) (fun i=>(i:Int)) (r:=.brk ()) l.length (fun i hi=>by
   have q:=h2 _ (List.getElem_mem hi);simp only[QD,Qr hi,Qe hi,Qn hi,Qy (show(i:Int)<9223372036854775807 by omega),cond_true,Qa,q,Option.bind_some,Bool.not_true,cond_false]
   by_cases h0:0<i
   ·have hp:=List.pairwise_iff_getElem.1 h3 (i-1) i (by omega) hi (by omega)
    simp only[show decide (0<(i:Int))=true from decide_eq_true (by omega),XX h0 (by omega),Qe (show i-1<l.length by omega),Qn (show i-1<l.length by omega),cond_true,Qa,decide_eq_false (show ¬l[i].Thing.Id≤l[i-1].Thing.Id by omega),Option.bind_some,cond_false]
   ·simp only[show decide (0<(i:Int))=false from decide_eq_false (by omega),cond_false,Option.bind_some]) (by simp only[QD,Qv (Nat.le_refl _),cond_false])
 unfold Q2;rw[decide_eq_false (show ¬(20:Int)<ln l by unfold ln;omega),show run (QD l l (ln l)) 0=some (.brk ())from hr];rfl
def Qf7(a:House):List Find:=a.Finds.filter fun x=>Zg a.Slots x.Thing.Id
theorem QlZ(h:House)(hf:h.Finds.length≤1048576)(hs:h.Slots.length≤1048576):Zh h=some (Qf7 h):=by
 have hr:=QhV h.Finds (fun x=>Zg h.Slots x.Thing.Id) id (step:=X3 h h.Finds (ln h.Finds)) (fun i out hi ho=>by
   obtain⟨c,c1,c2⟩:=Qc2 h.Slots h.Finds[i].Thing.Id hs;have c3:decide (0≤c)=Zg h.Slots h.Finds[i].Thing.Id:=by
    have:decide (0≤c)=!decide (c<0):=by
     by_cases hc:c<0
     ·rw[decide_eq_true hc,decide_eq_false (show ¬0≤c by omega)];rfl
     ·rw[decide_eq_false hc,decide_eq_true (show 0≤c by omega)];rfl
    rw[this,c2,Bool.not_not]
   simp only[X3,Qr hi,Qe hi,Qn hi,Qy (show(i:Int)<9223372036854775807 by omega),QR (show out.length+1≤2000000 by omega) (show 64≤1024 by omega),cond_true,Qa,c1,c3,Option.bind_some]
   cases Zg h.Slots h.Finds[i].Thing.Id<;>rfl)
  (fun out=>by simp only[X3,Qv (Nat.le_refl _),cond_false])
 unfold Zh;rw[hr,List.map_id];rfl
theorem QjX(a:House):(Qf7 a).length≤a.Finds.length:=List.length_filter_le _ _
theorem QpL(a:House)(hl:a.Finds.length≤1048576)(h:Q2 a.Finds=some true):Q2 (Qf7 a)=some true:=by
 obtain⟨h1,h2,h3⟩:=QjW a.Finds hl h;exact Qr3 _ (by have:=QjX a;omega) (fun f hf=>h2 f (List.mem_filter.1 hf).1) (h3.filter _)
theorem QlH(l:List Int):(Xd (V3 l)).length≤l.length:=by
 have key:∀(zs:Array Int) m,(Lib.compactUpTo zs m).length≤m:=fun zs m=>by
  induction m with
  |zero=>simp[Lib.compactUpTo]
  |succ m ih =>
   rw[Lib.compactUpTo_succ,List.length_append]
   split<;>simp<;>omega
 have:=key (V3 l).toArray (V3 l).length;have hs:(V3 l).length=l.length:=by unfold V3;simp
 rw[hs]at this;rw[←hs]at this ⊢;exact this
noncomputable def hv(s k c z:Int):Int:=(QbW s k c z).getD 0
theorem Qm8(s k c z:Int):QbW s k c z=some (hv s k c z):=by
 obtain⟨x,hx⟩:=QjK [s,k,c,w64 (z.tdiv 10)] (by simp)
 have:QbW s k c z=some x:=by unfold QbW;rw[←Qon,hx];rfl
 unfold hv;rw[this];rfl
theorem QEG(x:Thing)(s:Int):QcV x s=some (hv s x.Kind x.Colour x.Size):=by
 unfold QcV;rw[Qm8];rfl
theorem Qz5(l:List Find)(s:Int)(hl:l.length≤1048576):∃r,Qcd l s=some r∧r.length≤1048576∧r.Pairwise (· < ·)∧(Q2 l=some true→∀f∈l,hv s f.Thing.Kind f.Thing.Colour f.Thing.Size∈r):=by
 obtain⟨b,_,e2,e3⟩:=QgC l (by omega)
 unfold Qcd;rw[e2];cases b with
 |false=>exact⟨[],rfl,by simp,by simp,fun h=>by cases h⟩
 |true =>
  have h20:=(e3 rfl).1;have hr:=Xt (step:=VR s l (ln l)) (fun i=>((l.take i).map fun f=>hv s f.Thing.Kind f.Thing.Colour f.Thing.Size,(i:Int))) (r:=l.map fun f=>hv s f.Thing.Kind f.Thing.Colour f.Thing.Size) l.length (fun i hi=>by
    show VR s l (ln l) ((l.take i).map (fun f=>hv s f.Thing.Kind f.Thing.Colour f.Thing.Size),(i:Int))=_
    have hlen:(List.map (fun f:Find=>hv s f.Thing.Kind f.Thing.Colour f.Thing.Size) (l.take i)).length≤20:=by rw[List.length_map,List.length_take];omega
    simp only[VR,Qr hi,Qe hi,Qn hi,Qy (show(i:Int)<9223372036854775807 by omega),QEG,Option.bind_some,cond_true,Qa,QR (show(List.map (fun f:Find=>hv s f.Thing.Kind f.Thing.Colour f.Thing.Size) (l.take i)).length+1≤2000000 by omega) (show 8≤1024 by omega)]
    rw[List.take_succ_eq_append_getElem hi,List.map_append];rfl) (by simp only[VR,Qv (Nat.le_refl _),cond_false,List.take_length])
  have hr0:run (VR s l (ln l)) ([],((0:Nat):Int))=some (l.map fun f=>hv s f.Thing.Kind f.Thing.Colour f.Thing.Size):=by
   simp only[List.take_zero,List.map_nil]at hr;exact hr
  have hu:=Qod (l.map fun f=>hv s f.Thing.Kind f.Thing.Colour f.Thing.Size) (by rw[List.length_map];omega)
  obtain⟨c1,c2⟩:=Qjl (l.map fun f=>hv s f.Thing.Kind f.Thing.Colour f.Thing.Size)
  have hg:∀x:List Int,run (VR s l (ln l)) ([],0)=some x→Vr x=some (Xd (V3 x))→((some true).bind fun r=>(bif (!r)then some []else(run (VR s l (ln l)) ([],0)).bind fun b=>(Vr b).bind fun r2=>some r2))=some (Xd (V3 x)):=fun x q1 q2=>by
   rw[Option.bind_some,q1];show(Vr x).bind _=_;rw[q2];rfl
  refine⟨_,hg _ hr0 hu,?_,c1,fun _ f hf=>(c2 _).2 (List.mem_map.2 ⟨f,hf,rfl⟩)⟩
  have:=QlH (l.map fun f=>hv s f.Thing.Kind f.Thing.Colour f.Thing.Size)
  rw[List.length_map]at this;omega
end Go.Proofs.YtonidbheohhgdaaGreat
namespace Go.Proofs.YtonidbheohhgdaaGreat
open Go
set_option linter.unusedVariables false
set_option linter.unusedSimpArgs false
def alw(l:List Int)(a:Int):Bool:=decide (ln l=0)||decide (a∈l)
theorem Qq3(l:List Int)(a:Int)(hl:l.length≤1048576):QaN l a=some (alw l a):=by
 unfold QaN alw;rw[QFz l a hl];cases decide (ln l=0)<;>rfl
theorem Qk8(l:List Int)(x y:Int)(hl:l.length≤1048576):∃b,JT l x y=some b:=by
 obtain⟨b,h1,_,_⟩:=QaK (n:=l.length) (r:=false) (s1:=VF l x y l (ln l)) (s2:=VF l x y l (ln l)) (fun i hi _=>by
   simp only[VF,Qb,Qr hi,Qe hi,Qn hi,Qy (show(i:Int)<9223372036854775807 by omega),cond_true,Qa,Option.bind_some]
   by_cases h0:0<i
   ·simp only[show decide (0<(i:Int))=true from decide_eq_true (by omega),XX h0 (by omega),Qe (show i-1<l.length by omega),cond_true,Qa]
    cases (decide (x≤l[i])&&decide (l[i]≤y))<;>cases decide (l[i]≤gt l ((i-1:Nat):Int))<;>first|exact⟨true,rfl,rfl⟩|exact⟨false,rfl,rfl⟩
   ·simp only[show decide (0<(i:Int))=false from decide_eq_false (by omega),cond_false]
    cases (decide (x≤l[i])&&decide (l[i]≤y))<;>first|exact⟨true,rfl,rfl⟩|exact⟨false,rfl,rfl⟩)
  (by simp only[VF,Qv (Nat.le_refl _),cond_false]) (by simp only[VF,Qv (Nat.le_refl _),cond_false])
 unfold JT;rw[h1];cases b with
 |true=>exact⟨true,rfl⟩
 |false=>exact⟨false,rfl⟩
theorem QpD(r:Report)(hm:Vs r):∃b,ZD r=some b∧(b=true→1≤r.SizeLow∧r.SizeHigh≤50):=by
 obtain⟨p,hp⟩:=Qk8 r.Colours 0 7 hm.1;obtain⟨q,hq⟩:=Qk8 r.Places 1 30 hm.2;unfold ZD Qec Qb;simp only[hp,hq,Option.bind_some];cases (decide (1≤r.Id)&&decide (r.Id≤999))with
 |false=>exact⟨false,rfl,fun h=>by cases h⟩
 |true =>
 cases (decide (1≤r.Kind)&&decide (r.Kind≤8))with
 |false=>exact⟨false,rfl,fun h=>by cases h⟩
 |true =>
 cases p with
 |false=>exact⟨false,rfl,fun h=>by cases h⟩
 |true =>
 by_cases h1:1≤r.SizeLow
 ·by_cases h2:r.SizeHigh≤50
  ·rw[decide_eq_true h1,decide_eq_true h2]
   cases decide (r.SizeLow≤r.SizeHigh)with
   |false=>exact⟨false,rfl,fun h=>by cases h⟩
   |true =>
   cases q with
   |false=>exact⟨false,rfl,fun h=>by cases h⟩
   |true =>
   cases decide (ln r.Places≤10)with
   |false=>exact⟨false,rfl,fun h=>by cases h⟩
   |true =>
   cases (decide (0≤r.Span.From)&&decide (r.Span.From≤100000))with
   |false=>exact⟨false,rfl,fun h=>by cases h⟩
   |true=>exact⟨_,rfl,fun _=>⟨h1,h2⟩⟩
  ·rw[decide_eq_false h2]
   cases decide (1≤r.SizeLow)<;>cases decide (r.SizeLow≤r.SizeHigh)<;>exact⟨false,rfl,fun h=>by cases h⟩
 ·rw[decide_eq_false h1]
  exact⟨false,rfl,fun h=>by cases h⟩
theorem Qtj(r:Report)(f:Find)(hm:Vs r):∃b,ZE r f=some b∧(b=true→ZD r=some true∧Xn f=some true∧r.Kind=f.Thing.Kind∧alw r.Colours f.Thing.Colour=true∧r.SizeLow≤f.Thing.Size∧f.Thing.Size≤r.SizeHigh):=by
 obtain⟨p,hp,_⟩:=QpD r hm;obtain⟨q,_,hq,_⟩:=Qdp f;unfold ZE Qd0;simp only[hp,hq,Qq3 _ _ hm.1,Qq3 _ _ hm.2,Qb,Option.bind_some];cases p with
 |false=>exact⟨false,rfl,fun h=>by cases h⟩
 |true =>
 cases q with
 |false=>exact⟨false,rfl,fun h=>by cases h⟩
 |true =>
 by_cases hk:r.Kind=f.Thing.Kind
 ·rw[decide_eq_true hk]
  cases ha:alw r.Colours f.Thing.Colour with
  |false=>exact⟨false,rfl,fun h=>by cases h⟩
  |true =>
  cases hs:(decide (r.SizeLow≤f.Thing.Size)&&decide (f.Thing.Size≤r.SizeHigh))with
  |false=>exact⟨false,rfl,fun h=>by cases h⟩
  |true =>
  simp only[Bool.and_eq_true,decide_eq_true_eq]at hs;cases alw r.Places f.Place with
  |false=>exact⟨false,rfl,fun h=>by cases h⟩
  |true =>
  cases decide (f.At<r.Span.From)<;>exact⟨_,rfl,fun _=>⟨rfl,rfl,hk,rfl,hs⟩⟩
 ·rw[decide_eq_false hk]
  exact⟨false,rfl,fun h=>by cases h⟩
theorem QpE(s:Int)(r:Report)(c a:Int)(hm:Vs r)(h1:r.SizeHigh≤50):∀(m:Nat) (o:List Int) (z:Int),(z+(m:Int)=r.SizeHigh+1∨m=0∧r.SizeHigh<z)→1≤z→o.length+m≤2000 →
  ∃o',run (JU s r c a) (o,z)=some o'∧o'.length≤o.length+m∧(∀x∈o,x∈o')∧(alw r.Colours c=true→∀y,z≤y→y≤r.SizeHigh→hv s r.Kind c y∈o'):=by
 intro m
 induction m with
 |zero =>
  intro o z hz h0 ho;refine⟨o,?_,by omega,fun x hx=>hx,fun _ y h2 h3=>by omega⟩
  rw[Qg];simp only[JU,decide_eq_false (show ¬z≤r.SizeHigh by omega),cond_false];rfl
 |succ m ih =>
  intro o z hz h0 ho;have hzz:z+((m+1:Nat):Int)=r.SizeHigh+1:=by omega
  rw[Qg];simp only[JU,decide_eq_true (show z≤r.SizeHigh by omega),cond_true,Qq3 _ _ hm.1,Option.bind_some,Qm8,QR (show o.length+1≤2000000 by omega) (show 8≤1024 by omega),Qa,show w64 (z+1)=z+1 from QS (by omega) (by omega)]
  cases ha:alw r.Colours c with
  |true =>
   obtain⟨o',q1,q2,q3,q4⟩:=ih (o++[hv s r.Kind c z]) (z+1) (by omega) (by omega) (by simp;omega)
   rw[List.length_append,List.length_singleton]at q2;refine⟨o',q1,by omega,fun x hx=>q3 x (by simp[hx]),fun _ y h2 h3=>?_⟩
   by_cases hy:y=z
   ·subst hy;exact q3 _ (by simp)
   ·exact q4 ha y (by omega) h3
  |false =>
   obtain⟨o',q1,q2,q3,q4⟩:=ih o (z+1) (by omega) (by omega) (by omega)
   exact⟨o',q1,by omega,q3,fun h=>by cases h⟩
theorem QxO(r:Report)(s:Int)(hm:Vs r):∃l,Qbl r s=some l∧l.length≤2000∧∀f,ZE r f=some true→0≤f.Thing.Colour→f.Thing.Colour<8→hv s f.Thing.Kind f.Thing.Colour f.Thing.Size∈l:=by
 obtain⟨b,e1,e2⟩:=QpD r hm;unfold Qbl;rw[e1];cases b with
 |false =>
  refine⟨[],rfl,by simp,fun f hf=>?_⟩
  obtain⟨b,h1,h2⟩:=Qtj r f hm;rw[hf]at h1;have:=(h2 (Option.some.inj h1).symm).1;rw[e1]at this;cases this
 |true =>
  obtain⟨g1,g2⟩:=e2 rfl;have key:∀(m:Nat) (o:List Int) (a:Int),a+(m:Int)=8→0≤a→o.length+51*m≤1000→∃o',run (Xq s r) (o,a)=some o'∧o'.length≤1000∧(∀x∈o,x∈o')∧∀c y,a≤c→c<8→alw r.Colours c=true→r.SizeLow≤y→y≤r.SizeHigh→hv s r.Kind c y∈o':=by
   intro m
   induction m with
   |zero =>
    intro o a ha h0 ho;refine⟨o,?_,by omega,fun x hx=>hx,fun c y h2 h3=>by omega⟩
    rw[Qg];simp only[Xq,decide_eq_false (show ¬a<8 by omega),cond_false];rfl
   |succ m ih =>
    intro o a ha h0 ho;obtain⟨o1,q1,q2,q3,q4⟩:=QpE s r a a hm g2 (r.SizeHigh+1-r.SizeLow).toNat o r.SizeLow (by omega) g1 (by omega)
    obtain⟨o2,p1,p2,p3,p4⟩:=ih o1 (a+1) (by omega) (by omega) (by omega)
    refine⟨o2,?_,p2,fun x hx=>p3 x (q3 x hx),fun c y h2 h3 h4 h5 h6=>?_⟩
    ·rw[Qg]
     simp only[Xq,decide_eq_true (show a<8 by omega),cond_true,q1,Option.bind_some,show w64 (a+1)=a+1 from QS (by omega) (by omega)]
     exact p1
    ·by_cases hc:c=a
     ·subst hc;exact p3 _ (q4 h4 y h5 h6)
     ·exact p4 c y (by omega) h3 h4 h5 h6
  obtain⟨o,q1,q2,_,q4⟩:=key 8 [] 0 (by omega) (by omega) (by simp)
  have hu:=Qod o (by omega)
  obtain⟨c1,c2⟩:=Qjl o;have hg:∀x:List Int,run (Xq s r) ([],0)=some x→Vr x=some (Xd (V3 x))→((some true).bind fun r2=>(bif (!r2)then some []else(run (Xq s r) ([],0)).bind fun b=>(Vr b).bind fun r3=>some r3))=some (Xd (V3 x)):=fun x q1 q2=>by
   rw[Option.bind_some,q1];show(Vr x).bind _=_;rw[q2];rfl
  refine⟨_,hg _ q1 hu,by have:=QlH o;omega,fun f hf h0 h8=>?_⟩
  obtain⟨b,h1,h2⟩:=Qtj r f hm;rw[hf]at h1;obtain⟨_,_,k1,k2,k3,k4⟩:=h2 (Option.some.inj h1).symm;rw[c2,←k1];exact q4 _ _ h0 h8 k2 k3 k4
theorem QFC(a b:List Int)(ha:a.length≤1048576)(hb:b.length≤1048576):∃n,ZT a b=some n∧((∃x∈a,x∈b)→0<n):=by
 obtain⟨c1,c2⟩:=Qjl a;have hl:=QlH a;have hu:=Qod a (by omega)
 generalize Xd (V3 a)=l at c1 c2 hl hu;obtain⟨n,n1,n2⟩:=Qei (n:=l.length) (step:=XK b l (ln l)) (fin:=fun n:Int=>n) (fun i n=>0≤n∧n≤(i:Int)∧((∃x∈l.take i,x∈b)→0<n)) (fun i n hi hq=>by
   simp only[XK,Qr hi,Qe hi,Qn hi,Qy (show(i:Int)<9223372036854775807 by omega),QFz _ _ hb,cond_true,Qa,Option.bind_some]
   by_cases hx:l[i]∈b
   ·rw[decide_eq_true hx]
    exact⟨n+1,by rw[show w64 (n+1)=n+1 from QS (by omega) (by omega)];rfl,by omega,by omega,fun _=>by omega⟩
   ·rw[decide_eq_false hx]
    refine⟨n,rfl,by omega,by omega,fun⟨x,h1,h2⟩=>hq.2.2 ?_⟩
    rw[List.take_succ_eq_append_getElem hi,List.mem_append,List.mem_singleton]at h1
    rcases h1 with h1|h1
    ·exact⟨x,h1,h2⟩
    ·subst h1;exact absurd h2 hx) (fun n _=>by simp only[XK,Qv (Nat.le_refl _),cond_false]) 0 ⟨by omega,by omega,fun⟨x,h1,_⟩=>by simp at h1⟩
 refine⟨n,by unfold ZT;rw[hu,Option.bind_some,n1];rfl,fun⟨x,h1,h2⟩=>n2.2.2 ⟨x,?_,h2⟩⟩
 rw[List.take_length];exact(c2 x).2 h1
theorem QzX(r:Report)(a:List Int)(s:Int)(hm:Vs r)(ha:a.length≤1048576):∃b,Zt r a s=some b∧∀f,ZE r f=some true→0≤f.Thing.Colour→f.Thing.Colour<8→hv s f.Thing.Kind f.Thing.Colour f.Thing.Size∈a→b=true:=by
 obtain⟨l,l1,l2,l3⟩:=QxO r s hm;obtain⟨n,n1,n2⟩:=QFC l a (by omega) ha
 refine⟨decide (0<n),by unfold Zt;rw[l1,Option.bind_some,n1];rfl,fun f h1 h2 h3 h4=>decide_eq_true (n2 ⟨_,l3 f h1 h2 h3,h4⟩)⟩
end Go.Proofs.YtonidbheohhgdaaGreat
namespace Go.Proofs.YtonidbheohhgdaaGreat
open Go
set_option linter.unusedVariables false
set_option linter.unusedSimpArgs false
theorem Qvg(l:List Int)(v:Int)(hl:l.length≤1048576):Qbi l v=some (decide (v∈l)):=by
 have hr:=Qfq l (fun x=>decide (x=v)) (r:=true) (step:=JW l v)
  (fun i hi=>by
   simp only[JW,Qr hi,Qe hi,Qn hi,Qy (show(i:Int)<9223372036854775807 by omega),cond_true,Qa]
   cases decide (l[i]=v)<;>rfl)
  (by simp only[JW,Qv (Nat.le_refl _),cond_false])
 unfold Qbi;rw[hr];by_cases h:v∈l
 ·rw[decide_eq_true h,List.any_eq_true.2 ⟨v,h,by simp⟩];rfl
 ·rw[decide_eq_false h,List.any_eq_false.2 (fun x hx=>by simp;rintro rfl;exact h hx)];rfl
end Go.Proofs.YtonidbheohhgdaaGreat
namespace Go.Proofs.YtonidbheohhgdaaGreat
open Go
set_option linter.unusedVariables false
set_option linter.unusedSimpArgs false
def FOk(a:House):Prop:=a.Finds.length≤1048576∧a.Slots.length≤1048576∧Q2 a.Finds=some true
theorem FOk.len{a:House}(h:FOk a):(Qf7 a).length≤20:=by
 have:=(QjW a.Finds h.1 h.2.2).1;have:=QjX a;omega
noncomputable def Qxa(r:Report)(f:Find):Bool:=(ZE r f).getD false
theorem Qq0(r:Report)(f:Find)(hm:Vs r):ZE r f=some (Qxa r f):=by
 obtain⟨b,h,_⟩:=Qtj r f hm;unfold Qxa;rw[h];rfl
noncomputable def Qcj(r:Report)(a:House):List Hit:=((Qf7 a).filter (Qxa r)).map fun f=>⟨a.No,f.Thing.Id⟩
theorem Qxx(r:Report)(a:House)(hm:Vs r)(h:FOk a):QbP r a=some (Qcj r a):=by
 have h20:=h.len;have hr:=QhV (Qf7 a) (Qxa r) (fun f=>(⟨a.No,f.Thing.Id⟩:Hit)) (step:=Z2 r a (Qf7 a) (ln (Qf7 a))) (fun i out hi ho=>by
   simp only[Z2,Qr hi,Qe hi,Qn hi,Qy (show(i:Int)<9223372036854775807 by omega),QR (show out.length+1≤2000000 by omega) (show 16≤1024 by omega),cond_true,Qa,Qq0 r _ hm,Option.bind_some]
   cases Qxa r (Qf7 a)[i]<;>rfl)
  (fun out=>by simp only[Z2,Qv (Nat.le_refl _),cond_false])
 unfold QbP;rw[QlZ a h.1 h.2.1,Option.bind_some,hr];rfl
theorem QlG(r:Report)(a:House)(h:FOk a):(Qcj r a).length≤20:=by
 have:=h.len;unfold Qcj;rw[List.length_map];exact Nat.le_trans (List.length_filter_le _ _) this
noncomputable def hh(a:House)(s:Int):List Int:=(Xc a s).getD []
theorem Qff(a:House)(s:Int)(hf:a.Finds.length≤1048576)(hs:a.Slots.length≤1048576):Xc a s=some (hh a s)∧(hh a s).length≤1048576∧(hh a s).Pairwise (· < ·)∧(Q2 a.Finds=some true→∀f∈Qf7 a,hv s f.Thing.Kind f.Thing.Colour f.Thing.Size∈hh a s):=by
 obtain⟨l,l1,l2,l3,l4⟩:=Qz5 (Qf7 a) s (by have:=QjX a;omega)
 have e:Xc a s=some l:=by unfold Xc;rw[QlZ a hf hs,Option.bind_some,l1];rfl
 have e2:hh a s=l:=by unfold hh;rw[e];rfl
 rw[e2];exact⟨e,l2,l3,fun h=>l4 (QpL a hf h)⟩
noncomputable def Qhu(r:Report)(s:Int)(a:House):Bool:=(Zt r (hh a s) s).getD false
theorem Qmb(r:Report)(s:Int)(a:House)(hm:Vs r)(h:FOk a):Zt r (hh a s) s=some (Qhu r s a)∧(Qhu r s a=false→Qcj r a=[]):=by
 obtain⟨_,h2,_,h4⟩:=Qff a s h.1 h.2.1;obtain⟨b,b1,b2⟩:=QzX r (hh a s) s hm h2;have e:Qhu r s a=b:=by unfold Qhu;rw[b1];rfl
 rw[e];refine⟨b1,fun hb=>?_⟩
 unfold Qcj;rw[List.filter_eq_nil_iff.2,List.map_nil];intro f hf hc;have hcb:ZE r f=some true:=by rw[Qq0 r f hm,hc]
 obtain⟨q,q1,q2⟩:=Qtj r f hm;rw[hcb]at q1;have hI:=(q2 (Option.some.inj q1).symm).2.1;have hcol:0≤f.Thing.Colour∧f.Thing.Colour<8:=by
  unfold Xn JK Qb at hI;simp only[Option.bind_some]at hI;cases h1:(decide (1≤f.Thing.Id)&&decide (f.Thing.Id≤999))<;>cases h2:(decide (1≤f.Thing.Kind)&&decide (f.Thing.Kind≤8))<;>cases h3:(decide (0≤f.Thing.Colour)&&decide (f.Thing.Colour≤7))<;>rw[h1,h2,h3]at hI<;>first|(simp only[Bool.and_eq_true,decide_eq_true_eq]at h3;omega)|simp at hI
 have:=b2 f hcb hcol.1 hcol.2 (h4 h.2.2 f hf);rw[hb]at this;cases this
theorem Qjf(r:Report):∀(l:List House),(∀a∈l,FOk a)→(l.flatMap (Qcj r)).length≤20*l.length
 |[],_=>by simp
 |a::l,h=>by
  have h1:=QlG r a (h a (by simp))
  have h2:=Qjf r l (fun x hx=>h x (by simp[hx]))
  rw[List.flatMap_cons,List.length_append,List.length_cons];omega
theorem Qtk{r:Report}{l:List House}{i:Nat}(hi:i<l.length):(l.take (i+1)).flatMap (Qcj r)=(l.take i).flatMap (Qcj r)++Qcj r l[i]:=by
 rw[List.take_succ_eq_append_getElem hi,List.flatMap_append];simp
theorem QBr(r:Report)(l:List House)(hm:Vs r)(hl:l.length≤1000)(h:∀a∈l,FOk a):Qb2 r l=some (l.flatMap (Qcj r)):=by
 have hr:=Xt (step:=XO r l (ln l)) (fun i=>((l.take i).flatMap (Qcj r),(i:Int))) (r:=l.flatMap (Qcj r)) l.length (fun i hi=>by
   show XO r l (ln l) ((l.take i).flatMap (Qcj r),(i:Int))=_;have hx:=h _ (List.getElem_mem hi);have h1:=Qjf r (l.take i) (fun x hx=>h x (List.mem_of_mem_take hx))
   have h2:=QlG r _ hx;rw[List.length_take]at h1;simp only[XO,Qr hi,Qe hi,Qn hi,Qy (show(i:Int)<9223372036854775807 by omega),Qxx r _ hm hx,Option.bind_some,cond_true,Qa,QR (show((l.take i).flatMap (Qcj r)).length+(Qcj r l[i]).length≤2000000 by omega) (show 16≤1024 by omega),Qtk hi]) (by simp only[XO,Qv (Nat.le_refl _),cond_false,List.take_length])
 unfold Qb2;rw[show run (XO r l (ln l)) ([],0)=some (l.flatMap (Qcj r))from hr];rfl
theorem QzV(r:Report)(l:List House)(s:Int)(hm:Vs r)(hl:l.length≤1000)(h:∀a∈l,FOk a):Qb9 r l s=some (l.flatMap (Qcj r)):=by
 have hr:=Xt (step:=XM s r l (ln l)) (fun i=>((l.take i).flatMap (Qcj r),(i:Int))) (r:=l.flatMap (Qcj r)) l.length (fun i hi=>by
   show XM s r l (ln l) ((l.take i).flatMap (Qcj r),(i:Int))=_;have hx:=h _ (List.getElem_mem hi);have h1:=Qjf r (l.take i) (fun x hx=>h x (List.mem_of_mem_take hx))
   have h2:=QlG r _ hx;rw[List.length_take]at h1;obtain⟨m1,m2⟩:=Qmb r s _ hm hx;simp only[XM,Qr hi,Qe hi,Qn hi,Qy (show(i:Int)<9223372036854775807 by omega),(Qff _ s hx.1 hx.2.1).1,m1,Qxx r _ hm hx,Option.bind_some,cond_true,Qa,QR (show((l.take i).flatMap (Qcj r)).length+(Qcj r l[i]).length≤2000000 by omega) (show 16≤1024 by omega),Qtk hi]
   cases hb:Qhu r s l[i]with
   |true=>rfl
   |false=>rw[m2 hb,List.append_nil];rfl) (by simp only[XM,Qv (Nat.le_refl _),cond_false,List.take_length])
 unfold Qb9;rw[show run (XM s r l (ln l)) ([],0)=some (l.flatMap (Qcj r))from hr];rfl
theorem QpU(r:Report)(l:List House)(s:Int)(hm:Vs r)(hl:l.length≤1000)(h:∀a∈l,FOk a):Z0 r l s=some ((l.filter (Qhu r s)).map fun a=>a.No):=by
 have hr:=QhV l (Qhu r s) (fun a=>a.No) (step:=XJ s r l (ln l)) (fun i out hi ho=>by
   have hx:=h _ (List.getElem_mem hi);obtain⟨m1,m2⟩:=Qmb r s _ hm hx;simp only[XJ,Qr hi,Qe hi,Qn hi,Qy (show(i:Int)<9223372036854775807 by omega),(Qff _ s hx.1 hx.2.1).1,m1,Option.bind_some,cond_true,Qa,QR (show out.length+1≤2000000 by omega) (show 8≤1024 by omega)]
   cases Qhu r s l[i]<;>rfl)
  (fun out=>by simp only[XJ,Qv (Nat.le_refl _),cond_false])
 unfold Z0;rw[hr];rfl
theorem Quj(r:Report)(l:List House)(s:Int)(hm:Vs r)(h:∀a∈l,FOk a)(x:Hit)(hx:x∈l.flatMap (Qcj r)):x.House∈(l.filter (Qhu r s)).map fun a=>a.No:=by
 obtain⟨a,ha,hxa⟩:=List.mem_flatMap.1 hx;have e:x.House=a.No:=by
  unfold Qcj at hxa;obtain⟨f,_,rfl⟩:=List.mem_map.1 hxa;rfl
 rw[e];refine List.mem_map.2 ⟨a,List.mem_filter.2 ⟨ha,?_⟩,rfl⟩;cases hb:Qhu r s a with
 |true=>rfl
 |false=>rw[(Qmb r s a hm (h a ha)).2 hb]at hxa;simp at hxa
theorem QAS(a:List Hit)(hm:a.length≤1048576):J0 a a=some true:=by
 have q:∀x:Hit,QnY x x=true:=fun x=>by simp[QnY]
 have h:=Xt (step:=VV a a (ln a)) (fun i=>(i:Int)) (r:=.brk ()) a.length (fun i hi=>by simp only[VV,Qr hi,Qe hi,Qn hi,q,Bool.not_true,Qy (show(i:Int)<9223372036854775807 by omega),cond_true,cond_false,Qa]) (by simp only[VV,Qv (Nat.le_refl _),cond_false])
 unfold J0;rw[show run (VV a a (ln a)) 0=some (.brk ())from h,decide_eq_true rfl];rfl
theorem Qne(a:List Hit)(hm:a.length≤1048576):VO a a=some true:=by unfold VO;rw[QAS a hm];rfl
theorem QqO(a b:List Hit)(h:a.length≠b.length):VO a b=some false:=by
 unfold VO J0;rw[decide_eq_false (show ¬ln a=ln b by unfold ln;omega)];rfl
theorem QO9(l:List Int)(hl:l.length≤1048576)(h:l.Pairwise (· < ·)):Qcm l=some true:=by
 have hr:=Xt (step:=JB l) (fun i=>((i+1:Nat):Int)) (r:=.brk ()) (l.length-1) (fun i hi=>by
   have hp:=List.pairwise_iff_getElem.1 h i (i+1) (by omega) (by omega) (by omega)
   simp only[JB,Qr (show i+1<l.length by omega),XX (show 0<i+1 by omega) (show((i+1:Nat):Int)≤9223372036854775807 by omega),Qe (show i+1<l.length by omega),Qe (show i<l.length by omega),Qn (show i+1<l.length by omega),Qn (show i<l.length by omega),Qy (show((i+1:Nat):Int)<9223372036854775807 by omega),cond_true,Qa,Nat.add_sub_cancel,decide_eq_false (show ¬l[i+1]≤l[i]by omega),cond_false]) (by simp only[JB,Qv (show l.length≤l.length-1+1 by omega),cond_false])
 unfold Qcm;rw[show run (JB l) 1=some (.brk ())from hr];rfl
end Go.Proofs.YtonidbheohhgdaaGreat
