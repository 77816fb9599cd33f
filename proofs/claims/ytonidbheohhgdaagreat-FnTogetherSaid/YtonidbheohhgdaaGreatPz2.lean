import Derived.Test.YtonidbheohhgdaaGreatPz1
import Derived.Test.YtonidbheohhgdaaGreatFam
namespace Go.Proofs.YtonidbheohhgdaaGreat
open Go
set_option linter.unusedVariables false
set_option linter.unusedSimpArgs false
noncomputable def XT(h:House):Bool:=(Vn h).getD false
theorem Xq(h:House)(hm:Qj h):QJ h=some (XT h)∧Vn h=some (XT h):=by
 obtain⟨c,c1,c2⟩:=Qtm h hm;unfold XT;rw[c1,c2];exact⟨rfl,rfl⟩
theorem QgM(h:House)(hm:Qj h)(hb:XT h=true):HouseOk h:=Qsv h hm (by rw[(Xq h hm).2,hb])
theorem QiQ(l:List Secret)(hl:smL QcG l):Zs l=some l:=by
 have hlen:=hl.1;have h1:=Xu (step:=Jh l (ln l)) (fun i=>(l.take i,(i:Int))) (r:=l) l.length (fun i hi=>by
   have hm:l[i].Marks.length≤1048576:=hl.2 _ (List.getElem_mem hi);have hr1:rm (0+l[i].Marks.length) 16=true:=QR (by omega) (by omega)
   have hr2:rm ((l.take i).length+1) 40=true:=QR (by rw[List.length_take];omega) (by omega)
   simp only[Jh,Js,Qr hi,Qe hi,Qn hi,hr1,hr2,cond_true,Qa,Option.bind_some,Qy (show(i:Int)<9223372036854775807 by omega)]
   rw[List.take_succ_eq_append_getElem hi])
  (by simp only[Jh,Qv (Nat.le_refl _),cond_false,List.take_length])
 unfold Zs;rw[show run (Jh l (ln l)) ([],0)=_ from by simpa using h1];rfl
theorem JD(h:House)(hm:Qj h):QW h=some h:=by
 obtain⟨m1,m2,m3,m4,m5,m6,m7⟩:=hm;unfold QW Zz Jm Vv Qdw XC J5;simp only[QiQ _ m2,QR (show 0+h.Finds.length≤2000000 by omega) (show 64≤1024 by omega),QR (show 0+h.Slots.length≤2000000 by omega) (show 24≤1024 by omega),QR (show 0+h.Claims.length≤2000000 by omega) (show 40≤1024 by omega),
  QR (show 0+h.Trials.length≤2000000 by omega) (show 32≤1024 by omega),QR (show 0+h.Chain.length≤2000000 by omega) (show 40≤1024 by omega),QR (show 0+h.Book.length≤2000000 by omega) (show 32≤1024 by omega),Qa,Option.bind_some]
theorem QmA(l:List Bool)(hl:l.length≤1048576):Xn l false=some (!l.all id):=by
 have hr:=XY l (fun x=>decide (false=x)) (fun i=>(i:Int)) (step:=Zw l false (ln l))
  (fun i hi=>by
   simp only[Zw,Qr hi,Qe hi,Qn hi,Qy (show(i:Int)<9223372036854775807 by omega),cond_true,Qa]
   cases decide (false=l[i])<;>rfl)
  (by simp only[Zw,Qv (Nat.le_refl _),cond_false])
 unfold Xn Qd2;rw[hr];have hall:l.all id=(l.findIdx? (fun x=>decide (false=x))).isNone:=by
  cases hf:l.findIdx? (fun x=>decide (false=x))with
  |none =>
   rw[List.findIdx?_eq_none_iff]at hf;simp only[Option.isNone_none,List.all_eq_true];intro x hx;have:=hf x hx;cases x<;>simp at this ⊢
  |some i =>
   obtain⟨hlt,hp⟩:=Qa8 hf;simp only[Option.isNone_some];rw[List.all_eq_false];exact⟨l[i],List.getElem_mem hlt,by simp at hp;simp[←hp]⟩
 rw[hall];cases l.findIdx? (fun x=>decide (false=x))with
 |none=>rfl
 |some i =>
  simp only[Option.bind_some,evO];rw[decide_eq_true (show(0:Int)≤(i:Int)by omega)];rfl
noncomputable def Qbc(h out:House)(ok:Bool):House×Bool:=bif ok&&(XT h&&XT out)then(out,true)else(h,false)
theorem ZT(h out:House)(ok:Bool)(hm:Qj h)(ho:Qj out):Qj (Qbc h out ok).1:=by
 unfold Qbc;cases ok&&(XT h&&XT out)<;>assumption
theorem Qd3(h out:House):Qbc h out false=(h,false):=rfl
theorem Qvm(h out:House)(ok:Bool)(hb:XT h=false):Qbc h out ok=(h,false):=by
 unfold Qbc;rw[hb];cases ok<;>rfl
theorem Qca(h out:House)(ok:Bool)(hm:Qj h)(ho:Qj out):Qk h out ok=some (Qbc h out ok):=by
 unfold Qk Qbc;simp only[(Xq h hm).1,(Xq out ho).1,Xt h hm,Option.bind_some];cases ok<;>cases XT h<;>cases XT out<;>rfl
theorem smH{h:House}(hm:Qj h){f:List Find}{s:List Secret}{t:List Slot}{c:List Claim}{r:List Trial}{n:List Hand}{b:List Entry}{k:Int}(h1:f.length≤1048576)(h2:smL QcG s)(h3:t.length≤1048576)(h4:c.length≤1048576)(h5:r.length≤1048576)(h6:n.length≤1048576)(h7:b.length≤1048576) :
  Qj ⟨h.No,f,s,t,c,r,n,b,k⟩:=⟨h1,h2,h3,h4,h5,h6,h7⟩
end Go.Proofs.YtonidbheohhgdaaGreat
namespace Go.Proofs.YtonidbheohhgdaaGreat
open Go
set_option linter.unusedVariables false
set_option linter.unusedSimpArgs false
def QcM(l:List Claim)(i:Nat):Bool :=
 (decide (1≤(gt l (i:Int)).Id)&&decide ((gt l (i:Int)).Id≤999))&&((decide (1≤(gt l (i:Int)).Who)&&decide ((gt l (i:Int)).Who≤999))&&((decide (1≤(gt l (i:Int)).Thing)&&decide ((gt l (i:Int)).Thing≤999))&&((decide (0≤(gt l (i:Int)).At)&&decide ((gt l (i:Int)).At≤100000))&&((decide (0≤(gt l (i:Int)).State)&&decide ((gt l (i:Int)).State≤3)) &&
  ((decide (i=0)||!decide ((gt l (i:Int)).Id≤(gt l ((i-1:Nat):Int)).Id))&&!(l.take i).any (QdM (gt l (i:Int))))))))
theorem QrW(l:List Claim)(hl:l.length≤2097152)(i:Nat)(hi:i<l.length):Q4 l (i:Int)=some (bif QcM l i then .inl ((i+1:Nat):Int)else .inr (.ret false)):=by
 have hin:=Qer l i hi (by omega)
 simp only[Q4,QcM,Qr hi,Qe hi,Qn hi,Qy (show(i:Int)<9223372036854775807 by omega),cond_true,Qa,Qc,Option.bind_some,hin]
 generalize (l.take i).any (QdM l[i])=q;by_cases h0:0<i
 ·simp only[show decide (0<(i:Int))=true from decide_eq_true (by omega),show decide (i=0)=false from decide_eq_false (by omega),XW h0 (by omega),Qe (show i-1<l.length by omega),cond_true,Qa]
  cases (decide (1≤l[i].Id)&&decide (l[i].Id≤999))<;>cases (decide (1≤l[i].Who)&&decide (l[i].Who≤999))<;>cases (decide (1≤l[i].Thing)&&decide (l[i].Thing≤999))<;>cases (decide (0≤l[i].At)&&decide (l[i].At≤100000))<;>cases (decide (0≤l[i].State)&&decide (l[i].State≤3))<;>cases decide (l[i].Id≤(gt l ((i-1:Nat):Int)).Id)<;>cases q<;>rfl
 ·simp only[show decide (0<(i:Int))=false from decide_eq_false (by omega),show decide (i=0)=true from decide_eq_true (by omega),cond_false]
  cases (decide (1≤l[i].Id)&&decide (l[i].Id≤999))<;>cases (decide (1≤l[i].Who)&&decide (l[i].Who≤999))<;>cases (decide (1≤l[i].Thing)&&decide (l[i].Thing≤999))<;>cases (decide (0≤l[i].At)&&decide (l[i].At≤100000))<;>cases (decide (0≤l[i].State)&&decide (l[i].State≤3))<;>cases q<;>rfl
theorem Qlm(l:List Claim)(hl:l.length≤2097152):QF l=some ((List.range l.length).all (QcM l)&&decide ((l.length:Int)≤20)):=by
 have key:∀(m i:Nat),i+m=l.length→run (Q4 l) (i:Int)=some (bif (List.range' i m).all (QcM l)then .brk ()else .ret false):=by
  intro m
  induction m with
  |zero =>
   intro i hi;have:i=l.length:=by omega
   subst this;rw[Qg];simp only[Q4,Qv (Nat.le_refl _),cond_false,List.range'_zero,List.all_nil,cond_true,Option.bind_some]
  |succ m ih =>
   intro i hi;rw[Qg,QrW l hl i (by omega),List.range'_succ,List.all_cons]
   cases QcM l i with
   |false=>rfl
   |true=>simp only[cond_true,Bool.true_and];exact ih (i+1) (by omega)
 unfold QF;rw[show run (Q4 l) 0=_ from key l.length 0 (by omega),←List.range_eq_range']
 cases (List.range l.length).all (QcM l)<;>rfl
theorem Qfl(l:List Claim)(h:QF l=some true)(hl:l.length≤2097152):l.length≤20∧∀i,i<l.length→QcM l i=true:=by
 rw[Qlm l hl]at h;simp only[Option.some.injEq,Bool.and_eq_true,decide_eq_true_eq,List.all_eq_true,List.mem_range]at h;exact⟨by omega,h.1⟩
theorem Qoj{α:Type}[Inhabited α](l:List α)(k:Nat)(x:α)(i:Nat)(hi:i<l.length):gt (l.set k x) (i:Int)=if i=k then x else gt l (i:Int):=by
 rw[Qn (by rw[List.length_set];exact hi),Qn hi,List.getElem_set]
 by_cases h:i=k
 ·subst h;simp
 ·rw[if_neg h,if_neg (by omega)]
theorem QmX(l:List Claim)(k i:Nat)(x y:Claim)(hi:i≤l.length)(hx:x.State≠3)(h:(l.take i).any (QdM y)=false):((l.set k x).take i).any (QdM y)=false:=by
 rw[List.any_eq_false]at h ⊢;intro z hz;obtain⟨j,hj,rfl⟩:=List.getElem_of_mem hz;have hj':j<i∧j<l.length:=by simp at hj;omega
 rw[List.getElem_take,List.getElem_set];by_cases hk:k=j
 ·rw[if_pos hk];unfold QdM;simp[hx]
 ·rw[if_neg hk]
  exact h _ (by
   rw[List.mem_take_iff_getElem];exact⟨j,by omega,rfl⟩)
theorem Qr0(l:List Claim)(k:Nat)(hk:k<l.length)(s:Int)(hs:s=1∨s=2)(hl:l.length≤1048576)(h:QF l=some true):QF (l.set k ⟨l[k].Id,l[k].Who,l[k].Thing,l[k].At,s⟩)=some true:=by
 obtain⟨h1,h2⟩:=Qfl l h (by omega)
 rw[Qlm _ (by rw[List.length_set];omega)]
 rw[List.length_set];have:(List.range l.length).all (QcM (l.set k ⟨l[k].Id,l[k].Who,l[k].Thing,l[k].At,s⟩))=true:=by
  rw[List.all_eq_true];intro i hi;rw[List.mem_range]at hi;have ho:=h2 i hi;have hgi:∀j,j<l.length→(gt (l.set k ⟨l[k].Id,l[k].Who,l[k].Thing,l[k].At,s⟩) (j:Int)).Id=(gt l (j:Int)).Id:=by
   intro j hj;rw[Qoj l k _ j hj];by_cases hjk:j=k
   ·subst hjk;rw[if_pos rfl,Qn hj]
   ·rw[if_neg hjk]
  unfold QcM at ho ⊢;rw[hgi i hi,hgi (i-1) (by omega)]
  simp only[Bool.and_eq_true]at ho ⊢;obtain⟨o1,o2,o3,o4,o5,o6,o7⟩:=ho;rw[Qoj l k _ i hi];by_cases hik:i=k
  ·subst hik
   rw[Qn hi]at o1 o2 o3 o4 o5 o6 o7;rw[if_pos rfl,Qn hi];refine⟨o1,o2,o3,o4,?_,o6,?_⟩
   ·rcases hs with rfl|rfl<;>exact⟨rfl,rfl⟩
   ·have hst:s≠3:=by omega
    rw[show((l.set i ⟨l[i].Id,l[i].Who,l[i].Thing,l[i].At,s⟩).take i).any (QdM ⟨l[i].Id,l[i].Who,l[i].Thing,l[i].At,s⟩)=false from by
     rw[List.any_eq_false];intro z _;unfold QdM;simp[hst]]
    rfl
  ·rw[if_neg hik]
   refine⟨o1,o2,o3,o4,o5,o6,?_⟩;have o7':(l.take i).any (QdM (gt l (i:Int)))=false:=by simpa using o7
   rw[QmX l k i _ _ (by omega) (by show s≠3;omega) o7']
   rfl
 rw[this];simp;omega
end Go.Proofs.YtonidbheohhgdaaGreat
namespace Go.Proofs.YtonidbheohhgdaaGreat
open Go
set_option linter.unusedVariables false
set_option linter.unusedSimpArgs false
theorem Qsj{n:Nat}(f:Nat→Int)(h:∀i,i<n→0<i→f (i-1)<f i):∀j i,i<j→j<n→f i<f j:=by
 intro j
 induction j with
 |zero=>intro i h1 _;omega
 |succ j ih =>
  intro i h1 h2;have h3:=h (j+1) h2 (by omega)
  rw[show j+1-1=j by omega]at h3
  by_cases hij:i=j
  ·subst hij;exact h3
  ·have:=ih i (by omega) (by omega);omega
theorem Qfg(l:List Slot)(h:∀i (hi:i<l.length) (h0:0<i),(l[i-1]'(by omega)).Id<l[i].Id)(i j:Nat)(hi:i<l.length)(hj:j<l.length)(he:l[i].Id=l[j].Id):i=j:=by
 have hu:=Qsj (n:=l.length) (fun i=>(gt l (i:Int)).Id) (fun i h1 h2=>by
  show(gt l ((i-1:Nat):Int)).Id<(gt l (i:Int)).Id;rw[Qn h1,Qn (show i-1<l.length by omega)];exact h i h1 h2)
 by_cases h1:i<j
 ·have:=hu j i h1 hj
  simp only[Qn hi,Qn hj]at this;omega
 ·by_cases h2:j<i
  ·have:=hu i j h2 hi
   simp only[Qn hi,Qn hj]at this;omega
  ·omega
theorem Qh8(l:List Slot)(t:Int)(hl:l.length≤1048576):XO l t=some (bif decide (t=0)||decide (ZJ l t<0)then 0 else(gt l (ZJ l t)).Id):=by
 have hr:=XY l (fun x=>!decide (t=0)&&decide (x.Thing=t)) (fun i=>(gt l (i:Int)).Id) (step:=XF l t)
  (fun i hi=>by
   simp only[XF,Qr hi,Qe hi,Qn hi,Qy (show(i:Int)<9223372036854775807 by omega),cond_true,Qa]
   cases decide (t=0)<;>cases decide (l[i].Thing=t)<;>rfl)
  (by simp only[XF,Qv (Nat.le_refl _),cond_false])
 unfold XO ZJ;rw[hr];cases decide (t=0)with
 |true =>
  have:l.findIdx? (fun x=>!true&&decide (x.Thing=t))=none:=by rw[List.findIdx?_eq_none_iff];intro x _;rfl
  rw[this];rfl
 |false =>
  have e:(fun x:Slot=>!false&&decide (x.Thing=t))=(fun x:Slot=>decide (x.Thing=t)):=by funext x;simp
  rw[e];cases l.findIdx? (fun x=>decide (x.Thing=t))with
  |none=>rfl
  |some i =>
   simp only[Option.bind_some,evO,Bool.false_or,decide_eq_false (show ¬(i:Int)<0 by omega),cond_false]
def Zg(l:List Slot)(t:Int):Bool:=!(decide (t=0)||decide (ZJ l t<0))
theorem Qc1(l:List Slot)(t:Int)(hl:l.length≤1048576):∃c,VQ l t=some c∧decide (c<0)=!Zg l t:=by
 rw[Qf2 l t hl];unfold Zg;cases decide (t=0)with
 |true=>exact⟨-1,rfl,rfl⟩
 |false=>exact⟨ZJ l t,rfl,by simp⟩
end Go.Proofs.YtonidbheohhgdaaGreat
namespace Go.Proofs.YtonidbheohhgdaaGreat
open Go
set_option linter.unusedVariables false
set_option linter.unusedSimpArgs false
set_option maxRecDepth 100000
theorem Qm2{zs:List Int}(hs:zs.Pairwise (·≤·)):∀m,m≤zs.length→(Lib.compactUpTo zs.toArray m).Pairwise (· < ·)∧(∀x,x∈Lib.compactUpTo zs.toArray m↔x∈zs.take m)
 |0,_=>by simp[Lib.compactUpTo]
 |m+1,hm=>by
  obtain⟨h1,h2⟩:=Qm2 hs m (by omega)
  have hmz:m<zs.length:=by omega
  have hget:zs.toArray[m]!=zs[m]:=by rw[getElem!_pos _ m (by simpa using hmz)];simp
  rw[Lib.compactUpTo_succ,List.take_succ_eq_append_getElem hmz];by_cases h0:m=0
  ·subst h0
   rw[Lib.keeps_lt_one _ 0 (by omega),if_pos rfl,hget]
   simp[Lib.compactUpTo]
  ·have hget':zs.toArray[m-1]!=zs[m-1]:=by rw[getElem!_pos _ (m-1) (by simp;omega)];simp
   have hle:∀x∈zs.take m,x≤zs[m-1]:=by
    intro x hx;obtain⟨i,hi,rfl⟩:=List.mem_iff_getElem.1 hx;rw[List.length_take]at hi;rw[List.getElem_take];by_cases hi':i=m-1
    ·subst hi';omega
    ·exact List.pairwise_iff_getElem.1 hs i (m-1) (by omega) (by omega) (by omega)
   have hlast:zs[m-1]∈zs.take m:=by
    rw[List.mem_iff_getElem];exact⟨m-1,by rw[List.length_take];omega,List.getElem_take⟩
   have hstep:zs[m-1]≤zs[m]:=List.pairwise_iff_getElem.1 hs (m-1) m (by omega) (by omega) (by omega)
   by_cases he:zs[m]=zs[m-1]
   ·rw[Lib.keeps_neg (by omega) (by rw[hget,hget',he])]
    simp only[Bool.false_eq_true,if_false,List.append_nil];refine⟨h1,fun x=>?_⟩
    rw[h2,List.mem_append,List.mem_singleton];exact⟨.inl,fun h=>h.elim id fun h=>by rw[h,he];exact hlast⟩
   ·rw[Lib.keeps_pos (by rw[hget,hget'];exact he),if_pos rfl,hget]
    refine⟨List.pairwise_append.2 ⟨h1,by simp,fun x hx y hy=>?_⟩,fun x=>?_⟩
    ·simp only[List.mem_singleton]at hy
     subst hy;have:=hle x ((h2 x).1 hx);omega
    ·rw[List.mem_append,List.mem_append,h2]
theorem QjN(l:List Int):(Xd (VZ l)).Pairwise (· < ·)∧∀x,x∈Xd (VZ l)↔x∈l:=by
 have hs:(VZ l).Pairwise (·≤·):=by
  have:=List.pairwise_mergeSort (le:=fun x y:Int=>decide (x≤y)) (fun a b c h1 h2=>by simp at *;omega) (fun a b=>by simp;omega) l
  unfold VZ;exact this.imp fun h=>by simpa using h
 obtain⟨h1,h2⟩:=Qm2 hs (VZ l).length (Nat.le_refl _);refine⟨h1,fun x=>?_⟩
 have:=h2 x;rw[List.take_length]at this;exact this.trans (by unfold VZ;rw[List.mem_mergeSort])
theorem QoG(a:List Int)(hal:a.length≤2097152):Vp a=some (Xd (VZ a)):=by
 have hl2:ln [a,[]]=2:=rfl;have hc:ZB [a,[]]=some a:=by
  unfold ZB;have w0:w64 (0+ln a)=ln a:=by rw[QS]<;>unfold ln<;>omega
  have w1:w64 (ln a+ln ([]:List Int))=ln a:=by rw[QS]<;>unfold ln<;>simp<;>omega
  have hneg:decide (ln a<0)=false:=decide_eq_false (by unfold ln;omega)
  have s0:Vd [a,[]] [a,[]] (ln [a,[]]) (0,0)=some (.inl (ln a,1)):=by
   have g0:gt [a,([]:List Int)] 0=a:=rfl;simp only[Vd,hl2,g0,show inb [a,([]:List Int)] 0=true from rfl,show decide ((0:Int)<2)=true from rfl,w0,hneg,cond_true,cond_false,Qa,show w64 (0+1)=1 from rfl]
  have s1:Vd [a,[]] [a,[]] (ln [a,[]]) (ln a,1)=some (.inl (ln a,2)):=by
   have g1:gt [a,([]:List Int)] 1=[]:=rfl;simp only[Vd,hl2,g1,show inb [a,([]:List Int)] 1=true from rfl,show decide ((1:Int)<2)=true from rfl,w1,hneg,cond_true,cond_false,Qa,show w64 (1+1)=2 from rfl]
  have s2:Vd [a,[]] [a,[]] (ln [a,[]]) (ln a,2)=some (.inr (ln a)):=rfl;have r1:run (Vd [a,[]] [a,[]] (ln [a,[]])) (0,0)=some (ln a):=by
   rw[Qg,s0];show run _ (ln a,1)=_;rw[Qg,s1];show run _ (ln a,2)=_;rw[Qg,s2];rfl
  have hg:Zk (ln a)=some []:=by
   unfold Zk nd;rw[show(decide (0≤ln a)&&decide (ln a≤17592186044416))=true by unfold ln;simp;omega]
   rfl
  have t0:VJ [a,[]] (ln [a,[]]) ([],0)=some (.inl (a,1)):=by
   have hrm:rm (([]:List Int).length+a.length) 8=true:=by unfold rm;exact decide_eq_true (by simp;omega)
   show(bif decide ((0:Int)<2)then nd (inb [a,[]] 0)<|nd (rm (([]:List Int).length+a.length) 8)<|some (Sum.inl ([]++a,w64 (0+1)))else some (Sum.inr []))=_;rw[hrm];rfl
  have t1:VJ [a,[]] (ln [a,[]]) (a,1)=some (.inl (a,2)):=by
   have hrm:rm (a.length+([]:List Int).length) 8=true:=by unfold rm;exact decide_eq_true (by simp;omega)
   show(bif decide ((1:Int)<2)then nd (inb [a,[]] 1)<|nd (rm (a.length+([]:List Int).length) 8)<|some (Sum.inl (a++[],w64 (1+1)))else some (Sum.inr a))=_;rw[hrm,List.append_nil];rfl
  have t2:VJ [a,[]] (ln [a,[]]) (a,2)=some (.inr a):=rfl;have r2:run (VJ [a,[]] (ln [a,[]])) ([],0)=some a:=by
   rw[Qg,t0];show run _ (a,1)=_;rw[Qg,t1];show run _ (a,2)=_;rw[Qg,t2];rfl
  rw[r1];simp only[Option.bind_some,hg,r2]
 unfold Vp;have hsl:(VZ a).length=a.length:=by unfold VZ;simp
 simp only[Option.bind_some,hc,hsl,show decide (a.length<4611686018427387904)=true from decide_eq_true (by omega),Qa]
end Go.Proofs.YtonidbheohhgdaaGreat
namespace Go.Proofs.YtonidbheohhgdaaGreat
open Go
set_option linter.unusedVariables false
set_option linter.unusedSimpArgs false
theorem QjY(l:List Find)(hl:l.length≤1048576)(h:Q2 l=some true):l.length≤20∧(∀f∈l,Xm f=some true)∧l.Pairwise fun x y=>x.Thing.Id<y.Thing.Id:=by
 obtain⟨b,e1,e2,e3⟩:=QgK l (by omega)
 rw[h]at e2;injection e2 with e2
 subst e2;obtain⟨n1,n2,n3⟩:=e3 rfl;refine⟨n1,?_,?_⟩
 ·obtain⟨b,h1,h2,h3⟩:=QaQ (n:=l.length) (r:=false) (s1:=QD l l (ln l)) (s2:=QD l l (ln l)) (fun i hi _=>by
    obtain⟨b,q1,q2,_⟩:=Qdn l[i];simp only[QD,Qr hi,Qe hi,Qn hi,Qy (show(i:Int)<9223372036854775807 by omega),cond_true,Qa,q2,Option.bind_some]
    by_cases h0:0<i
    ·simp only[show decide (0<(i:Int))=true from decide_eq_true (by omega),XW h0 (by omega),Qe (show i-1<l.length by omega),cond_true,Qa]
     cases b<;>cases decide (l[i].Thing.Id≤(gt l ((i-1:Nat):Int)).Thing.Id)<;>first|exact⟨true,rfl,rfl⟩|exact⟨false,rfl,rfl⟩
    ·simp only[show decide (0<(i:Int))=false from decide_eq_false (by omega),cond_false]
     cases b<;>first|exact⟨true,rfl,rfl⟩|exact⟨false,rfl,rfl⟩)
   (by simp only[QD,Qv (Nat.le_refl _),cond_false]) (by simp only[QD,Qv (Nat.le_refl _),cond_false])
  unfold Q2 at h;rw[decide_eq_false (show ¬(20:Int)<ln l by unfold ln;omega),h1]at h
  cases b with
  |false=>simp[evO]at h
  |true =>
   intro f hf;obtain⟨i,hi,rfl⟩:=List.mem_iff_getElem.1 hf;have hstep:=(h3 rfl i hi).1;obtain⟨c,q1,q2,_⟩:=Qdn l[i];simp only[QD,Qr hi,Qe hi,Qn hi,cond_true,Qa,q2,Option.bind_some]at hstep;cases c with
   |true=>exact q2
   |false=>simp at hstep
 ·refine List.pairwise_iff_getElem.2 fun i j hi hj hij=>?_
  obtain⟨d,rfl⟩:∃d,j=i+1+d:=⟨j-i-1,by omega⟩
  induction d with
  |zero=>exact n3 (i+1) (by omega) (by omega)
  |succ d ih =>
   have h1:=ih (by omega) (by omega)
   have h2:=n3 (i+1+(d+1)) (by omega) (by omega)
   have:(l[i+1+(d+1)-1]'(by omega))=l[i+1+d]'(by omega):=by congr 1
   rw[this]at h2;omega
theorem Qrb(l:List Find)(h1:l.length≤20)(h2:∀f∈l,Xm f=some true)(h3:l.Pairwise fun x y=>x.Thing.Id<y.Thing.Id):Q2 l=some true:=by
 have hr:=Xu (step:=QD l l (ln l)) (fun i=>(i:Int)) (r:=.brk ()) l.length (fun i hi=>by
   have q:=h2 _ (List.getElem_mem hi);simp only[QD,Qr hi,Qe hi,Qn hi,Qy (show(i:Int)<9223372036854775807 by omega),cond_true,Qa,q,Option.bind_some,Bool.not_true,cond_false]
   by_cases h0:0<i
   ·have hp:=List.pairwise_iff_getElem.1 h3 (i-1) i (by omega) hi (by omega)
    simp only[show decide (0<(i:Int))=true from decide_eq_true (by omega),XW h0 (by omega),Qe (show i-1<l.length by omega),Qn (show i-1<l.length by omega),cond_true,Qa,decide_eq_false (show ¬l[i].Thing.Id≤l[i-1].Thing.Id by omega),Option.bind_some,cond_false]
   ·simp only[show decide (0<(i:Int))=false from decide_eq_false (by omega),cond_false,Option.bind_some]) (by simp only[QD,Qv (Nat.le_refl _),cond_false])
 unfold Q2;rw[decide_eq_false (show ¬(20:Int)<ln l by unfold ln;omega),show run (QD l l (ln l)) 0=some (.brk ())from hr];rfl
def Qgo(a:House):List Find:=a.Finds.filter fun x=>Zg a.Slots x.Thing.Id
theorem QlI(h:House)(hf:h.Finds.length≤1048576)(hs:h.Slots.length≤1048576):Zl h=some (Qgo h):=by
 have hr:=QhN h.Finds (fun x=>Zg h.Slots x.Thing.Id) id (step:=X2 h h.Finds (ln h.Finds)) (fun i out hi ho=>by
   obtain⟨c,c1,c2⟩:=Qc1 h.Slots h.Finds[i].Thing.Id hs;have c3:decide (0≤c)=Zg h.Slots h.Finds[i].Thing.Id:=by
    have:decide (0≤c)=!decide (c<0):=by
     by_cases hc:c<0
     ·rw[decide_eq_true hc,decide_eq_false (show ¬0≤c by omega)];rfl
     ·rw[decide_eq_false hc,decide_eq_true (show 0≤c by omega)];rfl
    rw[this,c2,Bool.not_not]
   simp only[X2,Qr hi,Qe hi,Qn hi,Qy (show(i:Int)<9223372036854775807 by omega),QR (show out.length+1≤2000000 by omega) (show 64≤1024 by omega),cond_true,Qa,c1,c3,Option.bind_some]
   cases Zg h.Slots h.Finds[i].Thing.Id<;>rfl)
  (fun out=>by simp only[X2,Qv (Nat.le_refl _),cond_false])
 unfold Zl;rw[hr,List.map_id];rfl
theorem QjP(a:House):(Qgo a).length≤a.Finds.length:=List.length_filter_le _ _
theorem Qpz(a:House)(hl:a.Finds.length≤1048576)(h:Q2 a.Finds=some true):Q2 (Qgo a)=some true:=by
 obtain⟨h1,h2,h3⟩:=QjY a.Finds hl h;exact Qrb _ (by have:=QjP a;omega) (fun f hf=>h2 f (List.mem_filter.1 hf).1) (h3.filter _)
theorem QmB(l:List Int):(Xd (VZ l)).length≤l.length:=by
 have key:∀(zs:Array Int) m,(Lib.compactUpTo zs m).length≤m:=fun zs m=>by
  induction m with
  |zero=>simp[Lib.compactUpTo]
  |succ m ih =>
   rw[Lib.compactUpTo_succ,List.length_append]
   split<;>simp<;>omega
 have:=key (VZ l).toArray (VZ l).length;have hs:(VZ l).length=l.length:=by unfold VZ;simp
 rw[hs]at this;rw[←hs]at this ⊢;exact this
noncomputable def hv(s k c z:Int):Int:=(QbQ s k c z).getD 0
theorem QnG(s k c z:Int):QbQ s k c z=some (hv s k c z):=by
 obtain⟨x,hx⟩:=QjR [s,k,c,w64 (z.tdiv 10)] (by simp)
 have:QbQ s k c z=some x:=by unfold QbQ;rw[←QoB,hx];rfl
 unfold hv;rw[this];rfl
theorem QEM(x:Thing)(s:Int):QcU x s=some (hv s x.Kind x.Colour x.Size):=by
 unfold QcU;rw[QnG];rfl
theorem QAr(l:List Find)(s:Int)(hl:l.length≤1048576):∃r,Qcf l s=some r∧r.length≤1048576∧r.Pairwise (· < ·)∧(Q2 l=some true→∀f∈l,hv s f.Thing.Kind f.Thing.Colour f.Thing.Size∈r):=by
 obtain⟨b,_,e2,e3⟩:=QgK l (by omega)
 unfold Qcf;rw[e2];cases b with
 |false=>exact⟨[],rfl,by simp,by simp,fun h=>by cases h⟩
 |true =>
  have h20:=(e3 rfl).1;have hr:=Xu (step:=VS s l (ln l)) (fun i=>((l.take i).map fun f=>hv s f.Thing.Kind f.Thing.Colour f.Thing.Size,(i:Int))) (r:=l.map fun f=>hv s f.Thing.Kind f.Thing.Colour f.Thing.Size) l.length (fun i hi=>by
    show VS s l (ln l) ((l.take i).map (fun f=>hv s f.Thing.Kind f.Thing.Colour f.Thing.Size),(i:Int))=_
    have hlen:(List.map (fun f:Find=>hv s f.Thing.Kind f.Thing.Colour f.Thing.Size) (l.take i)).length≤20:=by rw[List.length_map,List.length_take];omega
    simp only[VS,Qr hi,Qe hi,Qn hi,Qy (show(i:Int)<9223372036854775807 by omega),QEM,Option.bind_some,cond_true,Qa,QR (show(List.map (fun f:Find=>hv s f.Thing.Kind f.Thing.Colour f.Thing.Size) (l.take i)).length+1≤2000000 by omega) (show 8≤1024 by omega)]
    rw[List.take_succ_eq_append_getElem hi,List.map_append];rfl) (by simp only[VS,Qv (Nat.le_refl _),cond_false,List.take_length])
  have hr0:run (VS s l (ln l)) ([],((0:Nat):Int))=some (l.map fun f=>hv s f.Thing.Kind f.Thing.Colour f.Thing.Size):=by
   simp only[List.take_zero,List.map_nil]at hr;exact hr
  have hu:=QoG (l.map fun f=>hv s f.Thing.Kind f.Thing.Colour f.Thing.Size) (by rw[List.length_map];omega)
  obtain⟨c1,c2⟩:=QjN (l.map fun f=>hv s f.Thing.Kind f.Thing.Colour f.Thing.Size)
  have hg:∀x:List Int,run (VS s l (ln l)) ([],0)=some x→Vp x=some (Xd (VZ x))→((some true).bind fun r=>(bif (!r)then some []else(run (VS s l (ln l)) ([],0)).bind fun b=>(Vp b).bind fun r2=>some r2))=some (Xd (VZ x)):=fun x q1 q2=>by
   rw[Option.bind_some,q1];show(Vp x).bind _=_;rw[q2];rfl
  refine⟨_,hg _ hr0 hu,?_,c1,fun _ f hf=>(c2 _).2 (List.mem_map.2 ⟨f,hf,rfl⟩)⟩
  have:=QmB (l.map fun f=>hv s f.Thing.Kind f.Thing.Colour f.Thing.Size)
  rw[List.length_map]at this;omega
end Go.Proofs.YtonidbheohhgdaaGreat
namespace Go.Proofs.YtonidbheohhgdaaGreat
open Go
set_option linter.unusedVariables false
set_option linter.unusedSimpArgs false
def alw(l:List Int)(a:Int):Bool:=decide (ln l=0)||decide (a∈l)
theorem QrJ(l:List Int)(a:Int)(hl:l.length≤1048576):QaR l a=some (alw l a):=by
 unfold QaR alw;rw[QEy l a hl];cases decide (ln l=0)<;>rfl
theorem Qls(l:List Int)(x y:Int)(hl:l.length≤1048576):∃b,JZ l x y=some b:=by
 obtain⟨b,h1,_,_⟩:=QaQ (n:=l.length) (r:=false) (s1:=VF l x y l (ln l)) (s2:=VF l x y l (ln l)) (fun i hi _=>by
   simp only[VF,Qb,Qr hi,Qe hi,Qn hi,Qy (show(i:Int)<9223372036854775807 by omega),cond_true,Qa,Option.bind_some]
   by_cases h0:0<i
   ·simp only[show decide (0<(i:Int))=true from decide_eq_true (by omega),XW h0 (by omega),Qe (show i-1<l.length by omega),cond_true,Qa]
    cases (decide (x≤l[i])&&decide (l[i]≤y))<;>cases decide (l[i]≤gt l ((i-1:Nat):Int))<;>first|exact⟨true,rfl,rfl⟩|exact⟨false,rfl,rfl⟩
   ·simp only[show decide (0<(i:Int))=false from decide_eq_false (by omega),cond_false]
    cases (decide (x≤l[i])&&decide (l[i]≤y))<;>first|exact⟨true,rfl,rfl⟩|exact⟨false,rfl,rfl⟩)
  (by simp only[VF,Qv (Nat.le_refl _),cond_false]) (by simp only[VF,Qv (Nat.le_refl _),cond_false])
 unfold JZ;rw[h1];cases b with
 |true=>exact⟨true,rfl⟩
 |false=>exact⟨false,rfl⟩
theorem QqC(r:Report)(hm:Vs r):∃b,ZD r=some b∧(b=true→1≤r.SizeLow∧r.SizeHigh≤50):=by
 obtain⟨p,hp⟩:=Qls r.Colours 0 7 hm.1;obtain⟨q,hq⟩:=Qls r.Places 1 30 hm.2;unfold ZD Qeg Qb;simp only[hp,hq,Option.bind_some];cases (decide (1≤r.Id)&&decide (r.Id≤999))with
 |false=>exact⟨false,rfl,fun h=>by cases h⟩
 |true =>
 cases (decide (1≤r.Kind)&&decide (r.Kind≤8))with
 |false=>exact⟨false,rfl,fun h=>by cases h⟩
 |true =>
 cases p with
 |false=>exact⟨false,rfl,fun h=>by cases h⟩
 |true =>
 by_cases h1:1≤r.SizeLow
 ·by_cases h2:r.SizeHigh≤50
  ·rw[decide_eq_true h1,decide_eq_true h2]
   cases decide (r.SizeLow≤r.SizeHigh)with
   |false=>exact⟨false,rfl,fun h=>by cases h⟩
   |true =>
   cases q with
   |false=>exact⟨false,rfl,fun h=>by cases h⟩
   |true =>
   cases decide (ln r.Places≤10)with
   |false=>exact⟨false,rfl,fun h=>by cases h⟩
   |true =>
   cases (decide (0≤r.Span.From)&&decide (r.Span.From≤100000))with
   |false=>exact⟨false,rfl,fun h=>by cases h⟩
   |true=>exact⟨_,rfl,fun _=>⟨h1,h2⟩⟩
  ·rw[decide_eq_false h2]
   cases decide (1≤r.SizeLow)<;>cases decide (r.SizeLow≤r.SizeHigh)<;>exact⟨false,rfl,fun h=>by cases h⟩
 ·rw[decide_eq_false h1]
  exact⟨false,rfl,fun h=>by cases h⟩
theorem Qss(r:Report)(f:Find)(hm:Vs r):∃b,ZC r f=some b∧(b=true→ZD r=some true∧Xm f=some true∧r.Kind=f.Thing.Kind∧alw r.Colours f.Thing.Colour=true∧r.SizeLow≤f.Thing.Size∧f.Thing.Size≤r.SizeHigh):=by
 obtain⟨p,hp,_⟩:=QqC r hm;obtain⟨q,_,hq,_⟩:=Qdn f;unfold ZC Qei;simp only[hp,hq,QrJ _ _ hm.1,QrJ _ _ hm.2,Qb,Option.bind_some];cases p with
 |false=>exact⟨false,rfl,fun h=>by cases h⟩
 |true =>
 cases q with
 |false=>exact⟨false,rfl,fun h=>by cases h⟩
 |true =>
 by_cases hk:r.Kind=f.Thing.Kind
 ·rw[decide_eq_true hk]
  cases ha:alw r.Colours f.Thing.Colour with
  |false=>exact⟨false,rfl,fun h=>by cases h⟩
  |true =>
  cases hs:(decide (r.SizeLow≤f.Thing.Size)&&decide (f.Thing.Size≤r.SizeHigh))with
  |false=>exact⟨false,rfl,fun h=>by cases h⟩
  |true =>
  simp only[Bool.and_eq_true,decide_eq_true_eq]at hs;cases alw r.Places f.Place with
  |false=>exact⟨false,rfl,fun h=>by cases h⟩
  |true =>
  cases decide (f.At<r.Span.From)<;>exact⟨_,rfl,fun _=>⟨rfl,rfl,hk,rfl,hs⟩⟩
 ·rw[decide_eq_false hk]
  exact⟨false,rfl,fun h=>by cases h⟩
theorem Qpv(s:Int)(r:Report)(c a:Int)(hm:Vs r)(h1:r.SizeHigh≤50):∀(m:Nat) (o:List Int) (z:Int),(z+(m:Int)=r.SizeHigh+1∨m=0∧r.SizeHigh<z)→1≤z→o.length+m≤2000 →
  ∃o',run (JU s r c a) (o,z)=some o'∧o'.length≤o.length+m∧(∀x∈o,x∈o')∧(alw r.Colours c=true→∀y,z≤y→y≤r.SizeHigh→hv s r.Kind c y∈o'):=by
 intro m
 induction m with
 |zero =>
  intro o z hz h0 ho;refine⟨o,?_,by omega,fun x hx=>hx,fun _ y h2 h3=>by omega⟩
  rw[Qg];simp only[JU,decide_eq_false (show ¬z≤r.SizeHigh by omega),cond_false];rfl
 |succ m ih =>
  intro o z hz h0 ho;have hzz:z+((m+1:Nat):Int)=r.SizeHigh+1:=by omega
  rw[Qg];simp only[JU,decide_eq_true (show z≤r.SizeHigh by omega),cond_true,QrJ _ _ hm.1,Option.bind_some,QnG,QR (show o.length+1≤2000000 by omega) (show 8≤1024 by omega),Qa,show w64 (z+1)=z+1 from QS (by omega) (by omega)]
  cases ha:alw r.Colours c with
  |true =>
   obtain⟨o',q1,q2,q3,q4⟩:=ih (o++[hv s r.Kind c z]) (z+1) (by omega) (by omega) (by simp;omega)
   rw[List.length_append,List.length_singleton]at q2;refine⟨o',q1,by omega,fun x hx=>q3 x (by simp[hx]),fun _ y h2 h3=>?_⟩
   by_cases hy:y=z
   ·subst hy;exact q3 _ (by simp)
   ·exact q4 ha y (by omega) h3
  |false =>
   obtain⟨o',q1,q2,q3,q4⟩:=ih o (z+1) (by omega) (by omega) (by omega)
   exact⟨o',q1,by omega,q3,fun h=>by cases h⟩
theorem Qvw(r:Report)(s:Int)(hm:Vs r):∃l,Qbi r s=some l∧l.length≤2000∧∀f,ZC r f=some true→0≤f.Thing.Colour→f.Thing.Colour<8→hv s f.Thing.Kind f.Thing.Colour f.Thing.Size∈l:=by
 obtain⟨b,e1,e2⟩:=QqC r hm;unfold Qbi;rw[e1];cases b with
 |false =>
  refine⟨[],rfl,by simp,fun f hf=>?_⟩
  obtain⟨b,h1,h2⟩:=Qss r f hm;rw[hf]at h1;have:=(h2 (Option.some.inj h1).symm).1;rw[e1]at this;cases this
 |true =>
  obtain⟨g1,g2⟩:=e2 rfl;have key:∀(m:Nat) (o:List Int) (a:Int),a+(m:Int)=8→0≤a→o.length+51*m≤1000→∃o',run (Xk s r) (o,a)=some o'∧o'.length≤1000∧(∀x∈o,x∈o')∧∀c y,a≤c→c<8→alw r.Colours c=true→r.SizeLow≤y→y≤r.SizeHigh→hv s r.Kind c y∈o':=by
   intro m
   induction m with
   |zero =>
    intro o a ha h0 ho;refine⟨o,?_,by omega,fun x hx=>hx,fun c y h2 h3=>by omega⟩
    rw[Qg];simp only[Xk,decide_eq_false (show ¬a<8 by omega),cond_false];rfl
   |succ m ih =>
    intro o a ha h0 ho;obtain⟨o1,q1,q2,q3,q4⟩:=Qpv s r a a hm g2 (r.SizeHigh+1-r.SizeLow).toNat o r.SizeLow (by omega) g1 (by omega)
    obtain⟨o2,p1,p2,p3,p4⟩:=ih o1 (a+1) (by omega) (by omega) (by omega)
    refine⟨o2,?_,p2,fun x hx=>p3 x (q3 x hx),fun c y h2 h3 h4 h5 h6=>?_⟩
    ·rw[Qg]
     simp only[Xk,decide_eq_true (show a<8 by omega),cond_true,q1,Option.bind_some,show w64 (a+1)=a+1 from QS (by omega) (by omega)]
     exact p1
    ·by_cases hc:c=a
     ·subst hc;exact p3 _ (q4 h4 y h5 h6)
     ·exact p4 c y (by omega) h3 h4 h5 h6
  obtain⟨o,q1,q2,_,q4⟩:=key 8 [] 0 (by omega) (by omega) (by simp)
  have hu:=QoG o (by omega)
  obtain⟨c1,c2⟩:=QjN o;have hg:∀x:List Int,run (Xk s r) ([],0)=some x→Vp x=some (Xd (VZ x))→((some true).bind fun r2=>(bif (!r2)then some []else(run (Xk s r) ([],0)).bind fun b=>(Vp b).bind fun r3=>some r3))=some (Xd (VZ x)):=fun x q1 q2=>by
   rw[Option.bind_some,q1];show(Vp x).bind _=_;rw[q2];rfl
  refine⟨_,hg _ q1 hu,by have:=QmB o;omega,fun f hf h0 h8=>?_⟩
  obtain⟨b,h1,h2⟩:=Qss r f hm;rw[hf]at h1;obtain⟨_,_,k1,k2,k3,k4⟩:=h2 (Option.some.inj h1).symm;rw[c2,←k1];exact q4 _ _ h0 h8 k2 k3 k4
theorem QEw(a b:List Int)(ha:a.length≤1048576)(hb:b.length≤1048576):∃n,ZZ a b=some n∧((∃x∈a,x∈b)→0<n):=by
 obtain⟨c1,c2⟩:=QjN a;have hl:=QmB a;have hu:=QoG a (by omega)
 generalize Xd (VZ a)=l at c1 c2 hl hu;obtain⟨n,n1,n2⟩:=Qeb (n:=l.length) (step:=XL b l (ln l)) (fin:=fun n:Int=>n) (fun i n=>0≤n∧n≤(i:Int)∧((∃x∈l.take i,x∈b)→0<n)) (fun i n hi hq=>by
   simp only[XL,Qr hi,Qe hi,Qn hi,Qy (show(i:Int)<9223372036854775807 by omega),QEy _ _ hb,cond_true,Qa,Option.bind_some]
   by_cases hx:l[i]∈b
   ·rw[decide_eq_true hx]
    exact⟨n+1,by rw[show w64 (n+1)=n+1 from QS (by omega) (by omega)];rfl,by omega,by omega,fun _=>by omega⟩
   ·rw[decide_eq_false hx]
    refine⟨n,rfl,by omega,by omega,fun⟨x,h1,h2⟩=>hq.2.2 ?_⟩
    rw[List.take_succ_eq_append_getElem hi,List.mem_append,List.mem_singleton]at h1
    rcases h1 with h1|h1
    ·exact⟨x,h1,h2⟩
    ·subst h1;exact absurd h2 hx) (fun n _=>by simp only[XL,Qv (Nat.le_refl _),cond_false]) 0 ⟨by omega,by omega,fun⟨x,h1,_⟩=>by simp at h1⟩
 refine⟨n,by unfold ZZ;rw[hu,Option.bind_some,n1];rfl,fun⟨x,h1,h2⟩=>n2.2.2 ⟨x,?_,h2⟩⟩
 rw[List.take_length];exact(c2 x).2 h1
theorem QBt(r:Report)(a:List Int)(s:Int)(hm:Vs r)(ha:a.length≤1048576):∃b,Zy r a s=some b∧∀f,ZC r f=some true→0≤f.Thing.Colour→f.Thing.Colour<8→hv s f.Thing.Kind f.Thing.Colour f.Thing.Size∈a→b=true:=by
 obtain⟨l,l1,l2,l3⟩:=Qvw r s hm;obtain⟨n,n1,n2⟩:=QEw l a (by omega) ha
 refine⟨decide (0<n),by unfold Zy;rw[l1,Option.bind_some,n1];rfl,fun f h1 h2 h3 h4=>decide_eq_true (n2 ⟨_,l3 f h1 h2 h3,h4⟩)⟩
end Go.Proofs.YtonidbheohhgdaaGreat
namespace Go.Proofs.YtonidbheohhgdaaGreat
open Go
set_option linter.unusedVariables false
set_option linter.unusedSimpArgs false
theorem Quo(l:List Int)(v:Int)(hl:l.length≤1048576):Qbk l v=some (decide (v∈l)):=by
 have hr:=Qfh l (fun x=>decide (x=v)) (r:=true) (step:=JV l v)
  (fun i hi=>by
   simp only[JV,Qr hi,Qe hi,Qn hi,Qy (show(i:Int)<9223372036854775807 by omega),cond_true,Qa]
   cases decide (l[i]=v)<;>rfl)
  (by simp only[JV,Qv (Nat.le_refl _),cond_false])
 unfold Qbk;rw[hr];by_cases h:v∈l
 ·rw[decide_eq_true h,List.any_eq_true.2 ⟨v,h,by simp⟩];rfl
 ·rw[decide_eq_false h,List.any_eq_false.2 (fun x hx=>by simp;rintro rfl;exact h hx)];rfl
end Go.Proofs.YtonidbheohhgdaaGreat
namespace Go.Proofs.YtonidbheohhgdaaGreat
open Go
set_option linter.unusedVariables false
set_option linter.unusedSimpArgs false
def FOk(a:House):Prop:=a.Finds.length≤1048576∧a.Slots.length≤1048576∧Q2 a.Finds=some true
theorem FOk.len{a:House}(h:FOk a):(Qgo a).length≤20:=by
 have:=(QjY a.Finds h.1 h.2.2).1;have:=QjP a;omega
noncomputable def QyH(r:Report)(f:Find):Bool:=(ZC r f).getD false
theorem Qp1(r:Report)(f:Find)(hm:Vs r):ZC r f=some (QyH r f):=by
 obtain⟨b,h,_⟩:=Qss r f hm;unfold QyH;rw[h];rfl
noncomputable def Qcg(r:Report)(a:House):List Hit:=((Qgo a).filter (QyH r)).map fun f=>⟨a.No,f.Thing.Id⟩
theorem Qyv(r:Report)(a:House)(hm:Vs r)(h:FOk a):QbU r a=some (Qcg r a):=by
 have h20:=h.len;have hr:=QhN (Qgo a) (QyH r) (fun f=>(⟨a.No,f.Thing.Id⟩:Hit)) (step:=ZV r a (Qgo a) (ln (Qgo a))) (fun i out hi ho=>by
   simp only[ZV,Qr hi,Qe hi,Qn hi,Qy (show(i:Int)<9223372036854775807 by omega),QR (show out.length+1≤2000000 by omega) (show 16≤1024 by omega),cond_true,Qa,Qp1 r _ hm,Option.bind_some]
   cases QyH r (Qgo a)[i]<;>rfl)
  (fun out=>by simp only[ZV,Qv (Nat.le_refl _),cond_false])
 unfold QbU;rw[QlI a h.1 h.2.1,Option.bind_some,hr];rfl
theorem Qmt(r:Report)(a:House)(h:FOk a):(Qcg r a).length≤20:=by
 have:=h.len;unfold Qcg;rw[List.length_map];exact Nat.le_trans (List.length_filter_le _ _) this
noncomputable def hh(a:House)(s:Int):List Int:=(V9 a s).getD []
theorem Qfb(a:House)(s:Int)(hf:a.Finds.length≤1048576)(hs:a.Slots.length≤1048576):V9 a s=some (hh a s)∧(hh a s).length≤1048576∧(hh a s).Pairwise (· < ·)∧(Q2 a.Finds=some true→∀f∈Qgo a,hv s f.Thing.Kind f.Thing.Colour f.Thing.Size∈hh a s):=by
 obtain⟨l,l1,l2,l3,l4⟩:=QAr (Qgo a) s (by have:=QjP a;omega)
 have e:V9 a s=some l:=by unfold V9;rw[QlI a hf hs,Option.bind_some,l1];rfl
 have e2:hh a s=l:=by unfold hh;rw[e];rfl
 rw[e2];exact⟨e,l2,l3,fun h=>l4 (Qpz a hf h)⟩
noncomputable def Qhv(r:Report)(s:Int)(a:House):Bool:=(Zy r (hh a s) s).getD false
theorem Ql1(r:Report)(s:Int)(a:House)(hm:Vs r)(h:FOk a):Zy r (hh a s) s=some (Qhv r s a)∧(Qhv r s a=false→Qcg r a=[]):=by
 obtain⟨_,h2,_,h4⟩:=Qfb a s h.1 h.2.1;obtain⟨b,b1,b2⟩:=QBt r (hh a s) s hm h2;have e:Qhv r s a=b:=by unfold Qhv;rw[b1];rfl
 rw[e];refine⟨b1,fun hb=>?_⟩
 unfold Qcg;rw[List.filter_eq_nil_iff.2,List.map_nil];intro f hf hc;have hcb:ZC r f=some true:=by rw[Qp1 r f hm,hc]
 obtain⟨q,q1,q2⟩:=Qss r f hm;rw[hcb]at q1;have hI:=(q2 (Option.some.inj q1).symm).2.1;have hcol:0≤f.Thing.Colour∧f.Thing.Colour<8:=by
  unfold Xm JJ Qb at hI;simp only[Option.bind_some]at hI;cases h1:(decide (1≤f.Thing.Id)&&decide (f.Thing.Id≤999))<;>cases h2:(decide (1≤f.Thing.Kind)&&decide (f.Thing.Kind≤8))<;>cases h3:(decide (0≤f.Thing.Colour)&&decide (f.Thing.Colour≤7))<;>rw[h1,h2,h3]at hI<;>first|(simp only[Bool.and_eq_true,decide_eq_true_eq]at h3;omega)|simp at hI
 have:=b2 f hcb hcol.1 hcol.2 (h4 h.2.2 f hf);rw[hb]at this;cases this
theorem QiG(r:Report):∀(l:List House),(∀a∈l,FOk a)→(l.flatMap (Qcg r)).length≤20*l.length
 |[],_=>by simp
 |a::l,h=>by
  have h1:=Qmt r a (h a (by simp))
  have h2:=QiG r l (fun x hx=>h x (by simp[hx]))
  rw[List.flatMap_cons,List.length_append,List.length_cons];omega
theorem Qs3{r:Report}{l:List House}{i:Nat}(hi:i<l.length):(l.take (i+1)).flatMap (Qcg r)=(l.take i).flatMap (Qcg r)++Qcg r l[i]:=by
 rw[List.take_succ_eq_append_getElem hi,List.flatMap_append];simp
theorem Qzq(r:Report)(l:List House)(hm:Vs r)(hl:l.length≤1000)(h:∀a∈l,FOk a):Qb5 r l=some (l.flatMap (Qcg r)):=by
 have hr:=Xu (step:=XQ r l (ln l)) (fun i=>((l.take i).flatMap (Qcg r),(i:Int))) (r:=l.flatMap (Qcg r)) l.length (fun i hi=>by
   show XQ r l (ln l) ((l.take i).flatMap (Qcg r),(i:Int))=_;have hx:=h _ (List.getElem_mem hi);have h1:=QiG r (l.take i) (fun x hx=>h x (List.mem_of_mem_take hx))
   have h2:=Qmt r _ hx;rw[List.length_take]at h1;simp only[XQ,Qr hi,Qe hi,Qn hi,Qy (show(i:Int)<9223372036854775807 by omega),Qyv r _ hm hx,Option.bind_some,cond_true,Qa,QR (show((l.take i).flatMap (Qcg r)).length+(Qcg r l[i]).length≤2000000 by omega) (show 16≤1024 by omega),Qs3 hi]) (by simp only[XQ,Qv (Nat.le_refl _),cond_false,List.take_length])
 unfold Qb5;rw[show run (XQ r l (ln l)) ([],0)=some (l.flatMap (Qcg r))from hr];rfl
theorem Qz9(r:Report)(l:List House)(s:Int)(hm:Vs r)(hl:l.length≤1000)(h:∀a∈l,FOk a):Qct r l s=some (l.flatMap (Qcg r)):=by
 have hr:=Xu (step:=XN s r l (ln l)) (fun i=>((l.take i).flatMap (Qcg r),(i:Int))) (r:=l.flatMap (Qcg r)) l.length (fun i hi=>by
   show XN s r l (ln l) ((l.take i).flatMap (Qcg r),(i:Int))=_;have hx:=h _ (List.getElem_mem hi);have h1:=QiG r (l.take i) (fun x hx=>h x (List.mem_of_mem_take hx))
   have h2:=Qmt r _ hx;rw[List.length_take]at h1;obtain⟨m1,m2⟩:=Ql1 r s _ hm hx;simp only[XN,Qr hi,Qe hi,Qn hi,Qy (show(i:Int)<9223372036854775807 by omega),(Qfb _ s hx.1 hx.2.1).1,m1,Qyv r _ hm hx,Option.bind_some,cond_true,Qa,QR (show((l.take i).flatMap (Qcg r)).length+(Qcg r l[i]).length≤2000000 by omega) (show 16≤1024 by omega),Qs3 hi]
   cases hb:Qhv r s l[i]with
   |true=>rfl
   |false=>rw[m2 hb,List.append_nil];rfl) (by simp only[XN,Qv (Nat.le_refl _),cond_false,List.take_length])
 unfold Qct;rw[show run (XN s r l (ln l)) ([],0)=some (l.flatMap (Qcg r))from hr];rfl
theorem Qpu(r:Report)(l:List House)(s:Int)(hm:Vs r)(hl:l.length≤1000)(h:∀a∈l,FOk a):Z2 r l s=some ((l.filter (Qhv r s)).map fun a=>a.No):=by
 have hr:=QhN l (Qhv r s) (fun a=>a.No) (step:=XJ s r l (ln l)) (fun i out hi ho=>by
   have hx:=h _ (List.getElem_mem hi);obtain⟨m1,m2⟩:=Ql1 r s _ hm hx;simp only[XJ,Qr hi,Qe hi,Qn hi,Qy (show(i:Int)<9223372036854775807 by omega),(Qfb _ s hx.1 hx.2.1).1,m1,Option.bind_some,cond_true,Qa,QR (show out.length+1≤2000000 by omega) (show 8≤1024 by omega)]
   cases Qhv r s l[i]<;>rfl)
  (fun out=>by simp only[XJ,Qv (Nat.le_refl _),cond_false])
 unfold Z2;rw[hr];rfl
theorem Quy(r:Report)(l:List House)(s:Int)(hm:Vs r)(h:∀a∈l,FOk a)(x:Hit)(hx:x∈l.flatMap (Qcg r)):x.House∈(l.filter (Qhv r s)).map fun a=>a.No:=by
 obtain⟨a,ha,hxa⟩:=List.mem_flatMap.1 hx;have e:x.House=a.No:=by
  unfold Qcg at hxa;obtain⟨f,_,rfl⟩:=List.mem_map.1 hxa;rfl
 rw[e];refine List.mem_map.2 ⟨a,List.mem_filter.2 ⟨ha,?_⟩,rfl⟩;cases hb:Qhv r s a with
 |true=>rfl
 |false=>rw[(Ql1 r s a hm (h a ha)).2 hb]at hxa;simp at hxa
theorem Qz3(a:List Hit)(hm:a.length≤1048576):J1 a a=some true:=by
 have q:∀x:Hit,Qop x x=true:=fun x=>by simp[Qop]
 have h:=Xu (step:=VW a a (ln a)) (fun i=>(i:Int)) (r:=.brk ()) a.length (fun i hi=>by simp only[VW,Qr hi,Qe hi,Qn hi,q,Bool.not_true,Qy (show(i:Int)<9223372036854775807 by omega),cond_true,cond_false,Qa]) (by simp only[VW,Qv (Nat.le_refl _),cond_false])
 unfold J1;rw[show run (VW a a (ln a)) 0=some (.brk ())from h,decide_eq_true rfl];rfl
theorem Qnb(a:List Hit)(hm:a.length≤1048576):VP a a=some true:=by unfold VP;rw[Qz3 a hm];rfl
theorem QpX(a b:List Hit)(h:a.length≠b.length):VP a b=some false:=by
 unfold VP J1;rw[decide_eq_false (show ¬ln a=ln b by unfold ln;omega)];rfl
theorem QOu(l:List Int)(hl:l.length≤1048576)(h:l.Pairwise (· < ·)):Qcw l=some true:=by
 have hr:=Xu (step:=Jx l) (fun i=>((i+1:Nat):Int)) (r:=.brk ()) (l.length-1) (fun i hi=>by
   have hp:=List.pairwise_iff_getElem.1 h i (i+1) (by omega) (by omega) (by omega)
   simp only[Jx,Qr (show i+1<l.length by omega),XW (show 0<i+1 by omega) (show((i+1:Nat):Int)≤9223372036854775807 by omega),Qe (show i+1<l.length by omega),Qe (show i<l.length by omega),Qn (show i+1<l.length by omega),Qn (show i<l.length by omega),Qy (show((i+1:Nat):Int)<9223372036854775807 by omega),cond_true,Qa,Nat.add_sub_cancel,decide_eq_false (show ¬l[i+1]≤l[i]by omega),cond_false]) (by simp only[Jx,Qv (show l.length≤l.length-1+1 by omega),cond_false])
 unfold Qcw;rw[show run (Jx l) 1=some (.brk ())from hr];rfl
end Go.Proofs.YtonidbheohhgdaaGreat
