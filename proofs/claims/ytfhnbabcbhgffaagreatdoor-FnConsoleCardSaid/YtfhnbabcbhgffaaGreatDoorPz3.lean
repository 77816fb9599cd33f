import Derived.Test.YtfhnbabcbhgffaaGreatDoorPz2
import Derived.Lib.ItoaLen
set_option linter.unusedVariables false
set_option linter.unusedSimpArgs false
set_option maxRecDepth 100000
set_option linter.defProp false
noncomputable section
namespace Go.Proofs.YtfhnbabcbhgffaaGreatDoor
open Go
def Ex(h out:Ql)(done:List Bool)(hm:QS h)(ho:QS out)(hd:done.length≤1048576):XK h out done=some (FE h out (done.all id)):=by
 unfold XK FE;simp only[(Zs h hm).2,(Zs out ho).2,Js h hm,YB done hd,Qa];cases done.all id<;>cases ZQ h<;>cases ZQ out<;>rfl
def OM(l:List Qu)(id s:Int)(k:Nat)(hk:k<l.length)(hid:BE l id=(k:Int))(h0:l[k].State=0)(hs:s=1∨s=2)(hl:l.length≤1048576)(h:VM l=some true)(hI:JT l=some true) :
  Aa l id s=some (l.set k ⟨l[k].Id,l[k].QA,l[k].Qo,l[k].At,s⟩,true):=by
 obtain⟨d,d1,d2,d3⟩:=Hb (l.set k ⟨l[k].Id,l[k].QA,l[k].Qo,l[k].At,s⟩) (by rw[List.length_set];omega)
 rw[jq l k hk s hs hl h]at d1;cases d1;unfold Aa Xm;have hrm:rm (0+l.length) 40=true:=VT (by omega) (by omega)
 simp only[hrm,QL,(Ed l id hl).2,hI,Qa,hid,Qe (show ¬(k:Int)<0 by omega),Qb,Qh,QR hk,Q2 hk,Int.toNat_natCast,d2,h0,decide_true,Qc]
 rcases hs with rfl|rfl<;>rfl
def qY(x:Int):∃c,Dd [x]=some c∧Hd [x]=some c∧0≤c∧c<2147483647:=by
 obtain⟨c,hc,h0,h1⟩:∃c,GO x 2147483647=some c∧0≤c∧c<2147483647:=by
  rw[jZ];obtain⟨h1,h2⟩:=TC x (m:=2147483647) (by omega)
  unfold G7 QM;simp only[Qa,show(decide ((1:Int)≤2147483647)&&decide ((2147483647:Int)≤1000000000000))=true from rfl,Qh,Qb,show(!decide ((2147483647:Int)=0))=true from rfl,QL];generalize x.tmod 2147483647=t at h1 h2;by_cases ht:t<0
  ·rw[Qf ht];exact⟨_,rfl,by rw[Vt]<;>omega,by rw[Vt]<;>omega⟩
  ·rw[Qe ht];exact⟨_,rfl,by omega,by omega⟩
 have hs:Dd [x]=some ((11000033+c+13).tmod 2147483647):=by
  unfold Dd;have hr:=Xe (step:=Za [x]) (λi=>if i=0 then(11,0)else((11000033+c+13).tmod 2147483647,1)) (r:=(11000033+c+13).tmod 2147483647) 1 (λi hi=>by
   have:i=0:=by omega
   subst this;simp only[Za,if_true,show decide ((0:Int)<ln [x])=true from rfl,show Q0 [x] 0=true from rfl,show gt [x] (0:Int)=x from rfl,Qc,QL,hc,Qa,show ¬(0+1=0)from by omega,if_false]
   rw[show QV (11*1000003)=11000033 from rfl,show QV (0+1)=1 from rfl,Vt (show _≤11000033+c by omega) (by omega),Vt (show _≤11000033+c+13 by omega) (by omega)])
   (by simp only[Za,show ¬(1=0)from by omega,if_false];rfl)
  rw[show run (Za [x]) (11,0)=_ from hr];rfl
 refine⟨_,hs,by rw[←kt,hs],Int.tmod_nonneg _ (by omega),Int.tmod_lt_of_pos _ (by omega)⟩
def gF(l:List Mark)(c v:Int)(hl:l.length≤1048576):∃q,Z1 l c v=some q∧Dh l c v=some q:=by
 obtain⟨m,m1,m2⟩:=KP l (by omega)
 obtain⟨c',c1,c2,c3,c4⟩:=qY c;unfold Z1 Dh QO QM;simp only[m1,m2,Qa];by_cases h0:ln l=0
 ·rw[Qf h0];exact⟨0,rfl,rfl⟩
 ·rw[Qe h0]
  have hpos:0<ln l:=by rw[Vq]at h0 ⊢;omega
  cases m with
  |false=>exact⟨0,rfl,rfl⟩
  |true =>
   cases hv:(decide (0≤v)&&decide (v≤1000))with
   |false=>exact⟨0,rfl,rfl⟩
   |true =>
    simp only[Bool.and_eq_true,decide_eq_true_eq]at hv;have hb:=Int.tmod_lt_of_pos c' hpos;have hn:=Int.tmod_nonneg (ln l) c3;have hle:ln l≤1048576:=by rw[Vq];omega
    have hmod:GO c' (ln l)=some (c'.tmod (ln l)):=by
     unfold GO QO;simp only[Qa,show(decide (1≤ln l)&&decide (ln l≤1000000000000))=true from by rw[Qf (show 1≤ln l by omega),Qf (show ln l≤1000000000000 by omega)];rfl,Qh,Qb,Qe h0,Qi,QL]
     rw[Vt (by omega) (by omega),Int.tmod_eq_emod_of_nonneg (show 0≤c'.tmod (ln l)+ln l by omega),Int.add_emod_right,Int.emod_eq_of_lt hn hb]
    have hin:Q0 l ((QV (c'.tmod (ln l)+v)).tmod (ln l))=true:=by
     rw[Vt (by omega) (by omega),AA]
     exact⟨Int.tmod_nonneg _ (by omega),by have:=Int.tmod_lt_of_pos (c'.tmod (ln l)+v) hpos;rw[Vq]at this;exact this⟩
    simp only[c1,c2,hmod,Qa,Qb,Qh,Qi,QL,hin];exact⟨_,rfl,rfl⟩
def L8(l:List Mark)(x:Qp)(hl:l.length≤1048576):∃q,XW l x=some q∧JP l x=some q:=by
 obtain⟨s,s1,s2⟩:=LO l x hl;obtain⟨q,q1,q2⟩:=gF l x.Qu x.Asked hl;unfold XW JP;simp only[s1,s2,q1,q2,Qa];cases decide (s=0)<;>exact⟨_,rfl,rfl⟩
def ey(l:List Mark)(q:Int)(hl:l.length≤1048576):∃a,Ec l q=some a∧FR l q=some a:=by
 have hs:=JG l (λx=>decide (x.Question=q)) (λi=>(gt l (i:Int)).Answer) (step:=Bm l q)
  (λi hi=>by
   simp only[Bm,QY hi,QR hi,Q2 hi,Q3 (show(i:Int)<9223372036854775807 by omega),Qc,QL]
   cases decide (l[i].Question=q)<;>rfl)
  (by simp only[Bm,Q6 (Qg _),Qb])
 have hi:=JG l (λx=>decide (x.Question=q)) (λi=>(gt l (i:Int)).Answer) (step:=Bh q l (ln l))
  (λi hi=>by
   simp only[Bh,QY hi,QR hi,Q2 hi,Q3 (show(i:Int)<9223372036854775807 by omega),Qc,QL]
   cases decide (l[i].Question=q)<;>rfl)
  (by simp only[Bh,Q6 (Qg _),Qb])
 unfold Ec FR;rw[hs,hi];cases l.findIdx? (λx=>decide (x.Question=q))<;>exact⟨_,rfl,rfl⟩
def jk(l:List Mark)(x:Qp)(a:Int)(hl:l.length≤1048576):∃r,DM l x a=some r∧DN l x a=some r:=by
 obtain⟨q,q1,q2⟩:=L8 l x hl;obtain⟨b,b1,b2⟩:=ey l q hl;unfold DM DN;simp only[q1,q2,b1,b2,Qa];cases decide (q=0)<;>cases decide (b=a)<;>exact⟨_,rfl,rfl⟩
def LS(h:Ql)(id a:Int)(hm:QS h):∃r,XM h id a=some r∧B0 h id a=some r∧QS r.1:=by
 have hm7:=hm;obtain⟨m1,m2,m3,m4,m5,m6,m7⟩:=hm7;unfold XM B0;simp only[JQ h hm,Js h hm,(Ed h.Qv id m4).1,(Ed h.Qv id m4).2,(Zs h hm).1,(Zs h hm).2,Qa]
 rcases Ho h.Qv id with hx|⟨k,hk,hx,hid⟩
 ·rw[hx]
  refine⟨(h,false),rfl,?_,hm⟩;cases ZQ h<;>rfl
 ·rw[hx,Qe (show ¬(k:Int)<0 by omega)]
  cases hb:ZQ h with
  |false=>exact⟨(h,false),rfl,rfl,hm⟩
  |true =>
   have ho:=NK h hm hb;simp only[Qb,Qh,QR hk,Q2 hk,QL,Qa];by_cases h0:h.Qv[k].State=0
   ·have hkt:k<h.Qq.length:=by rw[Pb h ho.trials];exact hk
    obtain⟨m,k1,k2,k3⟩:=PT h.Qn h.Qv[k].Qo m2.1 (λx hx=>m2.2 x hx)
    obtain⟨g,g1,g2⟩:=jk m h.Qq[k] a k3;obtain⟨s,s1,s2⟩:=LO m g.1 k3;have hl1:(h.Qq.set k g.1).length≤1048576:=by rw[List.length_set];exact m5
    have hl2:∀s:Int,(h.Qv.set k ⟨h.Qv[k].Id,h.Qv[k].QA,h.Qv[k].Qo,h.Qv[k].At,s⟩).length≤1048576:=λs=>by rw[List.length_set];exact m4
    have w1:QS ⟨h.No,h.Qt,h.Qn,h.Qs,h.Qv.set k ⟨h.Qv[k].Id,h.Qv[k].QA,h.Qv[k].Qo,h.Qv[k].At,1⟩,h.Qq.set k g.1,h.Qw,h.Book,h.Now⟩:=smH hm m1 m2 m3 (hl2 1) hl1 m6 m7;have w2:QS ⟨h.No,h.Qt,h.Qn,h.Qs,h.Qv.set k ⟨h.Qv[k].Id,h.Qv[k].QA,h.Qv[k].Qo,h.Qv[k].At,2⟩,h.Qq.set k g.1,h.Qw,h.Book,h.Now⟩:=smH hm m1 m2 m3 (hl2 2) hl1 m6 m7;have w3:QS ⟨h.No,h.Qt,h.Qn,h.Qs,h.Qv,h.Qq.set k g.1,h.Qw,h.Book,h.Now⟩:=smH hm m1 m2 m3 m4 hl1 m6 m7;simp only[h0,decide_true,Qh,Qb,k1,k2,g1,g2,s1,s2,QR hkt,Q2 hkt,QL,Qa,Int.toNat_natCast,
     OM h.Qv id 1 k hk hx h0 (.inl rfl) m4 ho.cS ho.cI,OM h.Qv id 2 k hk hx h0 (.inr rfl) m4 ho.cS ho.cI,GE h _ _ hm w1,GE h _ _ hm w2,GE h _ _ hm w3,
     Ex h _ _ hm w1 (show[g.2].length≤1048576 by simp),Ex h _ _ hm w2 (show[g.2].length≤1048576 by simp),Ex h _ _ hm w3 (show[g.2].length≤1048576 by simp),List.all_cons,List.all_nil,Bool.and_true,id_eq]
    cases decide (s=1)with
    |true=>exact⟨_,rfl,rfl,C7 _ _ _ hm w1⟩
    |false=>cases decide (s=2)with
     |true=>exact⟨_,rfl,rfl,C7 _ _ _ hm w2⟩
     |false=>exact⟨_,rfl,rfl,C7 _ _ _ hm w3⟩
   ·simp only[Qe h0,Qi,Qc]
    exact⟨(h,false),rfl,rfl,hm⟩
def KN{l:List QB}{id:Int}(h:¬XY l id<0):∃k:Nat,XY l id=(k:Int)∧k<l.length:=by
 unfold XY at h ⊢;cases hf:l.findIdx? (λx=>decide (x.Qo.Id=id))with
 |none=>rw[hf]at h;simp at h
 |some i=>exact⟨i,rfl,(CG hf).1⟩
def Ab(x:Hand)(c:Qu):Bool:=decide (c.State=3)&&(decide (c.Qo=x.Qo)&&decide (c.QA=x.QA))
def WT(h:Ql)(x:Hand)(hl:h.Qv.length≤1048576):Ge h x=some (h.Qv.any (Ab x)):=by
 have hs:=LH h.Qv (Ab x) (r:=true) (step:=Dq h x)
  (λi hi=>by
   simp only[Dq,QY hi,QR hi,Q2 hi,Q3 (show(i:Int)<9223372036854775807 by omega),Qc,QL,Ab]
   cases decide (h.Qv[i].State=3)<;>cases decide (h.Qv[i].Qo=x.Qo)<;>cases decide (h.Qv[i].QA=x.QA)<;>rfl)
  (by simp only[Dq,Q6 (Qg _),Qb])
 unfold Ge;rw[hs];cases h.Qv.any (Ab x)<;>rfl
def eW(h:Ql)(x:Hand)(hl:h.Qv.length≤1048576):Em h x=some (decide (x.Qx=3)&&h.Qv.any (Ab x)):=by
 have hi:=JG h.Qv (Ab x) (λi=>(i:Int)) (step:=Vw h.Qv x (ln h.Qv))
  (λi hi=>by
   simp only[Vw,Gd,Qa,QY hi,QR hi,Q2 hi,Q3 (show(i:Int)<9223372036854775807 by omega),Qc,QL,Ab]
   cases decide (h.Qv[i].State=3)<;>cases decide (h.Qv[i].Qo=x.Qo)<;>cases decide (h.Qv[i].QA=x.QA)<;>rfl)
  (by simp only[Vw,Q6 (Qg _),Qb])
 have hc:VP h.Qv x=some (h.Qv.any (Ab x)):=by
  unfold VP Xs;rw[hi];cases hf:h.Qv.findIdx? (Ab x)with
  |none =>
   have:h.Qv.any (Ab x)=false:=by
    rw[List.any_eq_false];intro y hy;have:=List.findIdx?_eq_none_iff.1 hf y hy;simp[this]
   rw[this];rfl
  |some i =>
   obtain⟨hi,hp⟩:=CG hf;have:h.Qv.any (Ab x)=true:=List.any_eq_true.2 ⟨_,List.getElem_mem hi,hp⟩;rw[this];show some (decide (0≤(i:Int)))=_;rw[Qf (by omega)]
 unfold Em;rw[hc];cases decide (x.Qx=3)<;>rfl
def OX(h:Ql)(x:Hand):Bool:=!decide (x.Qx=3)||(h.Qv.any (Ab x)||(!decide (XY h.Qt x.Qo<0)&&decide ((gt h.Qt (XY h.Qt x.Qo)).Qz=x.QA)))
def oF(h:Ql)(hm:QS h):∃c,Iy h=some c∧E4 h=some c:=by
 unfold QS at hm;obtain⟨m1,m2,m3,m4,m5,m6,m7⟩:=hm;have hs:=Hw h.Qw (OX h) (r:=false) (step:=EH h)
  (λi hi=>by
   simp only[EH,QY hi,QR hi,Q2 hi,Q3 (show(i:Int)<9223372036854775807 by omega),Qc,QL,(Jm h.Qt h.Qw[i].Qo m1).1,WT h h.Qw[i] m4,Qa,OX]
   by_cases hf:XY h.Qt h.Qw[i].Qo<0
   ·rw[Qf hf]
    cases decide (h.Qw[i].Qx=3)<;>cases h.Qv.any (Ab h.Qw[i])<;>rfl
   ·obtain⟨k,hk,hlt⟩:=KN hf
    rw[Qe hf];simp only[hk,QR hlt,QL];cases decide (h.Qw[i].Qx=3)<;>cases h.Qv.any (Ab h.Qw[i])<;>cases decide ((gt h.Qt (k:Int)).Qz=h.Qw[i].QA)<;>rfl)
  (by simp only[EH,Q6 (Qg _),Qb])
 have hi:=Hw h.Qw (OX h) (r:=false) (step:=Aq h h.Qw (ln h.Qw))
  (λi hi=>by
   simp only[Aq,QY hi,QR hi,Q2 hi,Q3 (show(i:Int)<9223372036854775807 by omega),Qc,QL,(Jm h.Qt h.Qw[i].Qo m1).2,eW h h.Qw[i] m4,Qa,OX]
   by_cases hf:XY h.Qt h.Qw[i].Qo<0
   ·rw[Qf hf]
    cases decide (h.Qw[i].Qx=3)<;>cases h.Qv.any (Ab h.Qw[i])<;>rfl
   ·obtain⟨k,hk,hlt⟩:=KN hf
    rw[Qe hf];simp only[hk,QR hlt,QL];cases decide (h.Qw[i].Qx=3)<;>cases h.Qv.any (Ab h.Qw[i])<;>cases decide ((gt h.Qt (k:Int)).Qz=h.Qw[i].QA)<;>rfl)
  (by simp only[Aq,Q6 (Qg _),Qb])
 refine⟨h.Qw.all (OX h),?_,?_⟩
 ·unfold Iy;rw[hs];cases h.Qw.all (OX h)<;>rfl
 ·unfold E4;rw[hi];cases h.Qw.all (OX h)<;>rfl
theorem Qfg(f:QB):AX f=X0 f:=rfl
def dv(f:QB):∃b,X0 f=some b∧(b=true→1≤f.Qo.Kind∧f.Qo.Kind≤8):=by
 unfold X0 JB QO;simp only[Qa];cases h1:(decide (1≤f.Qo.Id)&&decide (f.Qo.Id≤999))with
 |false=>exact⟨false,rfl,λh=>by cases h⟩
 |true =>
  cases h2:(decide (1≤f.Qo.Kind)&&decide (f.Qo.Kind≤8))with
  |false=>exact⟨false,rfl,λh=>by cases h⟩
  |true =>
   have hk:1≤f.Qo.Kind∧f.Qo.Kind≤8:=by simpa using h2
   simp only[Qc];cases (decide (0≤f.Qo.Colour)&&decide (f.Qo.Colour≤7))<;>cases (decide (1≤f.Qo.Size)&&decide (f.Qo.Size≤50))<;>cases (decide (0≤f.Qo.Worth)&&decide (f.Qo.Worth≤10000000)) <;>
    cases (decide (1≤f.Place)&&decide (f.Place≤30))<;>cases (decide (0≤f.At)&&decide (f.At≤100000))<;>cases (decide (0≤f.Qz)&&decide (f.Qz≤999))<;>exact⟨_,rfl,λ_=>hk⟩
def nF(k:Int)(h1:1≤k)(h2:k≤8):∃d,KF k=some d∧FN k=some d:=by
 have:k=1∨k=2∨k=3∨k=4∨k=5∨k=6∨k=7∨k=8:=by omega
 rcases this with rfl|rfl|rfl|rfl|rfl|rfl|rfl|rfl<;>exact⟨_,rfl,rfl⟩
def Qer(f:QB)(now:Int):∃b,Bu f now=some b∧BD f now=some b:=by
 obtain⟨b,h1,h2⟩:=dv f;unfold Bu BD LU GK;rw[Qfg,h1];cases b with
 |false=>exact⟨false,rfl,rfl⟩
 |true =>
  obtain⟨k1,k2⟩:=h2 rfl;obtain⟨d,h3,h4⟩:=nF f.Qo.Kind k1 k2;simp only[Qa,Qc,Qb,Qh,h3,h4];exact⟨_,rfl,rfl⟩
def be(f:QB)(now:Int):Bool:=(Bu f now).getD false
def kx(f:QB)(now:Int):Bu f now=some (be f now)∧BD f now=some (be f now):=by
 obtain⟨b,h1,h2⟩:=Qer f now;unfold be;rw[h1,h2];exact⟨rfl,rfl⟩
def Pe(h:Ql)(x:Hand):Bool :=
 decide (x.Qx≤2)||((decide (x.Qx=3)&&h.Qv.any (Ab x))||(!decide (XY h.Qt x.Qo<0)&&be (gt h.Qt (XY h.Qt x.Qo)) x.At))
def dk(h:Ql)(hm:QS h):∃c,G2 h=some c∧Cl h=some c:=by
 unfold QS at hm;obtain⟨m1,m2,m3,m4,m5,m6,m7⟩:=hm;have hs:=Hw h.Qw (Pe h) (r:=false) (step:=Ce h)
  (λi hi=>by
   simp only[Ce,QY hi,QR hi,Q2 hi,Q3 (show(i:Int)<9223372036854775807 by omega),Qc,QL,(Jm h.Qt h.Qw[i].Qo m1).1,WT h h.Qw[i] m4,Qa,Pe]
   by_cases hf:XY h.Qt h.Qw[i].Qo<0
   ·rw[Qf hf]
    cases decide (h.Qw[i].Qx≤2)<;>cases decide (h.Qw[i].Qx=3)<;>cases h.Qv.any (Ab h.Qw[i])<;>rfl
   ·obtain⟨k,hk,hlt⟩:=KN hf
    rw[Qe hf];simp only[hk,QR hlt,QL,(kx _ _).1,Qa];cases decide (h.Qw[i].Qx≤2)<;>cases decide (h.Qw[i].Qx=3)<;>cases h.Qv.any (Ab h.Qw[i])<;>cases be (gt h.Qt (k:Int)) h.Qw[i].At<;>rfl)
  (by simp only[Ce,Q6 (Qg _),Qb])
 have hi:=Hw h.Qw (Pe h) (r:=false) (step:=Zl h h.Qw (ln h.Qw))
  (λi hi=>by
   simp only[Zl,QY hi,QR hi,Q2 hi,Q3 (show(i:Int)<9223372036854775807 by omega),Qc,QL,(Jm h.Qt h.Qw[i].Qo m1).2,eW h h.Qw[i] m4,Qa,Pe]
   by_cases hf:XY h.Qt h.Qw[i].Qo<0
   ·rw[Qf hf]
    cases decide (h.Qw[i].Qx≤2)<;>cases decide (h.Qw[i].Qx=3)<;>cases h.Qv.any (Ab h.Qw[i])<;>rfl
   ·obtain⟨k,hk,hlt⟩:=KN hf
    rw[Qe hf];simp only[hk,QR hlt,QL,(kx _ _).2,Qa];cases decide (h.Qw[i].Qx≤2)<;>cases decide (h.Qw[i].Qx=3)<;>cases h.Qv.any (Ab h.Qw[i])<;>cases be (gt h.Qt (k:Int)) h.Qw[i].At<;>rfl)
  (by simp only[Zl,Q6 (Qg _),Qb])
 refine⟨h.Qw.all (Pe h),?_,?_⟩
 ·unfold G2;rw[hs];cases h.Qw.all (Pe h)<;>rfl
 ·unfold Cl;rw[hi];cases h.Qw.all (Pe h)<;>rfl
def rS:∀{a b:List Int},a.Pairwise (· < ·)→b.Pairwise (· < ·)→(∀x,x∈a↔x∈b)→a=b
 |[],[],_,_,_=>rfl
 |[],y::b,_,_,h=>by have:=(h y).2 (by simp);simp at this
 |x::a,[],_,_,h=>by have:=(h x).1 (by simp);simp at this
 |x::a,y::b,ha,hb,h=>by
  obtain⟨ha1,ha2⟩:=List.pairwise_cons.1 ha;obtain⟨hb1,hb2⟩:=List.pairwise_cons.1 hb;have hxy:x=y:=by
   have h1:=(h x).1 (by simp)
   have h2:=(h y).2 (by simp)
   rcases List.mem_cons.1 h1 with h1|h1
   ·exact h1
   ·rcases List.mem_cons.1 h2 with h2|h2
    ·exact h2.symm
    ·have:=hb1 x h1
     have:=ha1 y h2;omega
  subst hxy;refine congrArg _ (rS ha2 hb2 λz=>?_)
  have hz:=h z;constructor
  ·intro hza
   rcases List.mem_cons.1 (hz.1 (List.mem_cons_of_mem _ hza))with e|e
   ·have:=ha1 z hza;omega
   ·exact e
  ·intro hzb
   rcases List.mem_cons.1 (hz.2 (List.mem_cons_of_mem _ hzb))with e|e
   ·have:=hb1 z hzb;omega
   ·exact e
def lR{l:List Int}{v:Int}(hl:l.Pairwise (· < ·)){n:Nat}(hn:n≤l.length)(h1:∀i (h:i<l.length),i<n→l[i]<v)(h2:∀(h:n<l.length),v<l[n]) :
  (l.take n++[v]++l.drop n).Pairwise (· < ·):=by
 have hd:∀x∈l.drop n,v<x:=by
  intro x hx;obtain⟨i,hi,rfl⟩:=List.mem_iff_getElem.1 hx;rw[List.length_drop]at hi;rw[List.getElem_drop];have hv:=h2 (by omega)
  by_cases h0:i=0
  ·subst h0;simpa using hv
  ·have:=List.pairwise_iff_getElem.1 hl n (n+i) (by omega) (by omega) (by omega)
   omega
 have ht:∀x∈l.take n,x<v:=by
  intro x hx;obtain⟨i,hi,rfl⟩:=List.mem_iff_getElem.1 hx;rw[List.length_take]at hi;rw[List.getElem_take];exact h1 i (by omega) (by omega)
 rw[List.pairwise_append,List.pairwise_append];refine⟨⟨hl.sublist (List.take_sublist _ _),by simp,λx hx y hy=>?_⟩,hl.sublist (List.drop_sublist _ _),λx hx y hy=>?_⟩
 ·simp only[List.mem_singleton]at hy
  subst hy;exact ht x hx
 ·simp only[List.mem_append,List.mem_singleton]at hx
  rcases hx with hx|rfl
  ·have:=ht x hx
   have:=hd y hy;omega
  ·exact hd y hy
def eM(l:List Int)(v:Int)(hl:l.Pairwise (· < ·))(hlen:l.length≤4194304) :
  ∃r,BC l v=some r∧r.Pairwise (· < ·)∧(∀x,x∈r↔x∈l∨x=v)∧r.length≤l.length+1:=by
 let n:=l.findIdx (λx=>!decide (x<v))
 have hnl:n≤l.length:=List.findIdx_le_length;have h1:∀i (h:i<l.length),i<n→l[i]<v:=λi h hi=>by
  have:=List.not_of_lt_findIdx (p:=λx=>!decide (x<v)) hi
  simpa using this
 have h2:∀(h:n<l.length),¬l[n]<v:=λh=>by
  have:=List.findIdx_getElem (p:=λx=>!decide (x<v)) (w:=h)
  simpa using this
 have hrun:run (Ja l v) 0=some ((n:Nat):Int):=by
  refine Xe (step:=Ja l v) (λi=>(i:Int)) n (λi hi=>?_) ?_
  ·have hil:i<l.length:=by omega
   simp only[Ja,QY hil,QR hil,Q2 hil,Qc,QL,Qf (h1 i hil hi),Qa,Q3 (show(i:Int)<9223372036854775807 by omega)]
  ·by_cases h:n<l.length
   ·simp only[Ja,QY h,QR h,Q2 h,Qc,QL,Qe (h2 h),Qa,Qb]
   ·simp only[Ja,Q6 (show l.length≤n by omega),Qb,Qa]
 unfold BC;rw[hrun];simp only[Qa];by_cases h:n<l.length
 ·simp only[QY h,QR h,Q2 h,Qc,QL,Qa]
  by_cases hv:l[n]=v
  ·rw[Qf hv]
   have hrm:rm (0+l.length) 8=true:=by unfold rm;exact Qf (by omega)
   refine⟨l,by rw[hrm];rfl,hl,λx=>⟨.inl,λhx=>?_⟩,by omega⟩
   rcases hx with hx|rfl
   ·exact hx
   ·rw[←hv];exact List.getElem_mem _
  ·rw[Qe hv]
   have hc0:cut l 0 ((n:Nat):Int)=l.take n:=by unfold cut;simp
   have hc1:cut l ((n:Nat):Int) (ln l)=l.drop n:=by unfold cut ln;simp
   have hs0:Cy 0 ((n:Nat):Int) (ln l)=true:=by unfold Cy ln;simp;omega
   have hs1:Cy ((n:Nat):Int) (ln l) (ln l)=true:=by unfold Cy ln;simp;omega
   have hr0:rm (0+(l.take n).length) 8=true:=by unfold rm;exact Qf (by rw[List.length_take];omega)
   have hr1:rm ((l.take n).length+1) 8=true:=by unfold rm;exact Qf (by rw[List.length_take];omega)
   have hr2:rm ((l.take n).length+1+(l.drop n).length) 8=true:=by unfold rm;exact Qf (by rw[List.length_take,List.length_drop];omega)
   refine⟨l.take n++[v]++l.drop n,by simp only[hc0,hc1,hs0,hs1,hr0,hr1,hr2,QL,Qb],?_,λx=>?_,?_⟩
   ·exact lR hl hnl h1 λh'=>by have:=h2 h';omega
   ·have:x∈l↔x∈l.take n∨x∈l.drop n:=by rw[←List.mem_append,List.take_append_drop]
    rw[this];simp only[List.mem_append,List.mem_singleton];constructor
    ·rintro((a|a)|a)<;>simp[a]
    ·rintro((a|a)|a)<;>simp[a]
   ·simp only[List.length_append,List.length_take,List.length_drop,List.length_singleton];omega
 ·have hn:n=l.length:=by omega
  simp only[Q6 (show l.length≤n by omega),Qb,Qa]
  have hc0:cut l 0 ((n:Nat):Int)=l.take n:=by unfold cut;simp
  have hc1:cut l ((n:Nat):Int) (ln l)=l.drop n:=by unfold cut ln;simp
  have hs0:Cy 0 ((n:Nat):Int) (ln l)=true:=by unfold Cy ln;simp;omega
  have hs1:Cy ((n:Nat):Int) (ln l) (ln l)=true:=by unfold Cy ln;simp;omega
  have hr0:rm (0+(l.take n).length) 8=true:=by unfold rm;exact Qf (by rw[List.length_take];omega)
  have hr1:rm ((l.take n).length+1) 8=true:=by unfold rm;exact Qf (by rw[List.length_take];omega)
  have hr2:rm ((l.take n).length+1+(l.drop n).length) 8=true:=by unfold rm;exact Qf (by rw[List.length_take,List.length_drop];omega)
  refine⟨l.take n++[v]++l.drop n,by simp only[hc0,hc1,hs0,hs1,hr0,hr1,hr2,QL],?_,λx=>?_,?_⟩
  ·exact lR hl hnl h1 λh'=>absurd h' h
  ·have:x∈l↔x∈l.take n∨x∈l.drop n:=by rw[←List.mem_append,List.take_append_drop]
   rw[this];simp only[List.mem_append,List.mem_singleton];constructor
   ·rintro((a|a)|a)<;>simp[a]
   ·rintro((a|a)|a)<;>simp[a]
  ·simp only[List.length_append,List.length_take,List.length_drop,List.length_singleton];omega
def KK(l:List Entry):List Int:=l.flatMap λx=>[x.From,x.To]
def aT(l:List Entry)(i:Nat)(h:i<l.length)(x:Int):x∈KK (l.take (i+1))↔x∈KK (l.take i)∨x=l[i].From∨x=l[i].To:=by
 rw[List.take_succ_eq_append_getElem h];unfold KK;rw[List.flatMap_append,List.mem_append];simp only[List.flatMap_cons,List.flatMap_nil,List.append_nil,List.mem_cons,List.not_mem_nil,or_false]
def U9:∀l:List Entry,(KK l).length=2*l.length
 |[]=>rfl
 |x::l=>by
  have:=U9 l;unfold KK at this ⊢;simp only[List.flatMap_cons,List.length_append,List.length_cons,List.length_nil,this];omega
def cB(l:List Entry)(hl:l.length≤1048576):∃r,F4 l=some r∧r.Pairwise (· < ·)∧(∀x,x∈r↔x∈KK l)∧r.length≤2097152:=by
 obtain⟨v,h1,h2,h3,h4⟩:=N2 (n:=l.length) (step:=DF l) (fin:=λv=>v)
  (λi v=>v.Pairwise (· < ·)∧(∀x,x∈v↔x∈KK (l.take i))∧v.length≤2*i)
  (λi v hi ⟨q1,q2,q3⟩=>by
   obtain⟨r,e1,e2,e3,e4⟩:=eM v l[i].From q1 (by omega)
   obtain⟨r',f1,f2,f3,f4⟩:=eM r l[i].To e2 (by omega)
   refine⟨r',?_,f2,λx=>?_,by omega⟩
   ·simp only[DF,QY hi,QR hi,Q2 hi,Qc,QL,e1,f1,Qa,Q3 (show(i:Int)<9223372036854775807 by omega)]
   ·rw[f3,e3,q2,aT l i hi,or_assoc])
  (λv _=>by simp only[DF,Q6 (Qg _),Qb])
  [] ⟨List.Pairwise.nil,λx=>by simp[KK],by simp⟩
 refine⟨v,by unfold F4;rw[h1];rfl,h2,λx=>by rw[h3,List.take_length],by omega⟩
def bC{zs:List Int}(hs:zs.Pairwise (·≤·)):∀m,m≤zs.length→(Lib.compactUpTo zs.toArray m).Pairwise (· < ·)∧(∀x,x∈Lib.compactUpTo zs.toArray m↔x∈zs.take m)
 |0,_=>by simp[Lib.compactUpTo]
 |m+1,hm=>by
  obtain⟨h1,h2⟩:=bC hs m (by omega)
  have hmz:m<zs.length:=by omega
  have hget:zs.toArray[m]! = zs[m]:=by rw[getElem!_pos _ m (by simpa using hmz)];simp
  rw[Lib.compactUpTo_succ,List.take_succ_eq_append_getElem hmz];by_cases h0:m=0
  ·subst h0
   rw[Lib.keeps_lt_one _ 0 (by omega),if_pos rfl,hget]
   simp[Lib.compactUpTo]
  ·have hget':zs.toArray[m-1]! = zs[m-1]:=by rw[getElem!_pos _ (m-1) (by simp;omega)];simp
   have hle:∀x∈zs.take m,x≤zs[m-1]:=by
    intro x hx;obtain⟨i,hi,rfl⟩:=List.mem_iff_getElem.1 hx;rw[List.length_take]at hi;rw[List.getElem_take];by_cases hi':i=m-1
    ·subst hi';omega
    ·exact List.pairwise_iff_getElem.1 hs i (m-1) (by omega) (by omega) (by omega)
   have hlast:zs[m-1]∈zs.take m:=by
    rw[List.mem_iff_getElem];exact⟨m-1,by rw[List.length_take];omega,List.getElem_take⟩
   have hstep:zs[m-1]≤zs[m]:=List.pairwise_iff_getElem.1 hs (m-1) m (by omega) (by omega) (by omega)
   by_cases he:zs[m]=zs[m-1]
   ·rw[Lib.keeps_neg (by omega) (by rw[hget,hget',he])]
    simp only[Bool.false_eq_true,if_false,List.append_nil];refine⟨h1,λx=>?_⟩
    rw[h2,List.mem_append,List.mem_singleton];exact⟨.inl,λh=>h.elim id λh=>by rw[h,he];exact hlast⟩
   ·rw[Lib.keeps_pos (by rw[hget,hget'];exact he),if_pos rfl,hget]
    refine⟨List.pairwise_append.2 ⟨h1,by simp,λx hx y hy=>?_⟩,λx=>?_⟩
    ·simp only[List.mem_singleton]at hy
     subst hy;have:=hle x ((h2 x).1 hx);omega
    ·rw[List.mem_append,List.mem_append,h2]
def pa(l:List Int):(ZR (Aw l)).Pairwise (· < ·)∧∀x,x∈ZR (Aw l)↔x∈l:=by
 have hs:(Aw l).Pairwise (·≤·):=by
  have:=List.pairwise_mergeSort (le:=λx y:Int=>decide (x≤y)) (λa b c h1 h2=>by simp at *;omega) (λa b=>by simp;omega) l
  unfold Aw;exact this.imp λh=>by simpa using h
 obtain⟨h1,h2⟩:=bC hs (Aw l).length (Qg _);refine⟨h1,λx=>?_⟩
 have:=h2 x;rw[List.take_length]at this;exact this.trans (by unfold Aw;rw[List.mem_mergeSort])
def cJ(l:List Entry)(hl:l.length≤1048576):BZ l=some (ZR (Aw (KK l))):=by
 have hrun:run (Zi l (ln l)) ([],0)=some (KK l):=by
  have:=Xe (step:=Zi l (ln l)) (λi=>(KK (l.take i),(i:Int))) (r:=KK l) l.length (λi hi=>by
    have hlen:(KK (l.take i)).length≤2*i:=by rw[U9,List.length_take];omega
    have hrm:rm ((KK (l.take i)).length+2) 8=true:=by unfold rm;exact Qf (by omega)
    have he:KK (l.take (i+1))=KK (l.take i)++[l[i].From,l[i].To]:=by unfold KK;rw[List.take_succ_eq_append_getElem hi,List.flatMap_append];rfl
    simp only[Zi,QY hi,QR hi,Q2 hi,Qc,QL,hrm,he,Q3 (show(i:Int)<9223372036854775807 by omega)])
   (by simp only[Zi,Q6 (Qg _),Qb,List.take_length])
  simpa[KK]using this
 have ha:=U9 l;generalize hacc:KK l=a at *;have hal:a.length≤2097152:=by omega
 have hl2:ln [a,[]]=2:=rfl;have hc:Ck [a,[]]=some a:=by
  unfold Ck;have w0:QV (0+ln a)=ln a:=by rw[Vt]<;>unfold ln<;>omega
  have w1:QV (ln a+ln ([]:List Int))=ln a:=by rw[Vt]<;>unfold ln<;>simp<;>omega
  have hneg:decide (ln a<0)=false:=Qe (by unfold ln;omega)
  have s0:XD [a,[]] [a,[]] (ln [a,[]]) (0,0)=some (.inl (ln a,1)):=by
   have g0:gt [a,([]:List Int)] 0=a:=rfl;simp only[XD,hl2,g0,show Q0 [a,([]:List Int)] 0=true from rfl,show decide ((0:Int)<2)=true from rfl,w0,hneg,Qc,Qb,QL,show QV (0+1)=1 from rfl]
  have s1:XD [a,[]] [a,[]] (ln [a,[]]) (ln a,1)=some (.inl (ln a,2)):=by
   have g1:gt [a,([]:List Int)] 1=[]:=rfl;simp only[XD,hl2,g1,show Q0 [a,([]:List Int)] 1=true from rfl,show decide ((1:Int)<2)=true from rfl,w1,hneg,Qc,Qb,QL,show QV (1+1)=2 from rfl]
  have s2:XD [a,[]] [a,[]] (ln [a,[]]) (ln a,2)=some (.inr (ln a)):=rfl;have r1:run (XD [a,[]] [a,[]] (ln [a,[]])) (0,0)=some (ln a):=by
   rw[QZ,s0];show run _ (ln a,1)=_;rw[QZ,s1];show run _ (ln a,2)=_;rw[QZ,s2];rfl
  have hg:BN (ln a)=some []:=by
   unfold BN nd;rw[show(decide (0≤ln a)&&decide (ln a≤17592186044416))=true by unfold ln;simp;omega]
   rfl
  have t0:Jd [a,[]] (ln [a,[]]) ([],0)=some (.inl (a,1)):=by
   have hrm:rm (([]:List Int).length+a.length) 8=true:=by unfold rm;exact Qf (by simp;omega)
   show(bif decide ((0:Int)<2)then nd (Q0 [a,[]] 0)<|nd (rm (([]:List Int).length+a.length) 8)<|some (Sum.inl ([]++a,QV (0+1)))else some (Sum.inr []))=_;rw[hrm];rfl
  have t1:Jd [a,[]] (ln [a,[]]) (a,1)=some (.inl (a,2)):=by
   have hrm:rm (a.length+([]:List Int).length) 8=true:=by unfold rm;exact Qf (by simp;omega)
   show(bif decide ((1:Int)<2)then nd (Q0 [a,[]] 1)<|nd (rm (a.length+([]:List Int).length) 8)<|some (Sum.inl (a++[],QV (1+1)))else some (Sum.inr a))=_;rw[hrm,List.append_nil];rfl
  have t2:Jd [a,[]] (ln [a,[]]) (a,2)=some (.inr a):=rfl;have r2:run (Jd [a,[]] (ln [a,[]])) ([],0)=some a:=by
   rw[QZ,t0];show run _ (a,1)=_;rw[QZ,t1];show run _ (a,2)=_;rw[QZ,t2];rfl
  rw[r1];simp only[Qa,hg,r2]
 unfold BZ GA;have hsl:(Aw a).length=a.length:=by unfold Aw;simp
 rw[hrun];simp only[Qa,hc,hsl,show decide (a.length<4611686018427387904)=true from Qf (by omega),QL]
def iu(l:List Entry)(hl:l.length≤1048576):∃r,F4 l=some r∧BZ l=some r∧r.length≤2097152:=by
 obtain⟨r,h1,h2,h3,h4⟩:=cB l hl;obtain⟨q1,q2⟩:=pa (KK l);have:ZR (Aw (KK l))=r:=rS q1 h2 λx=>(q2 x).trans (h3 x).symm
 exact⟨r,h1,by rw[cJ l hl,this],h4⟩
def mH(x y:Int):QV (QV x+y)=QV (x+y):=by unfold QV;omega
def QaM(x y:Int):QV (QV x-y)=QV (x-y):=by unfold QV;omega
def QfS(x y:Int):QV (QV x-QV y)=QV (x-y):=by unfold QV;omega
def Mh(l:List Entry)(a:Int):Int:=(l.map λx=>if x.To=a then x.Qy else 0).sum
def FW(l:List Entry)(a:Int):Int:=(l.map λx=>if x.From=a then x.Qy else 0).sum
def YK(l:List Entry)(a:Int)(i:Nat)(h:i<l.length):Mh (l.take (i+1)) a=Mh (l.take i) a+(if l[i].To=a then l[i].Qy else 0):=by
 unfold Mh;rw[List.take_succ_eq_append_getElem h,List.map_append,List.sum_append];rw[List.map_cons,List.map_nil,List.sum_cons,List.sum_nil,Int.add_zero]
def PQ(l:List Entry)(a:Int)(i:Nat)(h:i<l.length):FW (l.take (i+1)) a=FW (l.take i) a+(if l[i].From=a then l[i].Qy else 0):=by
 unfold FW;rw[List.take_succ_eq_append_getElem h,List.map_append,List.sum_append];rw[List.map_cons,List.map_nil,List.sum_cons,List.sum_nil,Int.add_zero]
def MS(l:List Entry)(a:Int)(hl:l.length≤1048576):∃v,Ac l a=some v∧JD l a=some v:=by
 obtain⟨b,e1,e2,e3⟩:=Gi l hl;cases b with
 |false =>
  refine⟨0,?_,by unfold JD;rw[e2];rfl⟩
  unfold Ac;rw[QZ];show Option.bind (Option.bind (Option.bind (bif decide ((0:Int)<ln l)then(VR l).bind λr=>some r else some false) _) _) _=_
  rw[e1];by_cases h:(0:Int)<ln l
  ·rw[Qf h];rfl
  ·rw[Qe h];rfl
 |true =>
  refine⟨QV (Mh l a-FW l a),?_,?_⟩
  ·unfold Ac
   have hr:run (D1 l a) (0,0)=some (QV (Mh l a-FW l a)):=by
    have:=Xe (step:=D1 l a) (λi=>(QV (Mh (l.take i) a-FW (l.take i) a),(i:Int))) (r:=QV (Mh l a-FW l a)) l.length (λi hi=>by
      simp only[D1,QY hi,QR hi,Q2 hi,Qc,QL,e1,Qa,Q3 (show(i:Int)<9223372036854775807 by omega),YK l a i hi,PQ l a i hi]
      by_cases h1:l[i].To=a<;>by_cases h2:l[i].From=a
      ·rw[Qf h1,Qf h2,if_pos h1,if_pos h2,Qc,Qc,mH,QaM]
       exact congrArg (λz=>some (Sum.inl (QV z,_))) (by omega)
      ·rw[Qf h1,Qe h2,if_pos h1,if_neg h2,Qc,Qb,mH]
       exact congrArg (λz=>some (Sum.inl (QV z,_))) (by omega)
      ·rw[Qe h1,Qf h2,if_neg h1,if_pos h2,Qb,Qc,QaM]
       exact congrArg (λz=>some (Sum.inl (QV z,_))) (by omega)
      ·rw[Qe h1,Qe h2,if_neg h1,if_neg h2,Qb,Qb]
       exact congrArg (λz=>some (Sum.inl (QV z,_))) (by omega))
     (by simp only[D1,Q6 (Qg _),Qb,Qa,List.take_length])
    simpa[Mh,FW,QV]using this
   rw[hr];rfl
  ·unfold JD GT E5
   have h1:run (X7 a l (ln l)) (0,0)=some (QV (Mh l a)):=by
    have:=Xe (step:=X7 a l (ln l)) (λi=>(QV (Mh (l.take i) a),(i:Int))) (r:=QV (Mh l a)) l.length (λi hi=>by
      simp only[X7,QY hi,QR hi,Q2 hi,Qc,QL,Q3 (show(i:Int)<9223372036854775807 by omega),YK l a i hi]
      by_cases h1:l[i].To=a
      ·rw[Qf h1,if_pos h1,Qc,mH]
      ·rw[Qe h1,if_neg h1,Qb,Int.add_zero])
     (by simp only[X7,Q6 (Qg _),Qb,List.take_length])
    simpa[Mh,QV]using this
   have h2:run (Xx a l (ln l)) (0,0)=some (QV (FW l a)):=by
    have:=Xe (step:=Xx a l (ln l)) (λi=>(QV (FW (l.take i) a),(i:Int))) (r:=QV (FW l a)) l.length (λi hi=>by
      simp only[Xx,QY hi,QR hi,Q2 hi,Qc,QL,Q3 (show(i:Int)<9223372036854775807 by omega),PQ l a i hi]
      by_cases h1:l[i].From=a
      ·rw[Qf h1,if_pos h1,Qc,mH]
      ·rw[Qe h1,if_neg h1,Qb,Int.add_zero])
     (by simp only[Xx,Q6 (Qg _),Qb,List.take_length])
    simpa[FW,QV]using this
   simp only[e2,h1,h2,Qa,Qh,Qb,QfS]
def jW(l:List Entry)(hl:l.length≤1048576):∀a,Ac l a=JD l a:=λa=>by
 obtain⟨v,h1,h2⟩:=MS l a hl;rw[h1,h2]
def iV(h:Ql)(hs:QS h):∃c,HV h=some c∧DL h=some c:=by
 obtain⟨_,_,_,_,_,_,hb⟩:=hs;obtain⟨r,a1,a2,a3⟩:=iu h.Book hb;have hl:Gh h r=Jq h r (ln r):=by
  funext ⟨v,i⟩;simp only[Gh,Jq,jW h.Book hb]
 obtain⟨n,hn,_⟩:=N2 (n:=r.length) (step:=Jq h r (ln r)) (fin:=λv=>v) (λ_ _=>True)
  (λi v hi _=>by
   obtain⟨x,_,hx⟩:=MS h.Book r[i] hb;exact⟨_,by simp only[Jq,QY hi,QR hi,Q2 hi,Qc,QL,hx,Qa,Q3 (show(i:Int)<9223372036854775807 by omega)];rfl,trivial⟩)
  (λv _=>by simp only[Jq,Q6 (Qg _),Qb]) 0 trivial
 obtain⟨x,x1,x2⟩:=MS h.Book 0 hb;refine⟨bif decide (n=0)then decide (0≤x)else false,?_,?_⟩
 ·unfold HV
  simp only[a1,hl,hn,x1,Qa];cases decide (n=0)<;>rfl
 ·unfold DL
  simp only[a2,hn,x2,Qa];cases decide (n=0)<;>rfl
def W2(h:Ql)(hm:QS h)(ht:Vv h=some true):(∀x∈h.Qs,1≤x.Id)∧h.Qw.length≤100∧Xu h.Qw=some true∧Jk h.Qw=some true:=by
 obtain⟨m1,m2,m3,m4,m5,m6,m7⟩:=hm;obtain⟨f,f1,f2,f3⟩:=M4 h.Qt m1;obtain⟨s,s1,s2⟩:=LK h.Qn m2.1 (λx hx=>m2.2 x hx)
 obtain⟨t,t1,t2,t3⟩:=K8 h.Qs m3;obtain⟨c,c1,c2,c3⟩:=Hb h.Qv m4;obtain⟨n,n1,n2,n3⟩:=RA h.Qw;unfold Vv at ht;simp only[QO,f1,s1,t1,c1,n1,Qa]at ht;cases hN:(decide (1≤h.No)&&decide (h.No≤9))with
 |false=>rw[hN]at ht;cases ht
 |true =>
 rw[hN]at ht;cases f with
 |false=>cases ht
 |true =>
 cases s with
 |false=>cases ht
 |true =>
 cases t with
 |false=>cases ht
 |true =>
 cases c with
 |false=>cases ht
 |true =>
 cases n with
 |false=>cases ht
 |true=>exact⟨(t3 rfl).2,(n3 rfl).1,n1,n2⟩
def yX(l:List Hand)(t:Int)(hl:l.length≤1048576):∃r,Fk l t=some r∧decide (ln r=0)=decide (JI l t l.length<0):=by
 have hr:=ES l (λx=>decide (x.Qo=t)) (λx=>x) (step:=ZO l t)
  (λi out hi ho=>by
   have hrm:rm (out.length+1) 40=true:=by unfold rm;exact Qf (by omega)
   simp only[ZO,QY hi,QR hi,Q2 hi,Q3 (show(i:Int)<9223372036854775807 by omega),Qc,QL,hrm]
   cases decide (l[i].Qo=t)<;>rfl)
  (λout=>by simp only[ZO,Q6 (Qg _),Qb])
 refine⟨(l.filter λx=>decide (x.Qo=t)).map λx=>x,by unfold Fk;rw[hr];rfl,?_⟩
 rw[Bool.eq_iff_iff,decide_eq_true_eq,decide_eq_true_eq];unfold ln;rw[List.length_map];constructor
 ·intro h0
  rcases K5 l t l.length with h|⟨j,hj,h⟩
  ·omega
  ·exfalso
   obtain⟨_,q⟩:=LJ l t l.length j h;rw[Q2 hj]at q;have:l[j]∈l.filter λx=>decide (x.Qo=t):=List.mem_filter.2 ⟨List.getElem_mem hj,by simpa using q⟩
   have:=List.length_pos_of_mem this;omega
 ·intro h0
  cases hf:l.filter (λx=>decide (x.Qo=t))with
  |nil=>rfl
  |cons x r =>
   exfalso;have hx:x∈l.filter λx=>decide (x.Qo=t):=by rw[hf];simp
   obtain⟨h1,h2⟩:=List.mem_filter.1 hx;obtain⟨i,hi,rfl⟩:=List.mem_iff_getElem.1 h1;obtain⟨j,_,q⟩:=NN l t l.length i hi (by rw[Q2 hi];simpa using h2)
   omega
def gb(h:Ql)(hm:QS h)(ht:Vv h=some true):∃c,Hg h=some c∧Dg h=some c:=by
 obtain⟨hs,hl,c1,c2⟩:=W2 h hm ht;obtain⟨m1,m2,m3,m4,m5,m6,m7⟩:=hm;obtain⟨r1,r2,a1,a2,a3,a4,a5⟩:=mu h.Qw h.No hl c1 c2;obtain⟨b,b1,b2,_⟩:=FT (n:=h.Qt.length) (r:=false) (s1:=CF h r1) (s2:=ZK h r2 h.Qt (ln h.Qt)) (λi hi _=>by
   obtain⟨r,e1,e2⟩:=yX h.Qw h.Qt[i].Qo.Id m6;obtain⟨c,d1,d2⟩:=lL h.Qs h.Qt[i].Qo.Id m3 hs;have hsw:=La h.Qs h.Qt[i].Qo.Id m3;have hw:decide ((bif decide (h.Qt[i].Qo.Id=0)then -1 else C8 h.Qs h.Qt[i].Qo.Id)<(0:Int))=decide (c=0):=by
    rw[d2];by_cases h0:h.Qt[i].Qo.Id=0
    ·rw[Qf h0];rfl
    ·rw[Qe h0]
     rcases Hf h.Qs h.Qt[i].Qo.Id with⟨p1,p2⟩|⟨k,hk,p1,_,p2⟩
     ·rw[p1,Qb,p2];rfl
     ·rw[p2,Qb,p1,Qe (show ¬(k:Int)<0 by omega)];rfl
   have hin:decide (h.Qt[i].Qo.Id∈r1)=decide (h.Qt[i].Qo.Id∈r2):=by
    rw[Bool.eq_iff_iff,decide_eq_true_eq,decide_eq_true_eq];exact a3 _
   simp only[CF,ZK,QY hi,QR hi,Q2 hi,Q3 (show(i:Int)<9223372036854775807 by omega),Qc,QL,e1,e2,d1,hsw,hw,cg h.Qw _ m6,
    Qgx r1 _ (by omega),Qfw r2 _ (by omega),hin,Qa]
   cases decide (JI h.Qw h.Qt[i].Qo.Id h.Qw.length<0)<;>cases decide (c=0)<;>cases decide (h.Qt[i].Qo.Id∈r2)<;>first|exact⟨true,rfl,rfl⟩|exact⟨false,rfl,rfl⟩)
  (by simp only[CF,Q6 (Qg _),Qb]) (by simp only[ZK,Q6 (Qg _),Qb])
 refine⟨b,?_,?_⟩
 ·unfold Hg
  simp only[a1,b1,Qa];cases b<;>rfl
 ·unfold Dg
  simp only[a2,b2,Qa];cases b<;>rfl
def yS(h:Ql)(hm:QS h):∃c,Ii h=some c∧Fe h=some c:=by
 obtain⟨b,b1,b2⟩:=UO h hm;unfold Ii Fe;rw[b2];rw[b1];cases b with
 |false=>exact⟨_,rfl,rfl⟩
 |true =>
  obtain⟨c,c1,c2⟩:=gb h hm b1;obtain⟨d,d1,d2⟩:=oF h hm;obtain⟨e,e1,e2⟩:=dk h hm;obtain⟨k,k1,k2⟩:=iV h hm;simp only[c1,c2,d1,d2,e1,e2,k1,k2,Qa];cases c<;>cases d<;>cases e<;>cases k<;>exact⟨_,rfl,rfl⟩
def mj{n:Int}(h0:0≤n)(h1:n<256):IntKind.u8.wrap n=n:=by
 unfold IntKind.wrap;simp only[show IntKind.u8.bits=8 from rfl,show IntKind.u8.signed=false from rfl];simp;omega
def wn(n:Int):i64 (QV n):=by unfold i64 QV;omega
def vV(x:Int):-10<x.tmod 10∧x.tmod 10<10:=by
 refine⟨?_,Int.tmod_lt_of_pos x (by omega)⟩
 have h:=Int.tmod_lt_of_pos (-x) (b:=10) (by omega)
 rw[Int.neg_tmod]at h;omega
def BF{x y:List UInt8}(hx:x.length≤1000000000000)(hy:y.length≤1000000000000):VK x y=true:=by
 unfold VK;exact Qf (by omega)
def Zo(x y:List UInt8):(QP x y).length=x.length+y.length:=by simp[QP]
def tf(vn x:Int)(s:List UInt8)(hx:x≠0)(hu:x.natAbs≤9223372036854775808)(hs:s.length≤100) :
  Cc vn (s,x)=some (.inl (UInt8.ofNat (48+x.natAbs%10)::s,x.tdiv 10)):=by
 obtain⟨b1,b2⟩:=vV x;have h1:(x.tmod 10).natAbs=x.natAbs%10:=Int.natAbs_tmod x 10;have h2:(x.tdiv 10).natAbs=x.natAbs / 10:=Int.natAbs_tdiv x 10;have ew:QV (x.tdiv 10)=x.tdiv 10:=Vt (by omega) (by omega)
 have ez:(!decide (x=0))=true:=by simp[hx]
 simp only[Cc,ez,ew,Qc];by_cases hn:x.tmod 10<0
 ·have e1:QV (-(x.tmod 10))=-(x.tmod 10):=Vt (by omega) (by omega)
  have e2:QV (48+-(x.tmod 10))=48+-(x.tmod 10):=Vt (by omega) (by omega)
  have e3:(48+-(x.tmod 10)).toNat=48+x.natAbs%10:=by omega
  rw[Qf hn,Qc,e1,e2,mj (by omega) (by omega),e3,BF (by simp) (by omega)]
  rfl
 ·have e2:QV (48+x.tmod 10)=48+x.tmod 10:=Vt (by omega) (by omega)
  have e3:(48+x.tmod 10).toNat=48+x.natAbs%10:=by omega
  rw[Qe hn,Qb,e2,mj (by omega) (by omega),e3,BF (by simp) (by omega)]
  rfl
def yn(vn:Int):∀(u:Nat) (x:Int) (s:List UInt8),x.natAbs=u→0<u→u≤9223372036854775808→s.length+Lib.nDigits u≤100→run (Cc vn) (s,x)=some (Lib.decDigits u++s):=by
 intro u
 induction u using Nat.strongRecOn with
 |_ u ih =>
  intro x s hx h0 h1 hs;have hpos:=Lib.nDigits_pos u;have h2:(x.tdiv 10).natAbs=x.natAbs / 10:=Int.natAbs_tdiv x 10;rw[QZ,tf vn x s (by omega) (by omega) (by omega)]
  show run (Cc vn) (UInt8.ofNat (48+x.natAbs%10)::s,x.tdiv 10)=_;by_cases hu:u<10
  ·have hz:x.tdiv 10=0:=by omega
   rw[hz,QZ,Lib.decDigits,dif_pos hu,hx,Nat.mod_eq_of_lt hu];rfl
  ·rw[ih (u / 10) (by omega) (x.tdiv 10) _ (by omega) (by omega) (by omega) (by
    rw[Lib.nDigits_big hu]at hs;simp only[List.length_cons];omega),hx]
   conv=>rhs;rw[Lib.decDigits,dif_neg hu]
   simp
def Zz(n:Int)(h:i64 n):Q4 n=some (Lib.itoa n):=by
 unfold i64 at h;unfold Q4;by_cases h0:n=0
 ·subst h0
  have e:Lib.itoa 0=[48]:=by
   unfold Lib.itoa;rw[if_neg (by omega),show(0:Int).toNat=0 from rfl,Lib.decDigits,dif_pos (by omega)]
   rfl
  rw[e];rfl
 ·have hd:=Lib.nDigits_le20 n.natAbs (by omega)
  rw[Qe h0,Qb,yn n n.natAbs n [] rfl (by omega) (by omega) (by simp only[List.length_nil];omega),List.append_nil]
  simp only[Qa];by_cases hn:n<0
  ·rw[Qf hn,Qc,BF (by simp) (by rw[Lib.decDigits_length];omega)]
   unfold Lib.itoa;rw[if_pos hn];rfl
  ·rw[Qe hn,Qb]
   unfold Lib.itoa;rw[if_neg hn,show n.natAbs=n.toNat by omega]
def AO(n:Int)(h:i64 n):Vf n=some (Lib.itoa n):=by
 unfold i64 at h;unfold Vf strconv_Itoa;rw[Qf h.1,Qf h.2];rfl
def VS(n:Int)(h:i64 n):(Lib.itoa n).length≤21:=Lib.itoa_length_le n h.1 h.2
def Mb(L:List (List UInt8)):Prop:=L.length≤1048576∧∀x∈L,x.length≤200
def PN(sep:List UInt8)(hsep:sep.length=1):∀(L:List (List UInt8)),(∀x∈L,x.length≤200)→(Lib.joinTail sep L).length≤L.length*201
 |[],_=>by simp[Lib.joinTail]
 |x::L,h=>by
  have h1:=PN sep hsep L λy hy=>h y (by simp[hy])
  have h2:=h x (by simp)
  have e:Lib.joinTail sep (x::L)=sep++x++Lib.joinTail sep L:=by simp[Lib.joinTail]
  rw[e];simp only[List.length_append,List.length_cons,hsep];omega
def Sj(sep:List UInt8)(hsep:sep.length=1):∀(L:List (List UInt8)),(∀x∈L,x.length≤200)→(Lib.join L sep).length≤L.length*201
 |[],_=>by rw[Lib.join_nil];simp
 |x::L,h=>by
  rw[Lib.join_cons];have h1:=PN sep hsep L λy hy=>h y (by simp[hy])
  have h2:=h x (by simp)
  simp only[List.length_append,List.length_cons];omega
def mX(sep:List UInt8)(L:List (List UInt8))(i:Nat)(h:i+1<L.length):Lib.join (L.take (i+1+1)) sep=Lib.join (L.take (i+1)) sep++sep++L[i+1]:=by
 cases L with
 |nil=>simp at h
 |cons x r =>
  have hr:i<r.length:=by simpa using h
  rw[List.take_succ_cons,List.take_succ_cons,Lib.join_cons,Lib.join_cons,Lib.joinTail_take_succ sep r i r[i] (List.getElem?_eq_getElem hr)];simp[List.append_assoc]
def jF{L:List (List UInt8)}(h:∀x∈L,x.length≤200)(i:Nat):∀x∈L.take i,x.length≤200:=λx hx=>h x (List.mem_of_mem_take hx)
def bj(c:UInt8)(L:List (List UInt8))(hL:Mb L){step:List UInt8×Int→Option ((List UInt8×Int)⊕List UInt8)}
  (h1:∀(i:Nat) (s:List UInt8) (h:i<L.length),s.length≤300000000→step (s,(i:Int))=some (.inl (if 0<i then QP (QP s [c]) L[i]else QP s L[i],((i+1:Nat):Int)))) (h2:∀s,step (s,(L.length:Int))=some (.inr s)) :
  run step ([],0)=some (Lib.join L [c]):=by
 obtain⟨hl,hx⟩:=hL;have:=Xe (step:=step) (λi=>(Lib.join (L.take i) [c],(i:Int))) (r:=Lib.join L [c]) L.length (λi hi=>by
  have hb:=Sj [c] rfl (L.take i) (jF hx i);have ht:(L.take i).length=i:=by simp;omega
  rw[ht]at hb;rw[h1 i _ hi (by omega)]
  cases i with
  |zero =>
   rw[if_neg (by omega)]
   congr 3;rw[List.take_zero,Lib.join_nil,List.take_succ_eq_append_getElem hi,List.take_zero];simp[QP,Lib.join_one]
  |succ i =>
   rw[if_pos (by omega),mX [c] L i hi]
   rfl) (by rw[h2,List.take_length])
 simpa[Lib.join_nil]using this
def eK(L:List (List UInt8))(hL:Mb L){step:List UInt8×Int→Option ((List UInt8×Int)⊕List UInt8)}
  (h1:∀(i:Nat) (s:List UInt8) (h:i<L.length),s.length≤300000000→step (s,(i:Int))=some (.inl (if 0<i then QP (QP s [32]) L[i]else QP s L[i],((i+1:Nat):Int)))) (h2:∀s,step (s,(L.length:Int))=some (.inr s)) :
  run step ([],0)=some (Lib.join L [32]):=bj 32 L hL h1 h2
def Dy(L:List (List UInt8)):List UInt8:=if L=[]then[45]else Lib.join L [32]
def Tj(L:List (List UInt8))(hL:Mb L):GY L=some (Dy L):=by
 have hr:=eK L hL (step:=FY L) (λi s hi hs=>by
   have hx:=hL.2 L[i] (List.getElem_mem hi);have hl:=hL.1;simp only[FY,QY hi,QR hi,Q2 hi,Q3 (show(i:Int)<9223372036854775807 by omega),Qc,QL]
   by_cases h0:0<i
   ·have e2:(QP s [32]).length≤1000000000000:=by rw[Zo];simp only[List.length_cons,List.length_nil];omega
    rw[Qf (show(0:Int)<i by omega),Qc,BF (x:=s) (y:=[32]) (by omega) (by simp),BF (x:=QP s [32]) (y:=L[i]) e2 (by omega),if_pos h0]
    rfl
   ·rw[Qe (show ¬(0:Int)<i by omega),Qb,BF (x:=s) (y:=L[i]) (by omega) (by omega),if_neg h0]
    rfl)
  (λs=>by simp only[FY,Q6 (Qg _),Qb])
 unfold GY Dy;rw[hr];cases L with
 |nil=>rfl
 |cons x L =>
  rw[if_neg (by simp)]
  simp only[Qa,show decide (ln (x::L)=0)=false from Qe (by rw[Vq];simp;omega),Qb]
def S0(L:List (List UInt8))(hL:Mb L):strings_Join L [32]=some (Lib.join L [32]):=by
 have hb:=Sj [32] rfl L hL.2;have hl:=hL.1;unfold strings_Join;rw[Qf (by omega),Qf (by omega)];rfl
def Tm(L:List (List UInt8))(hL:Mb L):E6 L=some (Dy L):=by
 unfold E6 Dy;cases L with
 |nil=>rfl
 |cons x L =>
  rw[if_neg (by simp),S0 _ hL]
  simp only[Qa,show decide (ln (x::L)=0)=false from Qe (by rw[Vq];simp;omega),Qb]
def A3{α:Type}(l:List α)(f:α→List UInt8){step:List (List UInt8)×Int→Option ((List (List UInt8)×Int)⊕List (List UInt8))}
  (h1:∀(i:Nat) (out:List (List UInt8)) (h:i<l.length),out.length≤i→step (out,(i:Int))=some (.inl (out++[f l[i]],((i+1:Nat):Int)))) (h2:∀out,step (out,(l.length:Int))=some (.inr out)) :
  run step ([],0)=some (l.map f):=by
 have:=ES l (λ_=>true) f (step:=step) (λi out h ho=>by rw[h1 i out h ho];rfl) h2
 rw[this,List.filter_eq_self.2 (λ_ _=>rfl)]
def K9{α:Type}{l:List α}{f:α→List UInt8}(hl:l.length≤1048576)(h:∀x∈l,(f x).length≤200):Mb (l.map f):=by
 refine⟨by rw[List.length_map];exact hl,λy hy=>?_⟩
 obtain⟨x,hx,rfl⟩:=List.mem_map.1 hy;exact h x hx
def IT(l:List Int)(hl:l.length≤1048576)(hx:∀x∈l,i64 x):Bx l=some (Dy (l.map Lib.itoa))∧Jt l=some (Dy (l.map Lib.itoa)):=by
 have hsh:Mb (l.map Lib.itoa):=K9 hl λx h=>Nat.le_trans (VS x (hx x h)) (by omega)
 have hs:=A3 l Lib.itoa (step:=BG l) (λi out hi ho=>by
   simp only[BG,QY hi,QR hi,Q2 hi,Q3 (show(i:Int)<9223372036854775807 by omega),VT (show out.length+1≤2000000 by omega) (show 16≤1024 by omega),Qc,QL,Zz _ (hx _ (List.getElem_mem hi)),Qa])
  (λout=>by simp only[BG,Q6 (Qg _),Qb])
 have hi:=A3 l Lib.itoa (step:=JS l (ln l)) (λi out hi ho=>by
   simp only[JS,QY hi,QR hi,Q2 hi,Q3 (show(i:Int)<9223372036854775807 by omega),VT (show out.length+1≤2000000 by omega) (show 16≤1024 by omega),Qc,QL,AO _ (hx _ (List.getElem_mem hi)),Qa])
  (λout=>by simp only[JS,Q6 (Qg _),Qb])
 refine⟨?_,?_⟩
 ·unfold Bx;rw[hs];simp only[Qa,Tj _ hsh]
 ·unfold Jt;rw[hi];simp only[Qa,Tm _ hsh]
def NU(n:Int):Lib.itoa n≠[]:=λh=>by
 unfold Lib.itoa at h
 split at h
 ·cases h
 ·have h1:=Lib.decDigits_length n.toNat
  have h2:=Lib.nDigits_pos n.toNat
  rw[h]at h1;simp at h1;omega
def LX(L:List (List UInt8))(h:∀x∈L,x≠[]):Dy L≠[]:=by
 unfold Dy;cases L with
 |nil=>simp
 |cons x L =>
  rw[if_neg (by simp),Lib.join_cons]
  have:=h x (by simp)
  simp[this]
def Yp(l:List Int):Dy (l.map Lib.itoa)≠[]:=LX _ λx hx=>by
 obtain⟨y,_,rfl⟩:=List.mem_map.1 hx;exact NU y
def gK(h:Ql)(h1:i64 h.No)(h2:i64 h.Now)(h3:h.Qt.length≤1048576)(h4:h.Qv.length≤1048576)(h5:h.Qw.length≤1048576)(h6:h.Book.length≤1048576):∃r,Fn h=some r∧Bk h=some r∧r≠[]:=by
 have hlen:∀{α:Type} (l:List α),l.length≤1048576→i64 (ln l):=λl hl=>by unfold i64;rw[Vq];omega
 obtain⟨r1,r2⟩:=IT [h.No,h.Now,ln h.Qt,ln h.Qv,ln h.Qw,ln h.Book] (by simp) (by
  intro x hx;simp only[List.mem_cons,List.not_mem_nil,or_false]at hx
  rcases hx with rfl|rfl|rfl|rfl|rfl|rfl
  ·exact h1
  ·exact h2
  ·exact hlen _ h3
  ·exact hlen _ h4
  ·exact hlen _ h5
  ·exact hlen _ h6)
 exact⟨_,by unfold Fn;rw[r1];rfl,by unfold Bk;rw[r2];rfl,Yp _⟩
def IE{x y:List UInt8}(h:x≠[]):QP x y≠[]:=λe=>h (List.append_eq_nil_iff.1 e).1
def eB{x y:List UInt8}(h:y≠[]):QP x y≠[]:=λe=>h (List.append_eq_nil_iff.1 e).2
def fD(c:Int):∃r,Hm c=some r∧CV c=some r∧(-1000000000≤c∧c≤1000000000→r≠[]):=by
 have big:∀{x:List UInt8},x.length≤100→∀{y:List UInt8},y.length≤100→VK x y=true:=λhx _ hy=>BF (by omega) (by omega)
 have hm:∀n:Int,i64 (n.tmod 10):=λn=>by have:=vV n;unfold i64;omega
 have hw:=wn;have tail:∀(s:List UInt8) (a b d:Int),s.length≤1→i64 a→i64 b→i64 d→∃r,
   ((Q4 a).bind λr2=>nd (VK s r2)<|nd (VK (QP s r2) [46])<|(Q4 b).bind λr3=>nd (VK (QP (QP s r2) [46]) r3)<|(Q4 d).bind λr4=>nd (VK (QP (QP (QP s r2) [46]) r3) r4)<|some (QP (QP (QP (QP s r2) [46]) r3) r4))=some r ∧
   ((Vf a).bind λr2=>nd (VK s r2)<|nd (VK (QP s r2) [46])<|(Vf b).bind λr3=>nd (VK (QP (QP s r2) [46]) r3)<|(Vf d).bind λr4=>nd (VK (QP (QP (QP s r2) [46]) r3) r4)<|some (QP (QP (QP (QP s r2) [46]) r3) r4))=some r∧(-1000000000≤c∧c≤1000000000→r≠[]):=by
  intro s a b d hs ha hb hd;have la:=VS a ha;have lb:=VS b hb;have ld:=VS d hd;have l2:(QP s (Lib.itoa a)).length≤22:=by rw[Zo];omega
  have l3:(QP (QP s (Lib.itoa a)) [46]).length≤23:=by rw[Zo];simp only[List.length_cons,List.length_nil];omega
  have l4:(QP (QP (QP s (Lib.itoa a)) [46]) (Lib.itoa b)).length≤44:=by rw[Zo];omega
  simp only[Zz a ha,Zz b hb,Zz d hd,AO a ha,AO b hb,AO d hd,Qa,big (show s.length≤100 by omega) (show(Lib.itoa a).length≤100 by omega),
   big (show(QP s (Lib.itoa a)).length≤100 by omega) (show([46]:List UInt8).length≤100 by simp),big (show(QP (QP s (Lib.itoa a)) [46]).length≤100 by omega) (show(Lib.itoa b).length≤100 by omega),
   big (show(QP (QP (QP s (Lib.itoa a)) [46]) (Lib.itoa b)).length≤100 by omega) (show(Lib.itoa d).length≤100 by omega),QL]
  exact⟨_,rfl,rfl,λ_=>eB (NU d)⟩
 unfold Hm CV QO QM;simp only[Qa];cases hq:(decide (-1000000000≤c)&&decide (c≤1000000000))with
 |false=>exact⟨[],rfl,rfl,λh=>by rw[Qf h.1,Qf h.2]at hq;cases hq⟩
 |true =>
  simp only[Qh,Qb];cases decide (c<0)with
  |true=>exact tail [45] _ _ _ (by simp) (hw _) (hm _) (hm _)
  |false=>exact tail [] _ _ _ (by simp) (hw _) (hm _) (hm _)
def aQ{x y:List UInt8}(hx:x.length≤150)(hy:y.length≤150):VK x y=true:=BF (by omega) (by omega)
def mg(c:UInt8):([c]:List UInt8).length≤150:=by simp
def T3(x:Qr):List UInt8:=QP (QP (Lib.itoa x.Id) [58]) (bif !decide (x.Qo=0)then Lib.itoa x.Qo else[46])
def nE(x:Qr)(h1:i64 x.Id)(h2:i64 x.Qo):(T3 x).length≤200:=by
 have a:=VS _ h1;have b:=VS _ h2;unfold T3;cases (!decide (x.Qo=0))<;>simp only[Qc,Qb,Zo,List.length_cons,List.length_nil]<;>omega
def fo(l:List Qr)(hl:l.length≤1048576)(hx:∀x∈l,i64 x.Id∧i64 x.Qo):∃r,Fx l=some r∧Bj l=some r∧r≠[]:=by
 have hsh:Mb (l.map T3):=K9 hl λx h=>nE x (hx x h).1 (hx x h).2
 have aN:∀{a b:List UInt8},a.length≤21→b.length≤21→VK a [58]=true∧VK (QP a [58]) b=true:=λ{a b} ha hb =>
  ⟨aQ (by omega) (mg _),aQ (by rw[Zo];simp only[List.length_cons,List.length_nil];omega) (by omega)⟩
 have hs:=A3 l T3 (step:=CJ l) (λi out hi ho=>by
   have hm:=hx _ (List.getElem_mem hi);have a:=VS _ hm.1;have b:=VS _ hm.2;simp only[CJ,QY hi,QR hi,Q2 hi,Q3 (show(i:Int)<9223372036854775807 by omega),VT (show out.length+1≤2000000 by omega) (show 16≤1024 by omega),Qc,QL,Zz _ hm.1,Zz _ hm.2,Qa,
    (aN a b).1,(aN a b).2,(aN a (show([46]:List UInt8).length≤21 by simp)).2,T3]
   cases decide (l[i].Qo=0)<;>rfl)
  (λout=>by simp only[CJ,Q6 (Qg _),Qb])
 have hi:=A3 l T3 (step:=ZL l (ln l)) (λi out hi ho=>by
   have hm:=hx _ (List.getElem_mem hi);have a:=VS _ hm.1;have b:=VS _ hm.2;simp only[ZL,QY hi,QR hi,Q2 hi,Q3 (show(i:Int)<9223372036854775807 by omega),VT (show out.length+1≤2000000 by omega) (show 16≤1024 by omega),Qc,QL,AO _ hm.1,AO _ hm.2,Qa,
    (aN a b).1,(aN a b).2,(aN a (show([46]:List UInt8).length≤21 by simp)).2,T3]
   cases decide (l[i].Qo=0)<;>rfl)
  (λout=>by simp only[ZL,Q6 (Qg _),Qb])
 refine⟨Dy (l.map T3),?_,?_,LX _ λx hx=>by obtain⟨y,_,rfl⟩:=List.mem_map.1 hx;exact IE (IE (NU _))⟩
 ·unfold Fx;rw[hs];simp only[Qa,Tj _ hsh]
 ·unfold Bj;rw[hi];simp only[Qa,Tm _ hsh]
def Y9(x:Qu):List UInt8:=bif decide (0≤x.State)&&decide (x.State≤3)then cut [111,112,102,115] x.State (QV (x.State+1))else[63]
def ML(x:Qu):List UInt8:=QP (QP (QP (QP (QP (Lib.itoa x.Id) [58]) (Lib.itoa x.QA)) [62]) (Lib.itoa x.Qo)) (Y9 x)
def jP{α:Type}(l:List α)(a b:Int):(cut l a b).length≤l.length:=by
 unfold cut;simp;omega
def jl(x:Qu):(Y9 x).length≤4:=by
 unfold Y9;cases (decide (0≤x.State)&&decide (x.State≤3))with
 |true=>exact jP _ _ _
 |false=>simp
def iN(x:Qu)(h1:i64 x.Id)(h2:i64 x.QA)(h3:i64 x.Qo):(ML x).length≤200:=by
 have a:=VS _ h1;have b:=VS _ h2;have c:=VS _ h3;have d:=jl x;unfold ML;simp only[Zo,List.length_cons,List.length_nil];omega
def LR{a b c d:List UInt8}(ha:a.length≤21)(hb:b.length≤21)(hc:c.length≤21)(hd:d.length≤21) :
  VK a [58]=true∧VK (QP a [58]) b=true∧VK (QP (QP a [58]) b) [62]=true∧VK (QP (QP (QP a [58]) b) [62]) c=true∧VK (QP (QP (QP (QP a [58]) b) [62]) c) d=true:=by
 refine⟨aQ ?_ ?_,aQ ?_ ?_,aQ ?_ ?_,aQ ?_ ?_,aQ ?_ ?_⟩<;>(try simp only[Zo,List.length_cons,List.length_nil])<;>omega
def cE(l:List Qu)(hl:l.length≤1048576)(hx:∀x∈l,i64 x.Id∧i64 x.QA∧i64 x.Qo):∃r,EC l=some r∧Az l=some r∧r≠[]:=by
 have hsh:Mb (l.map ML):=K9 hl λx h=>iN x (hx x h).1 (hx x h).2.1 (hx x h).2.2
 have hslB:∀s:Int,(decide (0≤s)&&decide (s≤3))=true→Cy s (QV (s+1)) (ln [111,112,102,115])=true:=by
  intro s hs;simp only[Bool.and_eq_true,decide_eq_true_eq]at hs;rw[Vt (by omega) (by omega)]
  unfold Cy;rw[Vq];simp;omega
 have hs:=A3 l ML (step:=B9 l) (λi out hi ho=>by
   obtain⟨m1,m2,m3⟩:=hx _ (List.getElem_mem hi);have a:=VS _ m1;have b:=VS _ m2;have c:=VS _ m3;obtain⟨f1,f2,f3,f4,f5⟩:=LR a b c (show(cut [111,112,102,115] l[i].State (QV (l[i].State+1))).length≤21 from Nat.le_trans (jP _ _ _) (by simp))
   obtain⟨_,_,_,_,f6⟩:=LR a b c (show([63]:List UInt8).length≤21 by simp)
   have hsl:=hslB l[i].State;simp only[B9,QY hi,QR hi,Q2 hi,Q3 (show(i:Int)<9223372036854775807 by omega),VT (show out.length+1≤2000000 by omega) (show 16≤1024 by omega),Qc,QL,Zz _ m1,Zz _ m2,Zz _ m3,Qa,
    f1,f2,f3,f4,f5,f6,ML,Y9,QO]
   cases hst:(decide (0≤l[i].State)&&decide (l[i].State≤3))with
   |false=>rfl
   |true=>rw[hsl hst];rfl)
  (λout=>by simp only[B9,Q6 (Qg _),Qb])
 have hi:=A3 l ML (step:=Zj l (ln l)) (λi out hi ho=>by
   obtain⟨m1,m2,m3⟩:=hx _ (List.getElem_mem hi);have a:=VS _ m1;have b:=VS _ m2;have c:=VS _ m3;obtain⟨f1,f2,f3,f4,f5⟩:=LR a b c (show(cut [111,112,102,115] l[i].State (QV (l[i].State+1))).length≤21 from Nat.le_trans (jP _ _ _) (by simp))
   obtain⟨_,_,_,_,f6⟩:=LR a b c (show([63]:List UInt8).length≤21 by simp)
   have hsl:=hslB l[i].State;simp only[Zj,QY hi,QR hi,Q2 hi,Q3 (show(i:Int)<9223372036854775807 by omega),VT (show out.length+1≤2000000 by omega) (show 16≤1024 by omega),Qc,QL,AO _ m1,AO _ m2,AO _ m3,Qa,
    f1,f2,f3,f4,f5,f6,ML,Y9,QM]
   cases hst:(decide (0≤l[i].State)&&decide (l[i].State≤3))with
   |false=>rfl
   |true=>rw[hsl hst];rfl)
  (λout=>by simp only[Zj,Q6 (Qg _),Qb])
 refine⟨Dy (l.map ML),?_,?_,LX _ λx hx=>by obtain⟨y,_,rfl⟩:=List.mem_map.1 hx;exact IE (IE (IE (IE (IE (NU _)))))⟩
 ·unfold EC;rw[hs];simp only[Qa,Tj _ hsh]
 ·unfold Az;rw[hi];simp only[Qa,Tm _ hsh]
def gq(h:Int):∃c,BX h=some c∧BY h=some c∧c.length≤6:=by
 by_cases hk:1≤h∧h≤5
 ·obtain⟨h2,h3⟩:=hk
  have:h=1∨h=2∨h=3∨h=4∨h=5:=by omega
  rcases this with rfl|rfl|rfl|rfl|rfl<;>exact⟨_,rfl,rfl,by decide⟩
 ·have e:(decide (1≤h)&&decide (h≤5))=false:=by
   by_cases h2:1≤h
   ·have h3:¬h≤5:=by omega
    simp[h2,h3]
   ·simp[h2]
  exact⟨[],by unfold BX QO;simp[e],by unfold BY QM;simp[e],by simp⟩
def Le(h:Int):List UInt8:=(BX h).getD []
def WE(h:Int):BX h=some (Le h)∧BY h=some (Le h)∧(Le h).length≤6:=by
 obtain⟨c,h1,h2,h3⟩:=gq h;unfold Le;rw[h1,h2];exact⟨rfl,rfl,h3⟩
def Nb(x:Hand):List UInt8:=QP (QP (QP (Le x.Qx) (Lib.itoa x.QA)) [43]) (Lib.itoa x.At)
def nl(x:Hand)(h1:i64 x.QA)(h2:i64 x.At):(Nb x).length≤200:=by
 have a:=VS _ h1;have b:=VS _ h2;have c:=(WE x.Qx).2.2;unfold Nb;simp only[Zo,List.length_cons,List.length_nil];omega
def qW(l:List Hand)(t:Int)(h:l.length≤1048576):Fk l t=some (l.filter λx=>decide (x.Qo=t))∧GB l t=some (l.filter λx=>decide (x.Qo=t)):=by
 have hr:=ES l (λx=>decide (x.Qo=t)) (λx=>x) (step:=ZO l t) (λi out hi ho=>by
   simp only[ZO,QY hi,QR hi,Q2 hi,Q3 (show(i:Int)<9223372036854775807 by omega),VT (show out.length+1≤2000000 by omega) (show 40≤1024 by omega),Qc,QL]
   cases decide (l[i].Qo=t)<;>rfl)
  (λout=>by simp only[ZO,Q6 (Qg _),Qb])
 rw[List.map_id']at hr;exact⟨by unfold Fk;rw[hr];rfl,by unfold GB;rw[show FX t l (ln l)=ZO l t from rfl,hr];rfl⟩
def iZ(a b c:List UInt8):QP (QP a b) c=QP a (QP b c):=by simp[QP]
def yw(l:List Hand)(t:Int)(hl0:l.length≤1048576)(hx0:∀x∈l,i64 x.QA∧i64 x.At):∃r,Ij l t=some r∧Ff l t=some r∧r≠[]:=by
 obtain⟨e1,e2⟩:=qW l t hl0;have hl:(l.filter λx=>decide (x.Qo=t)).length≤1048576:=Nat.le_trans (List.length_filter_le _ _) hl0
 have hx:∀x∈l.filter (λx=>decide (x.Qo=t)),i64 x.QA∧i64 x.At:=λx h=>hx0 x (List.mem_filter.1 h).1
 generalize l.filter (λx=>decide (x.Qo=t))=m at e1 e2 hl hx
 have hsh:Mb (m.map Nb):=K9 hl λx h=>nl x (hx x h).1 (hx x h).2
 have hi:=A3 m Nb (step:=BO m (ln m)) (λi out hi ho=>by
   obtain⟨m1,m2⟩:=hx _ (List.getElem_mem hi);have a:=VS _ m1;have b:=VS _ m2;obtain⟨_,q2,q3⟩:=WE m[i].Qx;have f1:VK (Le m[i].Qx) (Lib.itoa m[i].QA)=true:=aQ (by omega) (by omega)
   have f2:VK (QP (Le m[i].Qx) (Lib.itoa m[i].QA)) [43]=true:=aQ (by rw[Zo];omega) (mg _)
   have f3:VK (QP (QP (Le m[i].Qx) (Lib.itoa m[i].QA)) [43]) (Lib.itoa m[i].At)=true:=aQ (by rw[Zo,Zo];simp only[List.length_cons,List.length_nil];omega) (by omega)
   simp only[BO,QY hi,QR hi,Q2 hi,Q3 (show(i:Int)<9223372036854775807 by omega),VT (show out.length+1≤2000000 by omega) (show 16≤1024 by omega),Qc,QL,AO _ m1,AO _ m2,q2,Qa,f1,f2,f3]
   rfl)
  (λout=>by simp only[BO,Q6 (Qg _),Qb])
 have hs:=eK (m.map Nb) hsh (step:=F8 m) (λi s hi hs=>by
   have him:i<m.length:=by simpa using hi
   obtain⟨m1,m2⟩:=hx _ (List.getElem_mem him);have a:=VS _ m1;have b:=VS _ m2;obtain⟨q1,_,q3⟩:=WE m[i].Qx;have eg:(m.map Nb)[i]=Nb m[i]:=by simp
   have fit:∀{x y:List UInt8},x.length≤400000000→y.length≤400000000→VK x y=true:=λh1 h2=>BF (by omega) (by omega)
   have ends:∀p:List UInt8,p.length≤300000001→VK p (Le m[i].Qx)=true∧VK (QP p (Le m[i].Qx)) (Lib.itoa m[i].QA)=true∧VK (QP (QP p (Le m[i].Qx)) (Lib.itoa m[i].QA)) [43]=true ∧
     VK (QP (QP (QP p (Le m[i].Qx)) (Lib.itoa m[i].QA)) [43]) (Lib.itoa m[i].At)=true:=by
    intro p hp;refine⟨fit ?_ ?_,fit ?_ ?_,fit ?_ ?_,fit ?_ ?_⟩<;>(try simp only[Zo,List.length_cons,List.length_nil])<;>omega
   have asc:∀p:List UInt8,QP (QP (QP (QP p (Le m[i].Qx)) (Lib.itoa m[i].QA)) [43]) (Lib.itoa m[i].At)=QP p (Nb m[i]):=λp=>by unfold Nb;simp only[iZ]
   simp only[F8,QY him,QR him,Q2 him,Q3 (show(i:Int)<9223372036854775807 by omega),Qc,QL,Zz _ m1,Zz _ m2,q1,Qa,eg]
   by_cases h0:0<i
   ·obtain⟨g1,g2,g3,g4⟩:=ends (QP s [32]) (by rw[Zo];simp only[List.length_cons,List.length_nil];omega)
    rw[Qf (show(0:Int)<i by omega),if_pos h0,fit (x:=s) (y:=[32]) (by omega) (by simp)]
    simp only[Qc,QL,g1,g2,g3,g4,asc]
   ·obtain⟨g1,g2,g3,g4⟩:=ends s (by omega)
    rw[Qe (show ¬(0:Int)<i by omega),if_neg h0]
    simp only[Qb,QL,g1,g2,g3,g4,asc])
  (λs=>by
   rw[List.length_map];simp only[F8,Q6 (Qg _),Qb])
 refine⟨Dy (m.map Nb),?_,?_,LX _ λx hx=>by obtain⟨y,_,rfl⟩:=List.mem_map.1 hx;exact eB (NU _)⟩
 ·unfold Ij
  rw[e1];simp only[Qa];rw[hs];unfold Dy;cases m with
  |nil=>rfl
  |cons x m =>
   rw[if_neg (by simp)]
   simp only[Qa,show decide (ln (x::m)=0)=false from Qe (by rw[Vq];simp;omega),Qb]
 ·unfold Ff
  rw[e2];simp only[Qa];rw[hi];unfold Dy;cases m with
  |nil=>rfl
  |cons x m =>
   rw[if_neg (by simp)]
   simp only[Qa,S0 _ hsh,show decide (ln ((x::m).map Nb)=0)=false from Qe (by rw[Vq];simp;omega),Qb]
end Go.Proofs.YtfhnbabcbhgffaaGreatDoor
