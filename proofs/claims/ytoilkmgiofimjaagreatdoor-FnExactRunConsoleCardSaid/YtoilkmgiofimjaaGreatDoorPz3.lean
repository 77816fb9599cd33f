import Derived.Test.YtoilkmgiofimjaaGreatDoorPz2
import Derived.Lib.ItoaLen
noncomputable section
namespace Go.Proofs.YtoilkmgiofimjaaGreatDoor
open Go
set_option linter.unusedVariables false
set_option linter.unusedSimpArgs false
theorem DW(h out:House)(done:List Bool)(hm:Qu h)(ho:Qu out)(hd:done.length≤1048576):V9 h out done=some (EQ h out (done.all id)):=by
 unfold V9 EQ;simp only[(Jy h hm).2,(Jy out ho).2,XD h hm,UQ done hd,Qa];cases done.all id<;>cases J7 h<;>cases J7 out<;>rfl
theorem Ni(l:List Claim)(id s:Int)(k:Nat)(hk:k<l.length)(hid:DY l id=(k:Int))(h0:l[k].State=0)(hs:s=1∨s=2)(hl:l.length≤1048576)(h:Vu l=some true)(hI:X2 l=some true) :
  Zz l id s=some (l.set k ⟨l[k].Id,l[k].Who,l[k].Thing,l[k].At,s⟩,true):=by
 obtain⟨d,d1,d2,d3⟩:=G5 (l.set k ⟨l[k].Id,l[k].Who,l[k].Thing,l[k].At,s⟩) (by rw[List.length_set];omega)
 rw[iS l k hk s hs hl h]at d1;cases d1;unfold Zz VO;have hrm:rm (0+l.length) 40=true:=Vp (by omega) (by omega)
 simp only[hrm,Qn,(Ey l id hl).2,hI,Qa,hid,Qe (show ¬(k:Int)<0 by omega),Qb,Qh,Qs hk,QC hk,Int.toNat_natCast,d2,h0,decide_true,Qc]
 rcases hs with rfl|rfl<;>rfl
theorem qh(x:Int):∃c,CE [x]=some c∧Ge [x]=some c∧0≤c∧c<2147483647:=by
 obtain⟨c,hc,h0,h1⟩:∃c,F5 x 2147483647=some c∧0≤c∧c<2147483647:=by
  rw[gG];obtain⟨h1,h2⟩:=SA x (m:=2147483647) (by omega)
  unfold F2 Qo;simp only[Qa,show(decide ((1:Int)≤2147483647)&&decide ((2147483647:Int)≤1000000000000))=true from rfl,Qh,Qb,show(!decide ((2147483647:Int)=0))=true from rfl,Qn];generalize x.tmod 2147483647=t at h1 h2;by_cases ht:t<0
  ·rw[Qf ht];exact⟨_,rfl,by rw[VA]<;>omega,by rw[VA]<;>omega⟩
  ·rw[Qe ht];exact⟨_,rfl,by omega,by omega⟩
 have hs:CE [x]=some ((11000033+c+13).tmod 2147483647):=by
  unfold CE;have hr:=X0 (step:=Ja [x]) (λi=>if i=0 then(11,0)else((11000033+c+13).tmod 2147483647,1)) (r:=(11000033+c+13).tmod 2147483647) 1 (λi hi=>by
   have:i=0:=by omega
   subst this;simp only[Ja,if_true,show decide ((0:Int)<ln [x])=true from rfl,show inb [x] 0=true from rfl,show gt [x] (0:Int)=x from rfl,Qc,Qn,hc,Qa,show ¬(0+1=0)from by omega,if_false]
   rw[show w64 (11*1000003)=11000033 from rfl,show w64 (0+1)=1 from rfl,VA (show _≤11000033+c by omega) (by omega),VA (show _≤11000033+c+13 by omega) (by omega)])
   (by simp only[Ja,show ¬(1=0)from by omega,if_false];rfl)
  rw[show run (Ja [x]) (11,0)=_ from hr];rfl
 refine⟨_,hs,by rw[←j9,hs],Int.tmod_nonneg _ (by omega),Int.tmod_lt_of_pos _ (by omega)⟩
theorem cZ(l:List Mark)(c v:Int)(hl:l.length≤1048576):∃q,Ze l c v=some q∧CG l c v=some q:=by
 obtain⟨m,m1,m2⟩:=Ow l (by omega)
 obtain⟨c',c1,c2,c3,c4⟩:=qh c;unfold Ze CG Qq Qo;simp only[m1,m2,Qa];by_cases h0:ln l=0
 ·rw[Qf h0];exact⟨0,rfl,rfl⟩
 ·rw[Qe h0]
  have hpos:0<ln l:=by rw[Q5]at h0 ⊢;omega
  cases m with
  |false=>exact⟨0,rfl,rfl⟩
  |true =>
   cases hv:(decide (0≤v)&&decide (v≤1000))with
   |false=>exact⟨0,rfl,rfl⟩
   |true =>
    simp only[Bool.and_eq_true,decide_eq_true_eq]at hv;have hb:=Int.tmod_lt_of_pos c' hpos;have hn:=Int.tmod_nonneg (ln l) c3;have hle:ln l≤1048576:=by rw[Q5];omega
    have hmod:F5 c' (ln l)=some (c'.tmod (ln l)):=by
     unfold F5 Qq;simp only[Qa,show(decide (1≤ln l)&&decide (ln l≤1000000000000))=true from by rw[Qf (show 1≤ln l by omega),Qf (show ln l≤1000000000000 by omega)];rfl,Qh,Qb,Qe h0,Qi,Qn]
     rw[VA (by omega) (by omega),Int.tmod_eq_emod_of_nonneg (show 0≤c'.tmod (ln l)+ln l by omega),Int.add_emod_right,Int.emod_eq_of_lt hn hb]
    have hin:inb l ((w64 (c'.tmod (ln l)+v)).tmod (ln l))=true:=by
     rw[VA (by omega) (by omega),B3]
     exact⟨Int.tmod_nonneg _ (by omega),by have:=Int.tmod_lt_of_pos (c'.tmod (ln l)+v) hpos;rw[Q5]at this;exact this⟩
    simp only[c1,c2,hmod,Qa,Qb,Qh,Qi,Qn,hin];exact⟨_,rfl,rfl⟩
theorem PI(l:List Mark)(x:Trial)(hl:l.length≤1048576):∃q,Xv l x=some q∧XW l x=some q:=by
 obtain⟨s,s1,s2⟩:=Ko l x hl;obtain⟨q,q1,q2⟩:=cZ l x.Claim x.Asked hl;unfold Xv XW;simp only[s1,s2,q1,q2,Qa];cases decide (s=0)<;>exact⟨_,rfl,rfl⟩
theorem pA(l:List Mark)(q:Int)(hl:l.length≤1048576):∃a,E9 l q=some a∧EW l q=some a:=by
 have hs:=X3 l (λx=>decide (x.Question=q)) (λi=>(gt l (i:Int)).Answer) (step:=AU l q)
  (λi hi=>by
   simp only[AU,Qy hi,Qs hi,QC hi,QM (show(i:Int)<9223372036854775807 by omega),Qc,Qn]
   cases decide (l[i].Question=q)<;>rfl)
  (by simp only[AU,QP (Qg _),Qb])
 have hi:=X3 l (λx=>decide (x.Question=q)) (λi=>(gt l (i:Int)).Answer) (step:=AW q l (ln l))
  (λi hi=>by
   simp only[AW,Qy hi,Qs hi,QC hi,QM (show(i:Int)<9223372036854775807 by omega),Qc,Qn]
   cases decide (l[i].Question=q)<;>rfl)
  (by simp only[AW,QP (Qg _),Qb])
 unfold E9 EW;rw[hs,hi];cases l.findIdx? (λx=>decide (x.Question=q))<;>exact⟨_,rfl,rfl⟩
theorem ik(l:List Mark)(x:Trial)(a:Int)(hl:l.length≤1048576):∃r,Dd l x a=some r∧Dm l x a=some r:=by
 obtain⟨q,q1,q2⟩:=PI l x hl;obtain⟨b,b1,b2⟩:=pA l q hl;unfold Dd Dm;simp only[q1,q2,b1,b2,Qa];cases decide (q=0)<;>cases decide (b=a)<;>exact⟨_,rfl,rfl⟩
theorem iv(h:House)(id a:Int)(hm:Qu h):∃r,Ag h id a=some r∧By h id a=some r∧Qu r.1:=by
 have hm7:=hm;obtain⟨m1,m2,m3,m4,m5,m6,m7⟩:=hm7;unfold Ag By;simp only[X8 h hm,XD h hm,(Ey h.Claims id m4).1,(Ey h.Claims id m4).2,(Jy h hm).1,(Jy h hm).2,Qa]
 rcases G8 h.Claims id with hx|⟨k,hk,hx,hid⟩
 ·rw[hx]
  refine⟨(h,false),rfl,?_,hm⟩;cases J7 h<;>rfl
 ·rw[hx,Qe (show ¬(k:Int)<0 by omega)]
  cases hb:J7 h with
  |false=>exact⟨(h,false),rfl,rfl,hm⟩
  |true =>
   have ho:=Mi h hm hb;simp only[Qb,Qh,Qs hk,QC hk,Qn,Qa];by_cases h0:h.Claims[k].State=0
   ·have hkt:k<h.Trials.length:=by rw[NC h ho.trials];exact hk
    obtain⟨m,k1,k2,k3⟩:=TJ h.Secrets h.Claims[k].Thing m2.1 (λx hx=>m2.2 x hx)
    obtain⟨g,g1,g2⟩:=ik m h.Trials[k] a k3;obtain⟨s,s1,s2⟩:=Ko m g.1 k3;have hl1:(h.Trials.set k g.1).length≤1048576:=by rw[List.length_set];exact m5
    have hl2:∀s:Int,(h.Claims.set k ⟨h.Claims[k].Id,h.Claims[k].Who,h.Claims[k].Thing,h.Claims[k].At,s⟩).length≤1048576:=λs=>by rw[List.length_set];exact m4
    have w1:Qu ⟨h.No,h.Finds,h.Secrets,h.Slots,h.Claims.set k ⟨h.Claims[k].Id,h.Claims[k].Who,h.Claims[k].Thing,h.Claims[k].At,1⟩,h.Trials.set k g.1,h.Chain,h.Book,h.Now⟩:=smH hm m1 m2 m3 (hl2 1) hl1 m6 m7;have w2:Qu ⟨h.No,h.Finds,h.Secrets,h.Slots,h.Claims.set k ⟨h.Claims[k].Id,h.Claims[k].Who,h.Claims[k].Thing,h.Claims[k].At,2⟩,h.Trials.set k g.1,h.Chain,h.Book,h.Now⟩:=smH hm m1 m2 m3 (hl2 2) hl1 m6 m7;have w3:Qu ⟨h.No,h.Finds,h.Secrets,h.Slots,h.Claims,h.Trials.set k g.1,h.Chain,h.Book,h.Now⟩:=smH hm m1 m2 m3 m4 hl1 m6 m7;simp only[h0,decide_true,Qh,Qb,k1,k2,g1,g2,s1,s2,Qs hkt,QC hkt,Qn,Qa,Int.toNat_natCast,
     Ni h.Claims id 1 k hk hx h0 (.inl rfl) m4 ho.cS ho.cI,Ni h.Claims id 2 k hk hx h0 (.inr rfl) m4 ho.cS ho.cI,FR h _ _ hm w1,FR h _ _ hm w2,FR h _ _ hm w3,
     DW h _ _ hm w1 (show[g.2].length≤1048576 by simp),DW h _ _ hm w2 (show[g.2].length≤1048576 by simp),DW h _ _ hm w3 (show[g.2].length≤1048576 by simp),List.all_cons,List.all_nil,Bool.and_true,id_eq]
    cases decide (s=1)with
    |true=>exact⟨_,rfl,rfl,Cu _ _ _ hm w1⟩
    |false=>cases decide (s=2)with
     |true=>exact⟨_,rfl,rfl,Cu _ _ _ hm w2⟩
     |false=>exact⟨_,rfl,rfl,Cu _ _ _ hm w3⟩
   ·simp only[Qe h0,Qi,Qc]
    exact⟨(h,false),rfl,rfl,hm⟩
theorem Ir{l:List Find}{id:Int}(h:¬Xh l id<0):∃k:Nat,Xh l id=(k:Int)∧k<l.length:=by
 unfold Xh at h ⊢;cases hf:l.findIdx? (λx=>decide (x.Thing.Id=id))with
 |none=>rw[hf]at h;simp at h
 |some i=>exact⟨i,rfl,(B6 hf).1⟩
def ZD(x:Hand)(c:Claim):Bool:=decide (c.State=3)&&(decide (c.Thing=x.Thing)&&decide (c.Who=x.Who))
theorem Wm(h:House)(x:Hand)(hl:h.Claims.length≤1048576):Bn h x=some (h.Claims.any (ZD x)):=by
 have hs:=Km h.Claims (ZD x) (r:=true) (step:=Zg h x)
  (λi hi=>by
   simp only[Zg,Qy hi,Qs hi,QC hi,QM (show(i:Int)<9223372036854775807 by omega),Qc,Qn,ZD]
   cases decide (h.Claims[i].State=3)<;>cases decide (h.Claims[i].Thing=x.Thing)<;>cases decide (h.Claims[i].Who=x.Who)<;>rfl)
  (by simp only[Zg,QP (Qg _),Qb])
 unfold Bn;rw[hs];cases h.Claims.any (ZD x)<;>rfl
theorem fq(h:House)(x:Hand)(hl:h.Claims.length≤1048576):DL h x=some (decide (x.Holder=3)&&h.Claims.any (ZD x)):=by
 have hi:=X3 h.Claims (ZD x) (λi=>(i:Int)) (step:=QZ h.Claims x (ln h.Claims))
  (λi hi=>by
   simp only[QZ,Fn,Qa,Qy hi,Qs hi,QC hi,QM (show(i:Int)<9223372036854775807 by omega),Qc,Qn,ZD]
   cases decide (h.Claims[i].State=3)<;>cases decide (h.Claims[i].Thing=x.Thing)<;>cases decide (h.Claims[i].Who=x.Who)<;>rfl)
  (by simp only[QZ,QP (Qg _),Qb])
 have hc:Vc h.Claims x=some (h.Claims.any (ZD x)):=by
  unfold Vc VT;rw[hi];cases hf:h.Claims.findIdx? (ZD x)with
  |none =>
   have:h.Claims.any (ZD x)=false:=by
    rw[List.any_eq_false];intro y hy;have:=List.findIdx?_eq_none_iff.1 hf y hy;simp[this]
   rw[this];rfl
  |some i =>
   obtain⟨hi,hp⟩:=B6 hf;have:h.Claims.any (ZD x)=true:=List.any_eq_true.2 ⟨_,List.getElem_mem hi,hp⟩;rw[this];show some (decide (0≤(i:Int)))=_;rw[Qf (by omega)]
 unfold DL;rw[hc];cases decide (x.Holder=3)<;>rfl
def Nw(h:House)(x:Hand):Bool:=!decide (x.Holder=3)||(h.Claims.any (ZD x)||(!decide (Xh h.Finds x.Thing<0)&&decide ((gt h.Finds (Xh h.Finds x.Thing)).Finder=x.Who)))
theorem oH(h:House)(hm:Qu h):∃c,D5 h=some c∧Eb h=some c:=by
 unfold Qu at hm;obtain⟨m1,m2,m3,m4,m5,m6,m7⟩:=hm;have hs:=Gp h.Chain (Nw h) (r:=false) (step:=ZN h)
  (λi hi=>by
   simp only[ZN,Qy hi,Qs hi,QC hi,QM (show(i:Int)<9223372036854775807 by omega),Qc,Qn,(Xw h.Finds h.Chain[i].Thing m1).1,Wm h h.Chain[i] m4,Qa,Nw]
   by_cases hf:Xh h.Finds h.Chain[i].Thing<0
   ·rw[Qf hf]
    cases decide (h.Chain[i].Holder=3)<;>cases h.Claims.any (ZD h.Chain[i])<;>rfl
   ·obtain⟨k,hk,hlt⟩:=Ir hf
    rw[Qe hf];simp only[hk,Qs hlt,Qn];cases decide (h.Chain[i].Holder=3)<;>cases h.Claims.any (ZD h.Chain[i])<;>cases decide ((gt h.Finds (k:Int)).Finder=h.Chain[i].Who)<;>rfl)
  (by simp only[ZN,QP (Qg _),Qb])
 have hi:=Gp h.Chain (Nw h) (r:=false) (step:=ZX h h.Chain (ln h.Chain))
  (λi hi=>by
   simp only[ZX,Qy hi,Qs hi,QC hi,QM (show(i:Int)<9223372036854775807 by omega),Qc,Qn,(Xw h.Finds h.Chain[i].Thing m1).2,fq h h.Chain[i] m4,Qa,Nw]
   by_cases hf:Xh h.Finds h.Chain[i].Thing<0
   ·rw[Qf hf]
    cases decide (h.Chain[i].Holder=3)<;>cases h.Claims.any (ZD h.Chain[i])<;>rfl
   ·obtain⟨k,hk,hlt⟩:=Ir hf
    rw[Qe hf];simp only[hk,Qs hlt,Qn];cases decide (h.Chain[i].Holder=3)<;>cases h.Claims.any (ZD h.Chain[i])<;>cases decide ((gt h.Finds (k:Int)).Finder=h.Chain[i].Who)<;>rfl)
  (by simp only[ZX,QP (Qg _),Qb])
 refine⟨h.Chain.all (Nw h),?_,?_⟩
 ·unfold D5;rw[hs];cases h.Chain.all (Nw h)<;>rfl
 ·unfold Eb;rw[hi];cases h.Chain.all (Nw h)<;>rfl
theorem Qd2(f:Find):AF f=Xj f:=rfl
theorem bQ(f:Find):∃b,Xj f=some b∧(b=true→1≤f.Thing.Kind∧f.Thing.Kind≤8):=by
 unfold Xj XM Qq;simp only[Qa];cases h1:(decide (1≤f.Thing.Id)&&decide (f.Thing.Id≤999))with
 |false=>exact⟨false,rfl,λh=>by cases h⟩
 |true =>
  cases h2:(decide (1≤f.Thing.Kind)&&decide (f.Thing.Kind≤8))with
  |false=>exact⟨false,rfl,λh=>by cases h⟩
  |true =>
   have hk:1≤f.Thing.Kind∧f.Thing.Kind≤8:=by simpa using h2
   simp only[Qc];cases (decide (0≤f.Thing.Colour)&&decide (f.Thing.Colour≤7))<;>cases (decide (1≤f.Thing.Size)&&decide (f.Thing.Size≤50))<;>cases (decide (0≤f.Thing.Worth)&&decide (f.Thing.Worth≤10000000)) <;>
    cases (decide (1≤f.Place)&&decide (f.Place≤30))<;>cases (decide (0≤f.At)&&decide (f.At≤100000))<;>cases (decide (0≤f.Finder)&&decide (f.Finder≤999))<;>exact⟨_,rfl,λ_=>hk⟩
theorem nJ(k:Int)(h1:1≤k)(h2:k≤8):∃d,EY k=some d∧E5 k=some d:=by
 have:k=1∨k=2∨k=3∨k=4∨k=5∨k=6∨k=7∨k=8:=by omega
 rcases this with rfl|rfl|rfl|rfl|rfl|rfl|rfl|rfl<;>exact⟨_,rfl,rfl⟩
theorem Qa1(f:Find)(now:Int):∃b,Zo f now=some b∧A9 f now=some b:=by
 obtain⟨b,h1,h2⟩:=bQ f;unfold Zo A9 FU FI;rw[Qd2,h1];cases b with
 |false=>exact⟨false,rfl,rfl⟩
 |true =>
  obtain⟨k1,k2⟩:=h2 rfl;obtain⟨d,h3,h4⟩:=nJ f.Thing.Kind k1 k2;simp only[Qa,Qc,Qb,Qh,h3,h4];exact⟨_,rfl,rfl⟩
def YQ(f:Find)(now:Int):Bool:=(Zo f now).getD false
theorem jJ(f:Find)(now:Int):Zo f now=some (YQ f now)∧A9 f now=some (YQ f now):=by
 obtain⟨b,h1,h2⟩:=Qa1 f now;unfold YQ;rw[h1,h2];exact⟨rfl,rfl⟩
def NJ(h:House)(x:Hand):Bool :=
 decide (x.Holder≤2)||((decide (x.Holder=3)&&h.Claims.any (ZD x))||(!decide (Xh h.Finds x.Thing<0)&&YQ (gt h.Finds (Xh h.Finds x.Thing)) x.At))
theorem cp(h:House)(hm:Qu h):∃c,BP h=some c∧BQ h=some c:=by
 unfold Qu at hm;obtain⟨m1,m2,m3,m4,m5,m6,m7⟩:=hm;have hs:=Gp h.Chain (NJ h) (r:=false) (step:=Ju h)
  (λi hi=>by
   simp only[Ju,Qy hi,Qs hi,QC hi,QM (show(i:Int)<9223372036854775807 by omega),Qc,Qn,(Xw h.Finds h.Chain[i].Thing m1).1,Wm h h.Chain[i] m4,Qa,NJ]
   by_cases hf:Xh h.Finds h.Chain[i].Thing<0
   ·rw[Qf hf]
    cases decide (h.Chain[i].Holder≤2)<;>cases decide (h.Chain[i].Holder=3)<;>cases h.Claims.any (ZD h.Chain[i])<;>rfl
   ·obtain⟨k,hk,hlt⟩:=Ir hf
    rw[Qe hf];simp only[hk,Qs hlt,Qn,(jJ _ _).1,Qa];cases decide (h.Chain[i].Holder≤2)<;>cases decide (h.Chain[i].Holder=3)<;>cases h.Claims.any (ZD h.Chain[i])<;>cases YQ (gt h.Finds (k:Int)) h.Chain[i].At<;>rfl)
  (by simp only[Ju,QP (Qg _),Qb])
 have hi:=Gp h.Chain (NJ h) (r:=false) (step:=Jr h h.Chain (ln h.Chain))
  (λi hi=>by
   simp only[Jr,Qy hi,Qs hi,QC hi,QM (show(i:Int)<9223372036854775807 by omega),Qc,Qn,(Xw h.Finds h.Chain[i].Thing m1).2,fq h h.Chain[i] m4,Qa,NJ]
   by_cases hf:Xh h.Finds h.Chain[i].Thing<0
   ·rw[Qf hf]
    cases decide (h.Chain[i].Holder≤2)<;>cases decide (h.Chain[i].Holder=3)<;>cases h.Claims.any (ZD h.Chain[i])<;>rfl
   ·obtain⟨k,hk,hlt⟩:=Ir hf
    rw[Qe hf];simp only[hk,Qs hlt,Qn,(jJ _ _).2,Qa];cases decide (h.Chain[i].Holder≤2)<;>cases decide (h.Chain[i].Holder=3)<;>cases h.Claims.any (ZD h.Chain[i])<;>cases YQ (gt h.Finds (k:Int)) h.Chain[i].At<;>rfl)
  (by simp only[Jr,QP (Qg _),Qb])
 refine⟨h.Chain.all (NJ h),?_,?_⟩
 ·unfold BP;rw[hs];cases h.Chain.all (NJ h)<;>rfl
 ·unfold BQ;rw[hi];cases h.Chain.all (NJ h)<;>rfl
set_option maxRecDepth 100000
theorem sf:∀{a b:List Int},a.Pairwise (· < ·)→b.Pairwise (· < ·)→(∀x,x∈a↔x∈b)→a=b
 |[],[],_,_,_=>rfl
 |[],y::b,_,_,h=>by have:=(h y).2 (by simp);simp at this
 |x::a,[],_,_,h=>by have:=(h x).1 (by simp);simp at this
 |x::a,y::b,ha,hb,h=>by
  obtain⟨ha1,ha2⟩:=List.pairwise_cons.1 ha;obtain⟨hb1,hb2⟩:=List.pairwise_cons.1 hb;have hxy:x=y:=by
   have h1:=(h x).1 (by simp)
   have h2:=(h y).2 (by simp)
   rcases List.mem_cons.1 h1 with h1|h1
   ·exact h1
   ·rcases List.mem_cons.1 h2 with h2|h2
    ·exact h2.symm
    ·have:=hb1 x h1
     have:=ha1 y h2;omega
  subst hxy;refine congrArg _ (sf ha2 hb2 λz=>?_)
  have hz:=h z;constructor
  ·intro hza
   rcases List.mem_cons.1 (hz.1 (List.mem_cons_of_mem _ hza))with e|e
   ·have:=ha1 z hza;omega
   ·exact e
  ·intro hzb
   rcases List.mem_cons.1 (hz.2 (List.mem_cons_of_mem _ hzb))with e|e
   ·have:=hb1 z hzb;omega
   ·exact e
theorem mK{l:List Int}{v:Int}(hl:l.Pairwise (· < ·)){n:Nat}(hn:n≤l.length)(h1:∀i (h:i<l.length),i<n→l[i]<v)(h2:∀(h:n<l.length),v<l[n]) :
  (l.take n++[v]++l.drop n).Pairwise (· < ·):=by
 have hd:∀x∈l.drop n,v<x:=by
  intro x hx;obtain⟨i,hi,rfl⟩:=List.mem_iff_getElem.1 hx;rw[List.length_drop]at hi;rw[List.getElem_drop];have hv:=h2 (by omega)
  by_cases h0:i=0
  ·subst h0;simpa using hv
  ·have:=List.pairwise_iff_getElem.1 hl n (n+i) (by omega) (by omega) (by omega)
   omega
 have ht:∀x∈l.take n,x<v:=by
  intro x hx;obtain⟨i,hi,rfl⟩:=List.mem_iff_getElem.1 hx;rw[List.length_take]at hi;rw[List.getElem_take];exact h1 i (by omega) (by omega)
 rw[List.pairwise_append,List.pairwise_append];refine⟨⟨hl.sublist (List.take_sublist _ _),by simp,λx hx y hy=>?_⟩,hl.sublist (List.drop_sublist _ _),λx hx y hy=>?_⟩
 ·simp only[List.mem_singleton]at hy
  subst hy;exact ht x hx
 ·simp only[List.mem_append,List.mem_singleton]at hx
  rcases hx with hx|rfl
  ·have:=ht x hx
   have:=hd y hy;omega
  ·exact hd y hy
theorem gi(l:List Int)(v:Int)(hl:l.Pairwise (· < ·))(hlen:l.length≤4194304) :
  ∃r,A7 l v=some r∧r.Pairwise (· < ·)∧(∀x,x∈r↔x∈l∨x=v)∧r.length≤l.length+1:=by
 let n:=l.findIdx (λx=>!decide (x<v))
 have hnl:n≤l.length:=List.findIdx_le_length;have h1:∀i (h:i<l.length),i<n→l[i]<v:=λi h hi=>by
  have:=List.not_of_lt_findIdx (p:=λx=>!decide (x<v)) hi
  simpa using this
 have h2:∀(h:n<l.length),¬l[n]<v:=λh=>by
  have:=List.findIdx_getElem (p:=λx=>!decide (x<v)) (w:=h)
  simpa using this
 have hrun:run (Xo l v) 0=some ((n:Nat):Int):=by
  refine X0 (step:=Xo l v) (λi=>(i:Int)) n (λi hi=>?_) ?_
  ·have hil:i<l.length:=by omega
   simp only[Xo,Qy hil,Qs hil,QC hil,Qc,Qn,Qf (h1 i hil hi),Qa,QM (show(i:Int)<9223372036854775807 by omega)]
  ·by_cases h:n<l.length
   ·simp only[Xo,Qy h,Qs h,QC h,Qc,Qn,Qe (h2 h),Qa,Qb]
   ·simp only[Xo,QP (show l.length≤n by omega),Qb,Qa]
 unfold A7;rw[hrun];simp only[Qa];by_cases h:n<l.length
 ·simp only[Qy h,Qs h,QC h,Qc,Qn,Qa]
  by_cases hv:l[n]=v
  ·rw[Qf hv]
   have hrm:rm (0+l.length) 8=true:=by unfold rm;exact Qf (by omega)
   refine⟨l,by rw[hrm];rfl,hl,λx=>⟨.inl,λhx=>?_⟩,by omega⟩
   rcases hx with hx|rfl
   ·exact hx
   ·rw[←hv];exact List.getElem_mem _
  ·rw[Qe hv]
   have hc0:cut l 0 ((n:Nat):Int)=l.take n:=by unfold cut;simp
   have hc1:cut l ((n:Nat):Int) (ln l)=l.drop n:=by unfold cut ln;simp
   have hs0:slB 0 ((n:Nat):Int) (ln l)=true:=by unfold slB ln;simp;omega
   have hs1:slB ((n:Nat):Int) (ln l) (ln l)=true:=by unfold slB ln;simp;omega
   have hr0:rm (0+(l.take n).length) 8=true:=by unfold rm;exact Qf (by rw[List.length_take];omega)
   have hr1:rm ((l.take n).length+1) 8=true:=by unfold rm;exact Qf (by rw[List.length_take];omega)
   have hr2:rm ((l.take n).length+1+(l.drop n).length) 8=true:=by unfold rm;exact Qf (by rw[List.length_take,List.length_drop];omega)
   refine⟨l.take n++[v]++l.drop n,by simp only[hc0,hc1,hs0,hs1,hr0,hr1,hr2,Qn,Qb],?_,λx=>?_,?_⟩
   ·exact mK hl hnl h1 λh'=>by have:=h2 h';omega
   ·have:x∈l↔x∈l.take n∨x∈l.drop n:=by rw[←List.mem_append,List.take_append_drop]
    rw[this];simp only[List.mem_append,List.mem_singleton];constructor
    ·rintro((a|a)|a)<;>simp[a]
    ·rintro((a|a)|a)<;>simp[a]
   ·simp only[List.length_append,List.length_take,List.length_drop,List.length_singleton];omega
 ·have hn:n=l.length:=by omega
  simp only[QP (show l.length≤n by omega),Qb,Qa]
  have hc0:cut l 0 ((n:Nat):Int)=l.take n:=by unfold cut;simp
  have hc1:cut l ((n:Nat):Int) (ln l)=l.drop n:=by unfold cut ln;simp
  have hs0:slB 0 ((n:Nat):Int) (ln l)=true:=by unfold slB ln;simp;omega
  have hs1:slB ((n:Nat):Int) (ln l) (ln l)=true:=by unfold slB ln;simp;omega
  have hr0:rm (0+(l.take n).length) 8=true:=by unfold rm;exact Qf (by rw[List.length_take];omega)
  have hr1:rm ((l.take n).length+1) 8=true:=by unfold rm;exact Qf (by rw[List.length_take];omega)
  have hr2:rm ((l.take n).length+1+(l.drop n).length) 8=true:=by unfold rm;exact Qf (by rw[List.length_take,List.length_drop];omega)
  refine⟨l.take n++[v]++l.drop n,by simp only[hc0,hc1,hs0,hs1,hr0,hr1,hr2,Qn],?_,λx=>?_,?_⟩
  ·exact mK hl hnl h1 λh'=>absurd h' h
  ·have:x∈l↔x∈l.take n∨x∈l.drop n:=by rw[←List.mem_append,List.take_append_drop]
   rw[this];simp only[List.mem_append,List.mem_singleton];constructor
   ·rintro((a|a)|a)<;>simp[a]
   ·rintro((a|a)|a)<;>simp[a]
  ·simp only[List.length_append,List.length_take,List.length_drop,List.length_singleton];omega
def HX(l:List Entry):List Int:=l.flatMap λx=>[x.From,x.To]
theorem Ys(l:List Entry)(i:Nat)(h:i<l.length)(x:Int):x∈HX (l.take (i+1))↔x∈HX (l.take i)∨x=l[i].From∨x=l[i].To:=by
 rw[List.take_succ_eq_append_getElem h];unfold HX;rw[List.flatMap_append,List.mem_append];simp only[List.flatMap_cons,List.flatMap_nil,List.append_nil,List.mem_cons,List.not_mem_nil,or_false]
theorem Ug:∀l:List Entry,(HX l).length=2*l.length
 |[]=>rfl
 |x::l=>by
  have:=Ug l;unfold HX at this ⊢;simp only[List.flatMap_cons,List.length_append,List.length_cons,List.length_nil,this];omega
theorem bc(l:List Entry)(hl:l.length≤1048576):∃r,Bw l=some r∧r.Pairwise (· < ·)∧(∀x,x∈r↔x∈HX l)∧r.length≤2097152:=by
 obtain⟨v,h1,h2,h3,h4⟩:=Mq (n:=l.length) (step:=Zh l) (fin:=λv=>v)
  (λi v=>v.Pairwise (· < ·)∧(∀x,x∈v↔x∈HX (l.take i))∧v.length≤2*i)
  (λi v hi ⟨q1,q2,q3⟩=>by
   obtain⟨r,e1,e2,e3,e4⟩:=gi v l[i].From q1 (by omega)
   obtain⟨r',f1,f2,f3,f4⟩:=gi r l[i].To e2 (by omega)
   refine⟨r',?_,f2,λx=>?_,by omega⟩
   ·simp only[Zh,Qy hi,Qs hi,QC hi,Qc,Qn,e1,f1,Qa,QM (show(i:Int)<9223372036854775807 by omega)]
   ·rw[f3,e3,q2,Ys l i hi,or_assoc])
  (λv _=>by simp only[Zh,QP (Qg _),Qb])
  [] ⟨List.Pairwise.nil,λx=>by simp[HX],by simp⟩
 refine⟨v,by unfold Bw;rw[h1];rfl,h2,λx=>by rw[h3,List.take_length],by omega⟩
theorem Y3{zs:List Int}(hs:zs.Pairwise (·≤·)):∀m,m≤zs.length→(Lib.compactUpTo zs.toArray m).Pairwise (· < ·)∧(∀x,x∈Lib.compactUpTo zs.toArray m↔x∈zs.take m)
 |0,_=>by simp[Lib.compactUpTo]
 |m+1,hm=>by
  obtain⟨h1,h2⟩:=Y3 hs m (by omega)
  have hmz:m<zs.length:=by omega
  have hget:zs.toArray[m]! = zs[m]:=by rw[getElem!_pos _ m (by simpa using hmz)];simp
  rw[Lib.compactUpTo_succ,List.take_succ_eq_append_getElem hmz];by_cases h0:m=0
  ·subst h0
   rw[Lib.keeps_lt_one _ 0 (by omega),if_pos rfl,hget]
   simp[Lib.compactUpTo]
  ·have hget':zs.toArray[m-1]! = zs[m-1]:=by rw[getElem!_pos _ (m-1) (by simp;omega)];simp
   have hle:∀x∈zs.take m,x≤zs[m-1]:=by
    intro x hx;obtain⟨i,hi,rfl⟩:=List.mem_iff_getElem.1 hx;rw[List.length_take]at hi;rw[List.getElem_take];by_cases hi':i=m-1
    ·subst hi';omega
    ·exact List.pairwise_iff_getElem.1 hs i (m-1) (by omega) (by omega) (by omega)
   have hlast:zs[m-1]∈zs.take m:=by
    rw[List.mem_iff_getElem];exact⟨m-1,by rw[List.length_take];omega,List.getElem_take⟩
   have hstep:zs[m-1]≤zs[m]:=List.pairwise_iff_getElem.1 hs (m-1) m (by omega) (by omega) (by omega)
   by_cases he:zs[m]=zs[m-1]
   ·rw[Lib.keeps_neg (by omega) (by rw[hget,hget',he])]
    simp only[Bool.false_eq_true,if_false,List.append_nil];refine⟨h1,λx=>?_⟩
    rw[h2,List.mem_append,List.mem_singleton];exact⟨.inl,λh=>h.elim id λh=>by rw[h,he];exact hlast⟩
   ·rw[Lib.keeps_pos (by rw[hget,hget'];exact he),if_pos rfl,hget]
    refine⟨List.pairwise_append.2 ⟨h1,by simp,λx hx y hy=>?_⟩,λx=>?_⟩
    ·simp only[List.mem_singleton]at hy
     subst hy;have:=hle x ((h2 x).1 hx);omega
    ·rw[List.mem_append,List.mem_append,h2]
theorem nh(l:List Int):(J8 (Z2 l)).Pairwise (· < ·)∧∀x,x∈J8 (Z2 l)↔x∈l:=by
 have hs:(Z2 l).Pairwise (·≤·):=by
  have:=List.pairwise_mergeSort (le:=λx y:Int=>decide (x≤y)) (λa b c h1 h2=>by simp at *;omega) (λa b=>by simp;omega) l
  unfold Z2;exact this.imp λh=>by simpa using h
 obtain⟨h1,h2⟩:=Y3 hs (Z2 l).length (Qg _);refine⟨h1,λx=>?_⟩
 have:=h2 x;rw[List.take_length]at this;exact this.trans (by unfold Z2;rw[List.mem_mergeSort])
theorem bR(l:List Entry)(hl:l.length≤1048576):Bj l=some (J8 (Z2 (HX l))):=by
 have hrun:run (Jn l (ln l)) ([],0)=some (HX l):=by
  have:=X0 (step:=Jn l (ln l)) (λi=>(HX (l.take i),(i:Int))) (r:=HX l) l.length (λi hi=>by
    have hlen:(HX (l.take i)).length≤2*i:=by rw[Ug,List.length_take];omega
    have hrm:rm ((HX (l.take i)).length+2) 8=true:=by unfold rm;exact Qf (by omega)
    have he:HX (l.take (i+1))=HX (l.take i)++[l[i].From,l[i].To]:=by unfold HX;rw[List.take_succ_eq_append_getElem hi,List.flatMap_append];rfl
    simp only[Jn,Qy hi,Qs hi,QC hi,Qc,Qn,hrm,he,QM (show(i:Int)<9223372036854775807 by omega)])
   (by simp only[Jn,QP (Qg _),Qb,List.take_length])
  simpa[HX]using this
 have ha:=Ug l;generalize hacc:HX l=a at *;have hal:a.length≤2097152:=by omega
 have hl2:ln [a,[]]=2:=rfl;have hc:BI [a,[]]=some a:=by
  unfold BI;have w0:w64 (0+ln a)=ln a:=by rw[VA]<;>unfold ln<;>omega
  have w1:w64 (ln a+ln ([]:List Int))=ln a:=by rw[VA]<;>unfold ln<;>simp<;>omega
  have hneg:decide (ln a<0)=false:=Qe (by unfold ln;omega)
  have s0:VX [a,[]] [a,[]] (ln [a,[]]) (0,0)=some (.inl (ln a,1)):=by
   have g0:gt [a,([]:List Int)] 0=a:=rfl;simp only[VX,hl2,g0,show inb [a,([]:List Int)] 0=true from rfl,show decide ((0:Int)<2)=true from rfl,w0,hneg,Qc,Qb,Qn,show w64 (0+1)=1 from rfl]
  have s1:VX [a,[]] [a,[]] (ln [a,[]]) (ln a,1)=some (.inl (ln a,2)):=by
   have g1:gt [a,([]:List Int)] 1=[]:=rfl;simp only[VX,hl2,g1,show inb [a,([]:List Int)] 1=true from rfl,show decide ((1:Int)<2)=true from rfl,w1,hneg,Qc,Qb,Qn,show w64 (1+1)=2 from rfl]
  have s2:VX [a,[]] [a,[]] (ln [a,[]]) (ln a,2)=some (.inr (ln a)):=rfl;have r1:run (VX [a,[]] [a,[]] (ln [a,[]])) (0,0)=some (ln a):=by
   rw[QS,s0];show run _ (ln a,1)=_;rw[QS,s1];show run _ (ln a,2)=_;rw[QS,s2];rfl
  have hg:Bp (ln a)=some []:=by
   unfold Bp nd;rw[show(decide (0≤ln a)&&decide (ln a≤17592186044416))=true by unfold ln;simp;omega]
   rfl
  have t0:Xq [a,[]] (ln [a,[]]) ([],0)=some (.inl (a,1)):=by
   have hrm:rm (([]:List Int).length+a.length) 8=true:=by unfold rm;exact Qf (by simp;omega)
   show(bif decide ((0:Int)<2)then nd (inb [a,[]] 0)<|nd (rm (([]:List Int).length+a.length) 8)<|some (Sum.inl ([]++a,w64 (0+1)))else some (Sum.inr []))=_;rw[hrm];rfl
  have t1:Xq [a,[]] (ln [a,[]]) (a,1)=some (.inl (a,2)):=by
   have hrm:rm (a.length+([]:List Int).length) 8=true:=by unfold rm;exact Qf (by simp;omega)
   show(bif decide ((1:Int)<2)then nd (inb [a,[]] 1)<|nd (rm (a.length+([]:List Int).length) 8)<|some (Sum.inl (a++[],w64 (1+1)))else some (Sum.inr a))=_;rw[hrm,List.append_nil];rfl
  have t2:Xq [a,[]] (ln [a,[]]) (a,2)=some (.inr a):=rfl;have r2:run (Xq [a,[]] (ln [a,[]])) ([],0)=some a:=by
   rw[QS,t0];show run _ (a,1)=_;rw[QS,t1];show run _ (a,2)=_;rw[QS,t2];rfl
  rw[r1];simp only[Qa,hg,r2]
 unfold Bj FH;have hsl:(Z2 a).length=a.length:=by unfold Z2;simp
 rw[hrun];simp only[Qa,hc,hsl,show decide (a.length<4611686018427387904)=true from Qf (by omega),Qn]
theorem gB(l:List Entry)(hl:l.length≤1048576):∃r,Bw l=some r∧Bj l=some r∧r.length≤2097152:=by
 obtain⟨r,h1,h2,h3,h4⟩:=bc l hl;obtain⟨q1,q2⟩:=nh (HX l);have:J8 (Z2 (HX l))=r:=sf q1 h2 λx=>(q2 x).trans (h3 x).symm
 exact⟨r,h1,by rw[bR l hl,this],h4⟩
theorem mC(x y:Int):w64 (w64 x+y)=w64 (x+y):=by unfold w64;omega
theorem zZ(x y:Int):w64 (w64 x-y)=w64 (x-y):=by unfold w64;omega
theorem QdX(x y:Int):w64 (w64 x-w64 y)=w64 (x-y):=by unfold w64;omega
def Kx(l:List Entry)(a:Int):Int:=(l.map λx=>if x.To=a then x.Cents else 0).sum
def Fg(l:List Entry)(a:Int):Int:=(l.map λx=>if x.From=a then x.Cents else 0).sum
theorem WZ(l:List Entry)(a:Int)(i:Nat)(h:i<l.length):Kx (l.take (i+1)) a=Kx (l.take i) a+(if l[i].To=a then l[i].Cents else 0):=by
 unfold Kx;rw[List.take_succ_eq_append_getElem h,List.map_append,List.sum_append];rw[List.map_cons,List.map_nil,List.sum_cons,List.sum_nil,Int.add_zero]
theorem Pb(l:List Entry)(a:Int)(i:Nat)(h:i<l.length):Fg (l.take (i+1)) a=Fg (l.take i) a+(if l[i].From=a then l[i].Cents else 0):=by
 unfold Fg;rw[List.take_succ_eq_append_getElem h,List.map_append,List.sum_append];rw[List.map_cons,List.map_nil,List.sum_cons,List.sum_nil,Int.add_zero]
theorem PL(l:List Entry)(a:Int)(hl:l.length≤1048576):∃v,Zx l a=some v∧Zu l a=some v:=by
 obtain⟨b,e1,e2,e3⟩:=N4 l hl;cases b with
 |false =>
  refine⟨0,?_,by unfold Zu;rw[e2];rfl⟩
  unfold Zx;rw[QS];show Option.bind (Option.bind (Option.bind (bif decide ((0:Int)<ln l)then(Jh l).bind λr=>some r else some false) _) _) _=_
  rw[e1];by_cases h:(0:Int)<ln l
  ·rw[Qf h];rfl
  ·rw[Qe h];rfl
 |true =>
  refine⟨w64 (Kx l a-Fg l a),?_,?_⟩
  ·unfold Zx
   have hr:run (Ae l a) (0,0)=some (w64 (Kx l a-Fg l a)):=by
    have:=X0 (step:=Ae l a) (λi=>(w64 (Kx (l.take i) a-Fg (l.take i) a),(i:Int))) (r:=w64 (Kx l a-Fg l a)) l.length (λi hi=>by
      simp only[Ae,Qy hi,Qs hi,QC hi,Qc,Qn,e1,Qa,QM (show(i:Int)<9223372036854775807 by omega),WZ l a i hi,Pb l a i hi]
      by_cases h1:l[i].To=a<;>by_cases h2:l[i].From=a
      ·rw[Qf h1,Qf h2,if_pos h1,if_pos h2,Qc,Qc,mC,zZ]
       exact congrArg (λz=>some (Sum.inl (w64 z,_))) (by omega)
      ·rw[Qf h1,Qe h2,if_pos h1,if_neg h2,Qc,Qb,mC]
       exact congrArg (λz=>some (Sum.inl (w64 z,_))) (by omega)
      ·rw[Qe h1,Qf h2,if_neg h1,if_pos h2,Qb,Qc,zZ]
       exact congrArg (λz=>some (Sum.inl (w64 z,_))) (by omega)
      ·rw[Qe h1,Qe h2,if_neg h1,if_neg h2,Qb,Qb]
       exact congrArg (λz=>some (Sum.inl (w64 z,_))) (by omega))
     (by simp only[Ae,QP (Qg _),Qb,Qa,List.take_length])
    simpa[Kx,Fg,w64]using this
   rw[hr];rfl
  ·unfold Zu GW F4
   have h1:run (Z5 a l (ln l)) (0,0)=some (w64 (Kx l a)):=by
    have:=X0 (step:=Z5 a l (ln l)) (λi=>(w64 (Kx (l.take i) a),(i:Int))) (r:=w64 (Kx l a)) l.length (λi hi=>by
      simp only[Z5,Qy hi,Qs hi,QC hi,Qc,Qn,QM (show(i:Int)<9223372036854775807 by omega),WZ l a i hi]
      by_cases h1:l[i].To=a
      ·rw[Qf h1,if_pos h1,Qc,mC]
      ·rw[Qe h1,if_neg h1,Qb,Int.add_zero])
     (by simp only[Z5,QP (Qg _),Qb,List.take_length])
    simpa[Kx,w64]using this
   have h2:run (JG a l (ln l)) (0,0)=some (w64 (Fg l a)):=by
    have:=X0 (step:=JG a l (ln l)) (λi=>(w64 (Fg (l.take i) a),(i:Int))) (r:=w64 (Fg l a)) l.length (λi hi=>by
      simp only[JG,Qy hi,Qs hi,QC hi,Qc,Qn,QM (show(i:Int)<9223372036854775807 by omega),Pb l a i hi]
      by_cases h1:l[i].From=a
      ·rw[Qf h1,if_pos h1,Qc,mC]
      ·rw[Qe h1,if_neg h1,Qb,Int.add_zero])
     (by simp only[JG,QP (Qg _),Qb,List.take_length])
    simpa[Fg,w64]using this
   simp only[e2,h1,h2,Qa,Qh,Qb,QdX]
theorem iA(l:List Entry)(hl:l.length≤1048576):∀a,Zx l a=Zu l a:=λa=>by
 obtain⟨v,h1,h2⟩:=PL l a hl;rw[h1,h2]
theorem gT(h:House)(hs:Qu h):∃c,Ds h=some c∧Dk h=some c:=by
 obtain⟨_,_,_,_,_,_,hb⟩:=hs;obtain⟨r,a1,a2,a3⟩:=gB h.Book hb;have hl:Bc h r=XA h r (ln r):=by
  funext ⟨v,i⟩;simp only[Bc,XA,iA h.Book hb]
 obtain⟨n,hn,_⟩:=Mq (n:=r.length) (step:=XA h r (ln r)) (fin:=λv=>v) (λ_ _=>True)
  (λi v hi _=>by
   obtain⟨x,_,hx⟩:=PL h.Book r[i] hb;exact⟨_,by simp only[XA,Qy hi,Qs hi,QC hi,Qc,Qn,hx,Qa,QM (show(i:Int)<9223372036854775807 by omega)];rfl,trivial⟩)
  (λv _=>by simp only[XA,QP (Qg _),Qb]) 0 trivial
 obtain⟨x,x1,x2⟩:=PL h.Book 0 hb;refine⟨bif decide (n=0)then decide (0≤x)else false,?_,?_⟩
 ·unfold Ds
  simp only[a1,hl,hn,x1,Qa];cases decide (n=0)<;>rfl
 ·unfold Dk
  simp only[a2,hn,x2,Qa];cases decide (n=0)<;>rfl
theorem WO(h:House)(hm:Qu h)(ht:Vq h=some true):(∀x∈h.Slots,1≤x.Id)∧h.Chain.length≤100∧Xm h.Chain=some true∧Xu h.Chain=some true:=by
 obtain⟨m1,m2,m3,m4,m5,m6,m7⟩:=hm;obtain⟨f,f1,f2,f3⟩:=PD h.Finds m1;obtain⟨s,s1,s2⟩:=NO h.Secrets m2.1 (λx hx=>m2.2 x hx)
 obtain⟨t,t1,t2,t3⟩:=OW h.Slots m3;obtain⟨c,c1,c2,c3⟩:=G5 h.Claims m4;obtain⟨n,n1,n2,n3⟩:=TQ h.Chain;unfold Vq at ht;simp only[Qq,f1,s1,t1,c1,n1,Qa]at ht;cases hN:(decide (1≤h.No)&&decide (h.No≤9))with
 |false=>rw[hN]at ht;cases ht
 |true =>
 rw[hN]at ht;cases f with
 |false=>cases ht
 |true =>
 cases s with
 |false=>cases ht
 |true =>
 cases t with
 |false=>cases ht
 |true =>
 cases c with
 |false=>cases ht
 |true =>
 cases n with
 |false=>cases ht
 |true=>exact⟨(t3 rfl).2,(n3 rfl).1,n1,n2⟩
theorem yi(l:List Hand)(t:Int)(hl:l.length≤1048576):∃r,BG l t=some r∧decide (ln r=0)=decide (XU l t l.length<0):=by
 have hr:=D2 l (λx=>decide (x.Thing=t)) (λx=>x) (step:=XH l t)
  (λi out hi ho=>by
   have hrm:rm (out.length+1) 40=true:=by unfold rm;exact Qf (by omega)
   simp only[XH,Qy hi,Qs hi,QC hi,QM (show(i:Int)<9223372036854775807 by omega),Qc,Qn,hrm]
   cases decide (l[i].Thing=t)<;>rfl)
  (λout=>by simp only[XH,QP (Qg _),Qb])
 refine⟨(l.filter λx=>decide (x.Thing=t)).map λx=>x,by unfold BG;rw[hr];rfl,?_⟩
 rw[Bool.eq_iff_iff,decide_eq_true_eq,decide_eq_true_eq];unfold ln;rw[List.length_map];constructor
 ·intro h0
  rcases Iu l t l.length with h|⟨j,hj,h⟩
  ·omega
  ·exfalso
   obtain⟨_,q⟩:=I0 l t l.length j h;rw[QC hj]at q;have:l[j]∈l.filter λx=>decide (x.Thing=t):=List.mem_filter.2 ⟨List.getElem_mem hj,by simpa using q⟩
   have:=List.length_pos_of_mem this;omega
 ·intro h0
  cases hf:l.filter (λx=>decide (x.Thing=t))with
  |nil=>rfl
  |cons x r =>
   exfalso;have hx:x∈l.filter λx=>decide (x.Thing=t):=by rw[hf];simp
   obtain⟨h1,h2⟩:=List.mem_filter.1 hx;obtain⟨i,hi,rfl⟩:=List.mem_iff_getElem.1 h1;obtain⟨j,_,q⟩:=Mn l t l.length i hi (by rw[QC hi];simpa using h2)
   omega
theorem dD(h:House)(hm:Qu h)(ht:Vq h=some true):∃c,CJ h=some c∧CD h=some c:=by
 obtain⟨hs,hl,c1,c2⟩:=WO h hm ht;obtain⟨m1,m2,m3,m4,m5,m6,m7⟩:=hm;obtain⟨r1,r2,a1,a2,a3,a4,a5⟩:=mi h.Chain h.No hl c1 c2;obtain⟨b,b1,b2,_⟩:=EZ (n:=h.Finds.length) (r:=false) (s1:=JY h r1) (s2:=JS h r2 h.Finds (ln h.Finds)) (λi hi _=>by
   obtain⟨r,e1,e2⟩:=yi h.Chain h.Finds[i].Thing.Id m6;obtain⟨c,d1,d2⟩:=jH h.Slots h.Finds[i].Thing.Id m3 hs;have hsw:=IR h.Slots h.Finds[i].Thing.Id m3;have hw:decide ((bif decide (h.Finds[i].Thing.Id=0)then -1 else CB h.Slots h.Finds[i].Thing.Id)<(0:Int))=decide (c=0):=by
    rw[d2];by_cases h0:h.Finds[i].Thing.Id=0
    ·rw[Qf h0];rfl
    ·rw[Qe h0]
     rcases Gh h.Slots h.Finds[i].Thing.Id with⟨p1,p2⟩|⟨k,hk,p1,_,p2⟩
     ·rw[p1,Qb,p2];rfl
     ·rw[p2,Qb,p1,Qe (show ¬(k:Int)<0 by omega)];rfl
   have hin:decide (h.Finds[i].Thing.Id∈r1)=decide (h.Finds[i].Thing.Id∈r2):=by
    rw[Bool.eq_iff_iff,decide_eq_true_eq,decide_eq_true_eq];exact a3 _
   simp only[JY,JS,Qy hi,Qs hi,QC hi,QM (show(i:Int)<9223372036854775807 by omega),Qc,Qn,e1,e2,d1,hsw,hw,Y0 h.Chain _ m6,
    QcQ r1 _ (by omega),Qbi r2 _ (by omega),hin,Qa]
   cases decide (XU h.Chain h.Finds[i].Thing.Id h.Chain.length<0)<;>cases decide (c=0)<;>cases decide (h.Finds[i].Thing.Id∈r2)<;>first|exact⟨true,rfl,rfl⟩|exact⟨false,rfl,rfl⟩)
  (by simp only[JY,QP (Qg _),Qb]) (by simp only[JS,QP (Qg _),Qb])
 refine⟨b,?_,?_⟩
 ·unfold CJ
  simp only[a1,b1,Qa];cases b<;>rfl
 ·unfold CD
  simp only[a2,b2,Qa];cases b<;>rfl
theorem yA(h:House)(hm:Qu h):∃c,Ej h=some c∧Ew h=some c:=by
 obtain⟨b,b1,b2⟩:=TU h hm;unfold Ej Ew;rw[b2];rw[b1];cases b with
 |false=>exact⟨_,rfl,rfl⟩
 |true =>
  obtain⟨c,c1,c2⟩:=dD h hm b1;obtain⟨d,d1,d2⟩:=oH h hm;obtain⟨e,e1,e2⟩:=cp h hm;obtain⟨k,k1,k2⟩:=gT h hm;simp only[c1,c2,d1,d2,e1,e2,k1,k2,Qa];cases c<;>cases d<;>cases e<;>cases k<;>exact⟨_,rfl,rfl⟩
theorem j6{n:Int}(h0:0≤n)(h1:n<256):IntKind.u8.wrap n=n:=by
 unfold IntKind.wrap;simp only[show IntKind.u8.bits=8 from rfl,show IntKind.u8.signed=false from rfl];simp;omega
theorem wM(n:Int):i64 (w64 n):=by unfold i64 w64;omega
theorem ux(x:Int):-10<x.tmod 10∧x.tmod 10<10:=by
 refine⟨?_,Int.tmod_lt_of_pos x (by omega)⟩
 have h:=Int.tmod_lt_of_pos (-x) (b:=10) (by omega)
 rw[Int.neg_tmod]at h;omega
theorem BO{x y:List UInt8}(hx:x.length≤1000000000000)(hy:y.length≤1000000000000):Vb x y=true:=by
 unfold Vb;exact Qf (by omega)
theorem Ak(x y:List UInt8):(Qr x y).length=x.length+y.length:=by simp[Qr]
theorem tc(vn x:Int)(s:List UInt8)(hx:x≠0)(hu:x.natAbs≤9223372036854775808)(hs:s.length≤100) :
  JI vn (s,x)=some (.inl (UInt8.ofNat (48+x.natAbs%10)::s,x.tdiv 10)):=by
 obtain⟨b1,b2⟩:=ux x;have h1:(x.tmod 10).natAbs=x.natAbs%10:=Int.natAbs_tmod x 10;have h2:(x.tdiv 10).natAbs=x.natAbs / 10:=Int.natAbs_tdiv x 10;have ew:w64 (x.tdiv 10)=x.tdiv 10:=VA (by omega) (by omega)
 have ez:(!decide (x=0))=true:=by simp[hx]
 simp only[JI,ez,ew,Qc];by_cases hn:x.tmod 10<0
 ·have e1:w64 (-(x.tmod 10))=-(x.tmod 10):=VA (by omega) (by omega)
  have e2:w64 (48+-(x.tmod 10))=48+-(x.tmod 10):=VA (by omega) (by omega)
  have e3:(48+-(x.tmod 10)).toNat=48+x.natAbs%10:=by omega
  rw[Qf hn,Qc,e1,e2,j6 (by omega) (by omega),e3,BO (by simp) (by omega)]
  rfl
 ·have e2:w64 (48+x.tmod 10)=48+x.tmod 10:=VA (by omega) (by omega)
  have e3:(48+x.tmod 10).toNat=48+x.natAbs%10:=by omega
  rw[Qe hn,Qb,e2,j6 (by omega) (by omega),e3,BO (by simp) (by omega)]
  rfl
theorem yw(vn:Int):∀(u:Nat) (x:Int) (s:List UInt8),x.natAbs=u→0<u→u≤9223372036854775808→s.length+Lib.nDigits u≤100→run (JI vn) (s,x)=some (Lib.decDigits u++s):=by
 intro u
 induction u using Nat.strongRecOn with
 |_ u ih =>
  intro x s hx h0 h1 hs;have hpos:=Lib.nDigits_pos u;have h2:(x.tdiv 10).natAbs=x.natAbs / 10:=Int.natAbs_tdiv x 10;rw[QS,tc vn x s (by omega) (by omega) (by omega)]
  show run (JI vn) (UInt8.ofNat (48+x.natAbs%10)::s,x.tdiv 10)=_;by_cases hu:u<10
  ·have hz:x.tdiv 10=0:=by omega
   rw[hz,QS,Lib.decDigits,dif_pos hu,hx,Nat.mod_eq_of_lt hu];rfl
  ·rw[ih (u / 10) (by omega) (x.tdiv 10) _ (by omega) (by omega) (by omega) (by
    rw[Lib.nDigits_big hu]at hs;simp only[List.length_cons];omega),hx]
   conv=>rhs;rw[Lib.decDigits,dif_neg hu]
   simp
theorem JQ(n:Int)(h:i64 n):Qv n=some (Lib.itoa n):=by
 unfold i64 at h;unfold Qv;by_cases h0:n=0
 ·subst h0
  have e:Lib.itoa 0=[48]:=by
   unfold Lib.itoa;rw[if_neg (by omega),show(0:Int).toNat=0 from rfl,Lib.decDigits,dif_pos (by omega)]
   rfl
  rw[e];rfl
 ·have hd:=Lib.nDigits_le20 n.natAbs (by omega)
  rw[Qe h0,Qb,yw n n.natAbs n [] rfl (by omega) (by omega) (by simp only[List.length_nil];omega),List.append_nil]
  simp only[Qa];by_cases hn:n<0
  ·rw[Qf hn,Qc,BO (by simp) (by rw[Lib.decDigits_length];omega)]
   unfold Lib.itoa;rw[if_pos hn];rfl
  ·rw[Qe hn,Qb]
   unfold Lib.itoa;rw[if_neg hn,show n.natAbs=n.toNat by omega]
theorem Aj(n:Int)(h:i64 n):QK n=some (Lib.itoa n):=by
 unfold i64 at h;unfold QK strconv_Itoa;rw[Qf h.1,Qf h.2];rfl
theorem Vf(n:Int)(h:i64 n):(Lib.itoa n).length≤21:=Lib.itoa_length_le n h.1 h.2
def KB(L:List (List UInt8)):Prop:=L.length≤1048576∧∀x∈L,x.length≤200
theorem O4(sep:List UInt8)(hsep:sep.length=1):∀(L:List (List UInt8)),(∀x∈L,x.length≤200)→(Lib.joinTail sep L).length≤L.length*201
 |[],_=>by simp[Lib.joinTail]
 |x::L,h=>by
  have h1:=O4 sep hsep L λy hy=>h y (by simp[hy])
  have h2:=h x (by simp)
  have e:Lib.joinTail sep (x::L)=sep++x++Lib.joinTail sep L:=by simp[Lib.joinTail]
  rw[e];simp only[List.length_append,List.length_cons,hsep];omega
theorem O1(sep:List UInt8)(hsep:sep.length=1):∀(L:List (List UInt8)),(∀x∈L,x.length≤200)→(Lib.join L sep).length≤L.length*201
 |[],_=>by rw[Lib.join_nil];simp
 |x::L,h=>by
  rw[Lib.join_cons];have h1:=O4 sep hsep L λy hy=>h y (by simp[hy])
  have h2:=h x (by simp)
  simp only[List.length_append,List.length_cons];omega
theorem oD(sep:List UInt8)(L:List (List UInt8))(i:Nat)(h:i+1<L.length):Lib.join (L.take (i+1+1)) sep=Lib.join (L.take (i+1)) sep++sep++L[i+1]:=by
 cases L with
 |nil=>simp at h
 |cons x r =>
  have hr:i<r.length:=by simpa using h
  rw[List.take_succ_cons,List.take_succ_cons,Lib.join_cons,Lib.join_cons,Lib.joinTail_take_succ sep r i r[i] (List.getElem?_eq_getElem hr)];simp[List.append_assoc]
theorem gQ{L:List (List UInt8)}(h:∀x∈L,x.length≤200)(i:Nat):∀x∈L.take i,x.length≤200:=λx hx=>h x (List.mem_of_mem_take hx)
theorem YO(c:UInt8)(L:List (List UInt8))(hL:KB L){step:List UInt8×Int→Option ((List UInt8×Int)⊕List UInt8)}
  (h1:∀(i:Nat) (s:List UInt8) (h:i<L.length),s.length≤300000000→step (s,(i:Int))=some (.inl (if 0<i then Qr (Qr s [c]) L[i]else Qr s L[i],((i+1:Nat):Int)))) (h2:∀s,step (s,(L.length:Int))=some (.inr s)) :
  run step ([],0)=some (Lib.join L [c]):=by
 obtain⟨hl,hx⟩:=hL;have:=X0 (step:=step) (λi=>(Lib.join (L.take i) [c],(i:Int))) (r:=Lib.join L [c]) L.length (λi hi=>by
  have hb:=O1 [c] rfl (L.take i) (gQ hx i);have ht:(L.take i).length=i:=by simp;omega
  rw[ht]at hb;rw[h1 i _ hi (by omega)]
  cases i with
  |zero =>
   rw[if_neg (by omega)]
   congr 3;rw[List.take_zero,Lib.join_nil,List.take_succ_eq_append_getElem hi,List.take_zero];simp[Qr,Lib.join_one]
  |succ i =>
   rw[if_pos (by omega),oD [c] L i hi]
   rfl) (by rw[h2,List.take_length])
 simpa[Lib.join_nil]using this
theorem dQ(L:List (List UInt8))(hL:KB L){step:List UInt8×Int→Option ((List UInt8×Int)⊕List UInt8)}
  (h1:∀(i:Nat) (s:List UInt8) (h:i<L.length),s.length≤300000000→step (s,(i:Int))=some (.inl (if 0<i then Qr (Qr s [32]) L[i]else Qr s L[i],((i+1:Nat):Int)))) (h2:∀s,step (s,(L.length:Int))=some (.inr s)) :
  run step ([],0)=some (Lib.join L [32]):=YO 32 L hL h1 h2
def FX(L:List (List UInt8)):List UInt8:=if L=[]then[45]else Lib.join L [32]
theorem Rk(L:List (List UInt8))(hL:KB L):CX L=some (FX L):=by
 have hr:=dQ L hL (step:=Bs L) (λi s hi hs=>by
   have hx:=hL.2 L[i] (List.getElem_mem hi);have hl:=hL.1;simp only[Bs,Qy hi,Qs hi,QC hi,QM (show(i:Int)<9223372036854775807 by omega),Qc,Qn]
   by_cases h0:0<i
   ·have e2:(Qr s [32]).length≤1000000000000:=by rw[Ak];simp only[List.length_cons,List.length_nil];omega
    rw[Qf (show(0:Int)<i by omega),Qc,BO (x:=s) (y:=[32]) (by omega) (by simp),BO (x:=Qr s [32]) (y:=L[i]) e2 (by omega),if_pos h0]
    rfl
   ·rw[Qe (show ¬(0:Int)<i by omega),Qb,BO (x:=s) (y:=L[i]) (by omega) (by omega),if_neg h0]
    rfl)
  (λs=>by simp only[Bs,QP (Qg _),Qb])
 unfold CX FX;rw[hr];cases L with
 |nil=>rfl
 |cons x L =>
  rw[if_neg (by simp)]
  simp only[Qa,show decide (ln (x::L)=0)=false from Qe (by rw[Q5];simp;omega),Qb]
theorem RI(L:List (List UInt8))(hL:KB L):strings_Join L [32]=some (Lib.join L [32]):=by
 have hb:=O1 [32] rfl L hL.2;have hl:=hL.1;unfold strings_Join;rw[Qf (by omega),Qf (by omega)];rfl
theorem Rt(L:List (List UInt8))(hL:KB L):D7 L=some (FX L):=by
 unfold D7 FX;cases L with
 |nil=>rfl
 |cons x L =>
  rw[if_neg (by simp),RI _ hL]
  simp only[Qa,show decide (ln (x::L)=0)=false from Qe (by rw[Q5];simp;omega),Qb]
theorem Ay{α:Type}(l:List α)(f:α→List UInt8){step:List (List UInt8)×Int→Option ((List (List UInt8)×Int)⊕List (List UInt8))}
  (h1:∀(i:Nat) (out:List (List UInt8)) (h:i<l.length),out.length≤i→step (out,(i:Int))=some (.inl (out++[f l[i]],((i+1:Nat):Int)))) (h2:∀out,step (out,(l.length:Int))=some (.inr out)) :
  run step ([],0)=some (l.map f):=by
 have:=D2 l (λ_=>true) f (step:=step) (λi out h ho=>by rw[h1 i out h ho];rfl) h2
 rw[this,List.filter_eq_self.2 (λ_ _=>rfl)]
theorem IC{α:Type}{l:List α}{f:α→List UInt8}(hl:l.length≤1048576)(h:∀x∈l,(f x).length≤200):KB (l.map f):=by
 refine⟨by rw[List.length_map];exact hl,λy hy=>?_⟩
 obtain⟨x,hx,rfl⟩:=List.mem_map.1 hy;exact h x hx
theorem UE(l:List Int)(hl:l.length≤1048576)(hx:∀x∈l,i64 x):Xz l=some (FX (l.map Lib.itoa))∧Xl l=some (FX (l.map Lib.itoa)):=by
 have hsh:KB (l.map Lib.itoa):=IC hl λx h=>Nat.le_trans (Vf x (hx x h)) (by omega)
 have hs:=Ay l Lib.itoa (step:=XZ l) (λi out hi ho=>by
   simp only[XZ,Qy hi,Qs hi,QC hi,QM (show(i:Int)<9223372036854775807 by omega),Vp (show out.length+1≤2000000 by omega) (show 16≤1024 by omega),Qc,Qn,JQ _ (hx _ (List.getElem_mem hi)),Qa])
  (λout=>by simp only[XZ,QP (Qg _),Qb])
 have hi:=Ay l Lib.itoa (step:=XY l (ln l)) (λi out hi ho=>by
   simp only[XY,Qy hi,Qs hi,QC hi,QM (show(i:Int)<9223372036854775807 by omega),Vp (show out.length+1≤2000000 by omega) (show 16≤1024 by omega),Qc,Qn,Aj _ (hx _ (List.getElem_mem hi)),Qa])
  (λout=>by simp only[XY,QP (Qg _),Qb])
 refine⟨?_,?_⟩
 ·unfold Xz;rw[hs];simp only[Qa,Rk _ hsh]
 ·unfold Xl;rw[hi];simp only[Qa,Rt _ hsh]
theorem Ib(l:List Int)(hl:l.length≤1048576)(hx:∀x∈l,i64 x):∃r,Xz l=some r∧Xl l=some r:=⟨_,UE l hl hx⟩
theorem eH(h:House)(h1:i64 h.No)(h2:i64 h.Now)(h3:h.Finds.length≤1048576)(h4:h.Claims.length≤1048576)(h5:h.Chain.length≤1048576)(h6:h.Book.length≤1048576):∃r,AS h=some r∧AM h=some r:=by
 have hlen:∀{α:Type} (l:List α),l.length≤1048576→i64 (ln l):=λl hl=>by unfold i64;rw[Q5];omega
 obtain⟨r,r1,r2⟩:=Ib [h.No,h.Now,ln h.Finds,ln h.Claims,ln h.Chain,ln h.Book] (by simp) (by
  intro x hx;simp only[List.mem_cons,List.not_mem_nil,or_false]at hx
  rcases hx with rfl|rfl|rfl|rfl|rfl|rfl
  ·exact h1
  ·exact h2
  ·exact hlen _ h3
  ·exact hlen _ h4
  ·exact hlen _ h5
  ·exact hlen _ h6)
 exact⟨r,by unfold AS;rw[r1];rfl,by unfold AM;rw[r2];rfl⟩
theorem dP(c:Int):∃r,Ck c=some r∧Cs c=some r:=by
 have big:∀{x:List UInt8},x.length≤100→∀{y:List UInt8},y.length≤100→Vb x y=true:=λhx _ hy=>BO (by omega) (by omega)
 have hm:∀n:Int,i64 (n.tmod 10):=λn=>by have:=ux n;unfold i64;omega
 have hw:=wM;have tail:∀(s:List UInt8) (a b d:Int),s.length≤1→i64 a→i64 b→i64 d→∃r,
   ((Qv a).bind λr2=>nd (Vb s r2)<|nd (Vb (Qr s r2) [46])<|(Qv b).bind λr3=>nd (Vb (Qr (Qr s r2) [46]) r3)<|(Qv d).bind λr4=>nd (Vb (Qr (Qr (Qr s r2) [46]) r3) r4)<|some (Qr (Qr (Qr (Qr s r2) [46]) r3) r4))=some r ∧
   ((QK a).bind λr2=>nd (Vb s r2)<|nd (Vb (Qr s r2) [46])<|(QK b).bind λr3=>nd (Vb (Qr (Qr s r2) [46]) r3)<|(QK d).bind λr4=>nd (Vb (Qr (Qr (Qr s r2) [46]) r3) r4)<|some (Qr (Qr (Qr (Qr s r2) [46]) r3) r4))=some r:=by
  intro s a b d hs ha hb hd;have la:=Vf a ha;have lb:=Vf b hb;have ld:=Vf d hd;have l2:(Qr s (Lib.itoa a)).length≤22:=by rw[Ak];omega
  have l3:(Qr (Qr s (Lib.itoa a)) [46]).length≤23:=by rw[Ak];simp only[List.length_cons,List.length_nil];omega
  have l4:(Qr (Qr (Qr s (Lib.itoa a)) [46]) (Lib.itoa b)).length≤44:=by rw[Ak];omega
  simp only[JQ a ha,JQ b hb,JQ d hd,Aj a ha,Aj b hb,Aj d hd,Qa,big (show s.length≤100 by omega) (show(Lib.itoa a).length≤100 by omega),
   big (show(Qr s (Lib.itoa a)).length≤100 by omega) (show([46]:List UInt8).length≤100 by simp),big (show(Qr (Qr s (Lib.itoa a)) [46]).length≤100 by omega) (show(Lib.itoa b).length≤100 by omega),
   big (show(Qr (Qr (Qr s (Lib.itoa a)) [46]) (Lib.itoa b)).length≤100 by omega) (show(Lib.itoa d).length≤100 by omega),Qn]
  exact⟨_,rfl,rfl⟩
 unfold Ck Cs Qq Qo;simp only[Qa];cases (decide (-1000000000≤c)&&decide (c≤1000000000))with
 |false=>exact⟨[],rfl,rfl⟩
 |true =>
  simp only[Qh,Qb];cases decide (c<0)with
  |true=>exact tail [45] _ _ _ (by simp) (hw _) (hm _) (hm _)
  |false=>exact tail [] _ _ _ (by simp) (hw _) (hm _) (hm _)
theorem W8{x y:List UInt8}(hx:x.length≤150)(hy:y.length≤150):Vb x y=true:=BO (by omega) (by omega)
theorem mT(c:UInt8):([c]:List UInt8).length≤150:=by simp
def SQ(x:Slot):List UInt8:=Qr (Qr (Lib.itoa x.Id) [58]) (bif !decide (x.Thing=0)then Lib.itoa x.Thing else[46])
theorem oS(x:Slot)(h1:i64 x.Id)(h2:i64 x.Thing):(SQ x).length≤200:=by
 have a:=Vf _ h1;have b:=Vf _ h2;unfold SQ;cases (!decide (x.Thing=0))<;>simp only[Qc,Qb,Ak,List.length_cons,List.length_nil]<;>omega
theorem db(l:List Slot)(hl:l.length≤1048576)(hx:∀x∈l,i64 x.Id∧i64 x.Thing):∃r,A3 l=some r∧AL l=some r:=by
 have hsh:KB (l.map SQ):=IC hl λx h=>oS x (hx x h).1 (hx x h).2
 have fits:∀{a b:List UInt8},a.length≤21→b.length≤21→Vb a [58]=true∧Vb (Qr a [58]) b=true:=λ{a b} ha hb =>
  ⟨W8 (by omega) (mT _),W8 (by rw[Ak];simp only[List.length_cons,List.length_nil];omega) (by omega)⟩
 have hs:=Ay l SQ (step:=JV l) (λi out hi ho=>by
   have hm:=hx _ (List.getElem_mem hi);have a:=Vf _ hm.1;have b:=Vf _ hm.2;simp only[JV,Qy hi,Qs hi,QC hi,QM (show(i:Int)<9223372036854775807 by omega),Vp (show out.length+1≤2000000 by omega) (show 16≤1024 by omega),Qc,Qn,JQ _ hm.1,JQ _ hm.2,Qa,
    (fits a b).1,(fits a b).2,(fits a (show([46]:List UInt8).length≤21 by simp)).2,SQ]
   cases decide (l[i].Thing=0)<;>rfl)
  (λout=>by simp only[JV,QP (Qg _),Qb])
 have hi:=Ay l SQ (step:=JT l (ln l)) (λi out hi ho=>by
   have hm:=hx _ (List.getElem_mem hi);have a:=Vf _ hm.1;have b:=Vf _ hm.2;simp only[JT,Qy hi,Qs hi,QC hi,QM (show(i:Int)<9223372036854775807 by omega),Vp (show out.length+1≤2000000 by omega) (show 16≤1024 by omega),Qc,Qn,Aj _ hm.1,Aj _ hm.2,Qa,
    (fits a b).1,(fits a b).2,(fits a (show([46]:List UInt8).length≤21 by simp)).2,SQ]
   cases decide (l[i].Thing=0)<;>rfl)
  (λout=>by simp only[JT,QP (Qg _),Qb])
 refine⟨FX (l.map SQ),?_,?_⟩
 ·unfold A3;rw[hs];simp only[Qa,Rk _ hsh]
 ·unfold AL;rw[hi];simp only[Qa,Rt _ hsh]
def UA(x:Claim):List UInt8:=bif decide (0≤x.State)&&decide (x.State≤3)then cut [111,112,102,115] x.State (w64 (x.State+1))else[63]
def LD(x:Claim):List UInt8:=Qr (Qr (Qr (Qr (Qr (Lib.itoa x.Id) [58]) (Lib.itoa x.Who)) [62]) (Lib.itoa x.Thing)) (UA x)
theorem iB{α:Type}(l:List α)(a b:Int):(cut l a b).length≤l.length:=by
 unfold cut;simp;omega
theorem gZ(x:Claim):(UA x).length≤4:=by
 unfold UA;cases (decide (0≤x.State)&&decide (x.State≤3))with
 |true=>exact iB _ _ _
 |false=>simp
theorem jf(x:Claim)(h1:i64 x.Id)(h2:i64 x.Who)(h3:i64 x.Thing):(LD x).length≤200:=by
 have a:=Vf _ h1;have b:=Vf _ h2;have c:=Vf _ h3;have d:=gZ x;unfold LD;simp only[Ak,List.length_cons,List.length_nil];omega
theorem IV{a b c d:List UInt8}(ha:a.length≤21)(hb:b.length≤21)(hc:c.length≤21)(hd:d.length≤21) :
  Vb a [58]=true∧Vb (Qr a [58]) b=true∧Vb (Qr (Qr a [58]) b) [62]=true∧Vb (Qr (Qr (Qr a [58]) b) [62]) c=true∧Vb (Qr (Qr (Qr (Qr a [58]) b) [62]) c) d=true:=by
 refine⟨W8 ?_ ?_,W8 ?_ ?_,W8 ?_ ?_,W8 ?_ ?_,W8 ?_ ?_⟩<;>(try simp only[Ak,List.length_cons,List.length_nil])<;>omega
theorem bM(l:List Claim)(hl:l.length≤1048576)(hx:∀x∈l,i64 x.Id∧i64 x.Who∧i64 x.Thing):∃r,Z1 l=some r∧ZV l=some r:=by
 have hsh:KB (l.map LD):=IC hl λx h=>jf x (hx x h).1 (hx x h).2.1 (hx x h).2.2
 have hslB:∀s:Int,(decide (0≤s)&&decide (s≤3))=true→slB s (w64 (s+1)) (ln [111,112,102,115])=true:=by
  intro s hs;simp only[Bool.and_eq_true,decide_eq_true_eq]at hs;rw[VA (by omega) (by omega)]
  unfold slB;rw[Q5];simp;omega
 have hs:=Ay l LD (step:=Jv l) (λi out hi ho=>by
   obtain⟨m1,m2,m3⟩:=hx _ (List.getElem_mem hi);have a:=Vf _ m1;have b:=Vf _ m2;have c:=Vf _ m3;obtain⟨f1,f2,f3,f4,f5⟩:=IV a b c (show(cut [111,112,102,115] l[i].State (w64 (l[i].State+1))).length≤21 from Nat.le_trans (iB _ _ _) (by simp))
   obtain⟨_,_,_,_,f6⟩:=IV a b c (show([63]:List UInt8).length≤21 by simp)
   have hsl:=hslB l[i].State;simp only[Jv,Qy hi,Qs hi,QC hi,QM (show(i:Int)<9223372036854775807 by omega),Vp (show out.length+1≤2000000 by omega) (show 16≤1024 by omega),Qc,Qn,JQ _ m1,JQ _ m2,JQ _ m3,Qa,
    f1,f2,f3,f4,f5,f6,LD,UA,Qq]
   cases hst:(decide (0≤l[i].State)&&decide (l[i].State≤3))with
   |false=>rfl
   |true=>rw[hsl hst];rfl)
  (λout=>by simp only[Jv,QP (Qg _),Qb])
 have hi:=Ay l LD (step:=Jx l (ln l)) (λi out hi ho=>by
   obtain⟨m1,m2,m3⟩:=hx _ (List.getElem_mem hi);have a:=Vf _ m1;have b:=Vf _ m2;have c:=Vf _ m3;obtain⟨f1,f2,f3,f4,f5⟩:=IV a b c (show(cut [111,112,102,115] l[i].State (w64 (l[i].State+1))).length≤21 from Nat.le_trans (iB _ _ _) (by simp))
   obtain⟨_,_,_,_,f6⟩:=IV a b c (show([63]:List UInt8).length≤21 by simp)
   have hsl:=hslB l[i].State;simp only[Jx,Qy hi,Qs hi,QC hi,QM (show(i:Int)<9223372036854775807 by omega),Vp (show out.length+1≤2000000 by omega) (show 16≤1024 by omega),Qc,Qn,Aj _ m1,Aj _ m2,Aj _ m3,Qa,
    f1,f2,f3,f4,f5,f6,LD,UA,Qo]
   cases hst:(decide (0≤l[i].State)&&decide (l[i].State≤3))with
   |false=>rfl
   |true=>rw[hsl hst];rfl)
  (λout=>by simp only[Jx,QP (Qg _),Qb])
 refine⟨FX (l.map LD),?_,?_⟩
 ·unfold Z1;rw[hs];simp only[Qa,Rk _ hsh]
 ·unfold ZV;rw[hi];simp only[Qa,Rt _ hsh]
theorem fD(h:Int):∃c,J5 h=some c∧Bt h=some c∧c.length≤6:=by
 by_cases hk:1≤h∧h≤5
 ·obtain⟨h2,h3⟩:=hk
  have:h=1∨h=2∨h=3∨h=4∨h=5:=by omega
  rcases this with rfl|rfl|rfl|rfl|rfl<;>exact⟨_,rfl,rfl,by decide⟩
 ·have e:(decide (1≤h)&&decide (h≤5))=false:=by
   by_cases h2:1≤h
   ·have h3:¬h≤5:=by omega
    simp[h2,h3]
   ·simp[h2]
  exact⟨[],by unfold J5 Qq;simp[e],by unfold Bt Qo;simp[e],by simp⟩
def IG(h:Int):List UInt8:=(J5 h).getD []
theorem UN(h:Int):J5 h=some (IG h)∧Bt h=some (IG h)∧(IG h).length≤6:=by
 obtain⟨c,h1,h2,h3⟩:=fD h;unfold IG;rw[h1,h2];exact⟨rfl,rfl,h3⟩
def LZ(x:Hand):List UInt8:=Qr (Qr (Qr (IG x.Holder) (Lib.itoa x.Who)) [43]) (Lib.itoa x.At)
theorem oU(x:Hand)(h1:i64 x.Who)(h2:i64 x.At):(LZ x).length≤200:=by
 have a:=Vf _ h1;have b:=Vf _ h2;have c:=(UN x.Holder).2.2;unfold LZ;simp only[Ak,List.length_cons,List.length_nil];omega
theorem tN(l:List Hand)(t:Int)(h:l.length≤1048576):BG l t=some (l.filter λx=>decide (x.Thing=t))∧FW l t=some (l.filter λx=>decide (x.Thing=t)):=by
 have hr:=D2 l (λx=>decide (x.Thing=t)) (λx=>x) (step:=XH l t) (λi out hi ho=>by
   simp only[XH,Qy hi,Qs hi,QC hi,QM (show(i:Int)<9223372036854775807 by omega),Vp (show out.length+1≤2000000 by omega) (show 40≤1024 by omega),Qc,Qn]
   cases decide (l[i].Thing=t)<;>rfl)
  (λout=>by simp only[XH,QP (Qg _),Qb])
 rw[List.map_id']at hr;exact⟨by unfold BG;rw[hr];rfl,by unfold FW;rw[show Fe t l (ln l)=XH l t from rfl,hr];rfl⟩
theorem jk(a b c:List UInt8):Qr (Qr a b) c=Qr a (Qr b c):=by simp[Qr]
theorem xo(l:List Hand)(t:Int)(hl0:l.length≤1048576)(hx0:∀x∈l,i64 x.Who∧i64 x.At):∃r,EC l t=some r∧Ez l t=some r:=by
 obtain⟨e1,e2⟩:=tN l t hl0;have hl:(l.filter λx=>decide (x.Thing=t)).length≤1048576:=Nat.le_trans (List.length_filter_le _ _) hl0
 have hx:∀x∈l.filter (λx=>decide (x.Thing=t)),i64 x.Who∧i64 x.At:=λx h=>hx0 x (List.mem_filter.1 h).1
 generalize l.filter (λx=>decide (x.Thing=t))=m at e1 e2 hl hx
 have hsh:KB (m.map LZ):=IC hl λx h=>oU x (hx x h).1 (hx x h).2
 have hi:=Ay m LZ (step:=Bi m (ln m)) (λi out hi ho=>by
   obtain⟨m1,m2⟩:=hx _ (List.getElem_mem hi);have a:=Vf _ m1;have b:=Vf _ m2;obtain⟨_,q2,q3⟩:=UN m[i].Holder;have f1:Vb (IG m[i].Holder) (Lib.itoa m[i].Who)=true:=W8 (by omega) (by omega)
   have f2:Vb (Qr (IG m[i].Holder) (Lib.itoa m[i].Who)) [43]=true:=W8 (by rw[Ak];omega) (mT _)
   have f3:Vb (Qr (Qr (IG m[i].Holder) (Lib.itoa m[i].Who)) [43]) (Lib.itoa m[i].At)=true:=W8 (by rw[Ak,Ak];simp only[List.length_cons,List.length_nil];omega) (by omega)
   simp only[Bi,Qy hi,Qs hi,QC hi,QM (show(i:Int)<9223372036854775807 by omega),Vp (show out.length+1≤2000000 by omega) (show 16≤1024 by omega),Qc,Qn,Aj _ m1,Aj _ m2,q2,Qa,f1,f2,f3]
   rfl)
  (λout=>by simp only[Bi,QP (Qg _),Qb])
 have hs:=dQ (m.map LZ) hsh (step:=Bq m) (λi s hi hs=>by
   have him:i<m.length:=by simpa using hi
   obtain⟨m1,m2⟩:=hx _ (List.getElem_mem him);have a:=Vf _ m1;have b:=Vf _ m2;obtain⟨q1,_,q3⟩:=UN m[i].Holder;have eg:(m.map LZ)[i]=LZ m[i]:=by simp
   have fit:∀{x y:List UInt8},x.length≤400000000→y.length≤400000000→Vb x y=true:=λh1 h2=>BO (by omega) (by omega)
   have ends:∀p:List UInt8,p.length≤300000001→Vb p (IG m[i].Holder)=true∧Vb (Qr p (IG m[i].Holder)) (Lib.itoa m[i].Who)=true∧Vb (Qr (Qr p (IG m[i].Holder)) (Lib.itoa m[i].Who)) [43]=true ∧
     Vb (Qr (Qr (Qr p (IG m[i].Holder)) (Lib.itoa m[i].Who)) [43]) (Lib.itoa m[i].At)=true:=by
    intro p hp;refine⟨fit ?_ ?_,fit ?_ ?_,fit ?_ ?_,fit ?_ ?_⟩<;>(try simp only[Ak,List.length_cons,List.length_nil])<;>omega
   have asc:∀p:List UInt8,Qr (Qr (Qr (Qr p (IG m[i].Holder)) (Lib.itoa m[i].Who)) [43]) (Lib.itoa m[i].At)=Qr p (LZ m[i]):=λp=>by unfold LZ;simp only[jk]
   simp only[Bq,Qy him,Qs him,QC him,QM (show(i:Int)<9223372036854775807 by omega),Qc,Qn,JQ _ m1,JQ _ m2,q1,Qa,eg]
   by_cases h0:0<i
   ·obtain⟨g1,g2,g3,g4⟩:=ends (Qr s [32]) (by rw[Ak];simp only[List.length_cons,List.length_nil];omega)
    rw[Qf (show(0:Int)<i by omega),if_pos h0,fit (x:=s) (y:=[32]) (by omega) (by simp)]
    simp only[Qc,Qn,g1,g2,g3,g4,asc]
   ·obtain⟨g1,g2,g3,g4⟩:=ends s (by omega)
    rw[Qe (show ¬(0:Int)<i by omega),if_neg h0]
    simp only[Qb,Qn,g1,g2,g3,g4,asc])
  (λs=>by
   rw[List.length_map];simp only[Bq,QP (Qg _),Qb])
 refine⟨FX (m.map LZ),?_,?_⟩
 ·unfold EC
  rw[e1];simp only[Qa];rw[hs];unfold FX;cases m with
  |nil=>rfl
  |cons x m =>
   rw[if_neg (by simp)]
   simp only[Qa,show decide (ln (x::m)=0)=false from Qe (by rw[Q5];simp;omega),Qb]
 ·unfold Ez
  rw[e2];simp only[Qa];rw[hi];unfold FX;cases m with
  |nil=>rfl
  |cons x m =>
   rw[if_neg (by simp)]
   simp only[Qa,RI _ hsh,show decide (ln ((x::m).map LZ)=0)=false from Qe (by rw[Q5];simp;omega),Qb]
end Go.Proofs.YtoilkmgiofimjaaGreatDoor
