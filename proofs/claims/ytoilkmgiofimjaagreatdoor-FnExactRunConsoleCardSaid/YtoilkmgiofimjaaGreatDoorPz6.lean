import Derived.Test.YtoilkmgiofimjaaGreatDoorPz5
import Derived.Lib.ItoaLen
namespace Go.Proofs.YtoilkmgiofimjaaGreatDoor
open Go
set_option linter.unusedVariables false
set_option linter.unusedSimpArgs false
theorem qN(h:House)(out:House)(hm:Qu h):Cj h out [false]=some (h,false):=by
 unfold Cj;simp only[UQ [false] (by simp),XD h hm,Qa]
 rfl
theorem nH(h:House)(t:Int)(hm:Qu h):∃r,Bb h t=some r∧Ca h t=some r∧Qu r.1:=by
 have hm7:=hm;obtain⟨m1,m2,m3,m4,m5,m6,m7⟩:=hm7;obtain⟨w,w1,w2⟩:=HI h.Slots t m3;unfold Bb Ca CT;simp only[(Xw h.Finds t m1).1,(Xw h.Finds t m1).2,(Jy h hm).1,(Jy h hm).2,X8 h hm,XD h hm,w1,w2,Qa]
 rcases Sm h.Finds t with hx|⟨k,hk,hx⟩
 ·rw[hx]
  refine⟨(h,false),rfl,?_,hm⟩;cases J7 h<;>rfl
 ·rw[hx,Qe (show ¬(k:Int)<0 by omega)]
  cases hb:J7 h with
  |false=>exact⟨(h,false),rfl,rfl,hm⟩
  |true =>
   obtain⟨f,f1,f2⟩:=ji h.Finds[k] h.Claims h.Now m4;obtain⟨a,a1,a2,a3,a4,_⟩:=bO h t 3 (h.Finds[k]).Finder hm;obtain⟨b,b1,b2,b3,b4,_⟩:=bO h t 5 0 hm;simp only[Qb,Qh,Qa,Qs hk,QC hk,Qn,f1,a1,b1,FR h _ _ hm a3,FR h _ _ hm b3];refine⟨bif decide (f=2)then EQ h a.1 a.2 else bif decide (f=4)then EQ h b.1 b.2 else bif decide (f=5)then EQ h b.1 b.2 else(h,false),?_,?_,?_⟩
   ·cases decide (f=2)<;>cases decide (f=4)<;>cases decide (f=5)<;>rfl
   ·cases hi:DP h.Slots t with
    |false =>
     rw[a4 hi,b4 hi];simp only[Qi,Qa,Qc,HO];cases decide (f=2)<;>cases decide (f=4)<;>cases decide (f=5)<;>rfl
    |true =>
     simp only[Qh,Qa,Qb,Qs hk,QC hk,Qn,f2,a2,b2,qN h h hm,DW h _ _ hm a3 (show[a.2].length≤1048576 by simp),DW h _ _ hm b3 (show[b.2].length≤1048576 by simp),List.all_cons,List.all_nil,Bool.and_true,id_eq]
     cases decide (f=2)<;>cases decide (f=4)<;>cases decide (f=5)<;>rfl
   ·cases decide (f=2)<;>cases decide (f=4)<;>cases decide (f=5)<;>first|exact Cu _ _ _ hm a3|exact Cu _ _ _ hm b3|exact hm
theorem s8(h:House)(n:Int)(hm:Qu h):∃r,BR h n=some r∧Dz h n=some r∧Qu r.1:=by
 have ho:Qu ⟨h.No,h.Finds,h.Secrets,h.Slots,h.Claims,h.Trials,h.Chain,h.Book,w64 (h.Now+n)⟩:=hm;refine⟨EQ h ⟨h.No,h.Finds,h.Secrets,h.Slots,h.Claims,h.Trials,h.Chain,h.Book,w64 (h.Now+n)⟩ (decide (1≤n)&&decide (n≤10000)),?_,?_,Cu _ _ _ hm ho⟩
 ·unfold BR
  simp only[X8 h hm,Qq,FR h _ _ hm ho,Qa];cases hn:(decide (1≤n)&&decide (n≤10000))with
  |false=>rfl
  |true =>
   cases hw:(decide (0≤h.Now)&&decide (h.Now≤100000))with
   |true=>rfl
   |false =>
    have hb:J7 h=false:=by
     cases hb:J7 h with
     |false=>rfl
     |true =>
      have:=(Mi h hm hb).now;rw[Qf this.1,Qf this.2]at hw;cases hw
    rw[oC _ _ _ hb];rfl
 ·unfold Dz
  simp only[XD h hm,Qo,Qa,DW h _ _ hm ho (show[decide (1≤n)&&decide (n≤10000)].length≤1048576 by simp),List.all_cons,List.all_nil,Bool.and_true,id]
def Q(a:House)(r:House×Bool):Prop:=(r.2=true→Vq a=some true∧Vq r.1=some true)∧(r.2=false→r.1=a)
def Qd(a:House)(x:Option (House×Bool)):Prop:=∀r,x=some r→Q a r
theorem Qd.bind{A:Type}{a:House}{o:Option A}{k:A→Option (House×Bool)}(h:∀y,Qd a (k y)):Qd a (o.bind k):=λr hr=>by
 obtain⟨y,_,hy⟩:=Option.bind_eq_some_iff.1 hr;exact h y r hy
theorem Qd.cond{a:House}{b:Bool}{x y:Option (House×Bool)}(hx:Qd a x)(hy:Qd a y):Qd a (bif b then x else y):=by
 cases b with
 |true=>exact hx
 |false=>exact hy
theorem Qd.nd{a:House}{b:Bool}{x:Option (House×Bool)}(hx:Qd a x):Qd a (nd b<|x):=by
 cases b with
 |true=>exact hx
 |false=>intro r hr;cases hr
theorem Qd.none{a:House}:Qd a none:=λr hr=>by cases hr
theorem Qd.self{a:House}:Qd a (some (a,false)):=λr hr=>by
 injection hr with hr;subst hr
 exact⟨λh=>(by cases h),λ_=>rfl⟩
theorem Qd.done{a o:House}{o2:Bool}(hm:Qu a):Qd a ((QL a o o2).bind λr=>some (r.1,r.2)):=λr hr=>by
 obtain⟨y,hy,e⟩:=Option.bind_eq_some_iff.1 hr;injection e with e;subst e
 unfold QL at hy;obtain⟨b,hb,hy⟩:=Option.bind_eq_some_iff.1 hy;cases b with
 |true =>
  rw[X8 a hm]at hy;simp only[Qc,Qa]at hy;injection hy with hy;subst hy
  exact⟨λh=>(by cases h),λ_=>rfl⟩
 |false =>
  simp only[Qb]at hy;injection hy with hy;subst hy
  refine⟨λ_=>?_,λh=>(by cases h)⟩
  cases o2 with
  |false=>cases hb
  |true =>
   simp only[Qh,Qb]at hb;obtain⟨r1,h1,hb⟩:=Option.bind_eq_some_iff.1 hb;cases r1 with
   |false=>cases hb
   |true =>
    simp only[Qh,Qb]at hb;obtain⟨r2,h2,hb⟩:=Option.bind_eq_some_iff.1 hb;cases r2 with
    |false=>cases hb
    |true=>exact⟨h1,h2⟩
theorem nf(a:House)(f:Find)(m:List Mark)(s:Int)(hm:Qu a):Qd a (BV a f m s):=by
 unfold BV;simp only[X8 a hm,Qa]
 repeat (first|exact Qd.done hm|exact Qd.self|refine Qd.bind λ_=>?_|refine Qd.nd ?_|refine Qd.cond ?_ ?_|exact Qd.none)
theorem iQ(a:House)(x y z:Int)(hm:Qu a):Qd a (ZG a x y z):=by
 unfold ZG;simp only[X8 a hm,Qa]
 repeat (first|exact Qd.done hm|exact Qd.self|refine Qd.bind λ_=>?_|refine Qd.nd ?_|refine Qd.cond ?_ ?_|exact Qd.none)
theorem e5(a:House)(x y:Int)(hm:Qu a):Qd a (Ag a x y):=by
 unfold Ag;simp only[X8 a hm,Qa]
 repeat (first|exact Qd.done hm|exact Qd.self|refine Qd.bind λ_=>?_|refine Qd.nd ?_|refine Qd.cond ?_ ?_|exact Qd.none)
theorem iu(a:House)(x:Int)(hm:Qu a):Qd a (Ba a x):=by
 unfold Ba;simp only[X8 a hm,Qa]
 repeat (first|exact Qd.done hm|exact Qd.self|refine Qd.bind λ_=>?_|refine Qd.nd ?_|refine Qd.cond ?_ ?_|exact Qd.none)
theorem nQ(a:House)(x:Int)(l:List Bid)(hm:Qu a):Qd a (BW a x l):=by
 unfold BW;simp only[X8 a hm,Qa]
 repeat (first|exact Qd.done hm|exact Qd.self|refine Qd.bind λ_=>?_|refine Qd.nd ?_|refine Qd.cond ?_ ?_|exact Qd.none)
theorem ig(a:House)(x:Int)(hm:Qu a):Qd a (Bb a x):=by
 unfold Bb;simp only[X8 a hm,Qa]
 repeat (first|exact Qd.done hm|exact Qd.self|refine Qd.bind λ_=>?_|refine Qd.nd ?_|refine Qd.cond ?_ ?_|exact Qd.none)
theorem nN(a:House)(x:Int)(hm:Qu a):Qd a (BR a x):=by
 unfold BR;simp only[X8 a hm,Qa]
 repeat (first|exact Qd.done hm|exact Qd.self|refine Qd.bind λ_=>?_|refine Qd.nd ?_|refine Qd.cond ?_ ?_|exact Qd.none)
theorem qT(l:List Slot)(hl:l.length≤1048576)(h:∀x∈l,x.Thing=0):D9 l=some (ln l):=by
 have h1:=X0 (step:=JR l) (λi=>((i:Int),(i:Int))) (r:=(l.length:Int)) l.length (λi hi=>by
   have h0:decide (l[i].Thing=0)=true:=Qf (h _ (List.getElem_mem hi));simp only[JR,Qy hi,Qs hi,QC hi,h0,Qc,Qn,QM (show(i:Int)<9223372036854775807 by omega)])
  (by simp only[JR,QP (Qg _),Qb])
 unfold D9;rw[show run (JR l) (0,0)=_ from h1];rfl
theorem nA(h:House)(m3:h.Slots.length≤1048576)(hf:h.Finds=[])(hk:Ao h=some true):∀x∈h.Slots,x.Thing=0:=by
 unfold Ao at hk;cases hd:(!decide (ln h.Secrets=ln h.Finds))with
 |true=>rw[hd]at hk;cases hk
 |false =>
 rw[hd,Qb]at hk;cases hr:C8 h.Chain h.No with
 |none=>rw[hr]at hk;cases hk
 |some r =>
 rw[hr]at hk;simp only[Qa]at hk;cases h5:run (J6 h r h.Finds (ln h.Finds)) 0 with
 |none=>rw[h5]at hk;cases hk
 |some o =>
 rw[h5]at hk;cases o with
 |ret b =>
  exfalso;rw[hf]at h5;rw[QS]at h5;have:decide ((0:Int)<ln ([]:List Find))=false:=by decide
  simp only[J6,this,Qb,Qa]at h5;cases h5
 |brk u =>
 simp only[Qa,evO]at hk;have m1:h.Finds.length≤1048576:=by rw[hf];simp
 have t3:=Gp h.Slots (λx=>decide (x.Thing=0)||!decide (Xh h.Finds x.Thing<0)) (r:=false) (step:=XL h r h.Slots (ln h.Slots))
  (λi hi=>by
   simp only[XL,Qy hi,Qs hi,QC hi,QM (show(i:Int)<9223372036854775807 by omega),Qc,Qn,(Xw h.Finds _ m1).2,Qa]
   cases decide (h.Slots[i].Thing=0)<;>cases decide (Xh h.Finds h.Slots[i].Thing<0)<;>rfl)
  (by simp only[XL,QP (Qg _),Qb])
 rw[t3]at hk;cases ha:h.Slots.all (λx=>decide (x.Thing=0)||!decide (Xh h.Finds x.Thing<0))with
 |false=>rw[ha]at hk;cases hk
 |true =>
  intro x hx;have:=List.all_eq_true.1 ha x hx;rw[hf]at this;simpa[Xh]using this
theorem qk(no:Int)(l:List Slot)(hl:l.length≤1048576):∃r,Zy no l=some r∧DG no l=some r∧Qu r.1:=by
 have hm:Qu ⟨no,[],[],l,[],[],[],[],0⟩:=⟨by simp,⟨by simp,by simp⟩,hl,by simp,by simp,by simp,by simp⟩
 have h0:Qu ⟨0,[],[],[],[],[],[],[],0⟩:=⟨by simp,⟨by simp,by simp⟩,by simp,by simp,by simp,by simp,by simp⟩
 obtain⟨b,b1,b2⟩:=TU _ hm;unfold Zy DG Xg;simp only[X8 _ hm,Vp (show 0+l.length≤2000000 by omega) (show 24≤1024 by omega),Qn,Qa,b1,b2]
 cases b with
 |false=>exact⟨_,rfl,rfl,h0⟩
 |true =>
  have hk:=(bT _ hm b2).kept;have hfree:=qT l hl (nA _ hl rfl hk);simp only[hfree,Qh,Qb,Qa,decide_true];exact⟨_,rfl,rfl,hm⟩
def FD:List UInt8:=[119,104,97,116]
def tNo:List UInt8:=[110,111]
def tOk:List UInt8:=[111,107]
def yk:List UInt8:=[110,101,119]
def cu:List UInt8:=[115,101,114,118,101]
def ba:List UInt8:=[99,108,101,97,114]
def jv:List UInt8:=[116,105,99,107]
def IU:List UInt8:=[97,110,115,119,101,114]
def RH:List UInt8:=[99,108,97,105,109]
def YB:List UInt8:=[115,101,108,108]
def A6:List UInt8:=[109,97,116,99,104]
def VK:List UInt8:=[102,105,110,100]
def A0:List (List UInt8):=[uJ,bx,TO,co,aN]
def A1:List (List UInt8):=[yk,cu,ba,jv,ib,Up,T7,L3]
def arT(w:List UInt8):Int:=if w∈A0 then 0 else if w∈A1 then 1 else if w=IU then 2 else if w=RH∨w=YB then 3 else if w=A6 then 6 else if w=VK then 10 else -1
theorem Qfe(w:List UInt8):Hn w=some (arT w):=by
 by_cases h0:w∈A0
 ·simp only[A0,List.mem_cons,List.not_mem_nil,or_false]at h0
  rcases h0 with rfl|rfl|rfl|rfl|rfl<;>rfl
 by_cases h1:w∈A1
 ·simp only[A1,List.mem_cons,List.not_mem_nil,or_false]at h1
  rcases h1 with rfl|rfl|rfl|rfl|rfl|rfl|rfl|rfl<;>rfl
 by_cases h2:w=IU
 ·subst h2;rfl
 by_cases h3:w=RH
 ·subst h3;rfl
 by_cases h4:w=YB
 ·subst h4;rfl
 by_cases h6:w=A6
 ·subst h6;rfl
 by_cases h10:w=VK
 ·subst h10;rfl
 have e:arT w=-1:=by
  unfold arT;rw[if_neg h0,if_neg h1,if_neg h2,if_neg (by rintro(h|h);exact h3 h;exact h4 h),if_neg h6,if_neg h10]
 rw[e];simp only[A0,A1,List.mem_cons,List.not_mem_nil,or_false,not_or]at h0 h1;obtain⟨a1,a2,a3,a4,a5⟩:=h0;obtain⟨b1,b2,b3,b4,b5,b6,b7,b8⟩:=h1;unfold uJ at a1;unfold bx at a2;unfold TO at a3;unfold co at a4;unfold aN at a5;unfold yk at b1;unfold cu at b2;unfold ba at b3;unfold jv at b4;unfold ib at b5;unfold Up at b6;unfold T7 at b7;unfold L3 at b8;unfold IU at h2;unfold RH at h3;unfold YB at h4;unfold A6 at h6;unfold VK at h10;unfold Hn;simp only[Qe a1,Qe a2,Qe a3,Qe a4,Qe a5,Qe b1,Qe b2,Qe b3,Qe b4,Qe b5,Qe b6,Qe b7,Qe b8,Qe h2,Qe h3,Qe h4,Qe h6,Qe h10,Qb]
noncomputable def SR(a:House)(w:List UInt8)(n:List Int):Option (House×List UInt8):=(C3 a w n).bind (evO (λr12=>bif (!r12.2.2)then(QG a).bind λr13=>(Cr a w n).bind λr14=>some (r13,r14)else(bif (!r12.2.1)then(QG a).bind λr15=>some (r15,[110,111])else some (r12.1,[111,107]))) λq=>(QG a).bind λr16=>(Cr a w n).bind λr17=>some (r16,r17))
noncomputable def Nc(a:House)(w:List UInt8)(n:List Int):Option (House×List UInt8):=bif ((decide (w=[110,101,119]))&&(decide (ln n=1)))then nd (inb n 0)<|spec_ExampleSlots.bind λr11=>(Zy (gt n 0) r11).bind λr12=>(Zt a r12.1 r12.2).bind λr13=>some (r13.1,r13.2)else(Xp w n).bind λr14=>(bif (decide (0<r14.Kind))then(Z7 a r14).bind λr15=>(Zt a r15.1 r15.2).bind λr16=>some (r16.1,r16.2)else(bif (decide (ln n=0))then(QU a).bind λr17=>(JH a w).bind λr18=>some (r17,r18)else(bif (decide (ln n=1))then nd (inb n 0)<|(QU a).bind λr19=>(J3 a w (gt n 0)).bind λr20=>some (r19,r20)else(QU a).bind λr21=>some (r21,[119,104,97,116]))))
def Re(a:House)(r:House×Bool):House×List UInt8:=bif r.2 then(r.1,tOk)else(a,tNo)
def Kp(a x:House):Prop:=Qu x∧(x=a∨Vq x=some true)
theorem Fw(a:House)(w:List UInt8)(n:List Int)(hm:Qu a)(r:House×Bool)(h:C3 a w n=some (.ret (r.1,r.2,true))):SR a w n=some (Re a r):=by
 obtain⟨x,b⟩:=r;unfold SR;rw[h];cases b with
 |true=>rfl
 |false =>
  show(QG a).bind _=_;rw[XD a hm];rfl
theorem Y6(a:House)(w:List UInt8)(n:List Int)(hm:Qu a)(s:List UInt8)(h:C3 a w n=some (.brk ()))(hs:Cr a w n=some s):SR a w n=some (a,s):=by
 unfold SR;rw[h];show(QG a).bind _=_;rw[XD a hm,Qa,hs];rfl
theorem NA(a:House)(hm:Qu a)(r:House×Bool):((Zt a r.1 r.2).bind λr=>some (r.1,r.2))=some (Re a r):=by
 obtain⟨x,b⟩:=r;unfold Zt;cases b with
 |true=>rfl
 |false =>
  show((QU a).bind _).bind _=_;rw[X8 a hm];rfl
theorem HD{a:House}{r:House×Bool}(hm:Qu a)(h1:Qu r.1)(h2:r.2=true→Vq r.1=some true):Kp a (Re a r).1:=by
 obtain⟨x,b⟩:=r;cases b with
 |true=>exact⟨h1,.inr (h2 rfl)⟩
 |false=>exact⟨hm,.inl rfl⟩
theorem FC(a:House)(w:List UInt8)(n:List Int)(e:Event)(hm:Qu a)(hw:((decide (w=[110,101,119]))&&(decide (ln n=1)))=false)(he:Xp w n=some e)(hk:0<e.Kind)(r:House×Bool)(ha:Z7 a e=some r):Nc a w n=some (Re a r):=by
 unfold Nc;rw[hw,Qb,he,Qa,Qf hk,Qc,ha];show((Zt a r.1 r.2).bind λr=>some (r.1,r.2))=_
 exact NA a hm r
theorem Fo{o:Option (House×Bool)}{r:House×Bool}(h:o=some r):(o.bind λr=>some (r.1,r.2))=some r:=by rw[h];rfl
def noEv:Event:=⟨0,⟨⟨0,0,0,0,0⟩,0,0,0⟩,[],0,0,0,[]⟩
theorem I8(a:House)(w:List UInt8)(n:List Int)(hm:Qu a)(hw:((decide (w=[110,101,119]))&&(decide (ln n=1)))=false)(he:Xp w n=some noEv):Nc a w n=(bif (decide (ln n=0))then(JH a w).bind λr18=>some (a,r18)else(bif (decide (ln n=1))then nd (inb n 0)<|(J3 a w (gt n 0)).bind λr20=>some (a,r20)else some (a,FD))):=by
 unfold Nc;rw[hw,Qb,he,Qa];simp only[X8 a hm,Qa,show decide (0<noEv.Kind)=false from rfl,Qb];rfl
theorem Qob(no:Int)(l:List Slot){r:House×Bool}(h:Zy no l=some r)(h2:r.2=true):Vq r.1=some true:=by
 unfold Zy at h;obtain⟨q,_,h⟩:=Option.bind_eq_some_iff.1 h;obtain⟨b,hb,h⟩:=Option.bind_eq_some_iff.1 h;cases b with
 |true=>injection h with h;subst h;cases h2
 |false =>
  injection h with h;subst h
  obtain⟨v,hv,hb⟩:=Option.bind_eq_some_iff.1 hb;cases v with
  |true=>exact hv
  |false=>cases hb
theorem QqJ(a:House)(w:List UInt8)(n:List Int)(hm:Qu a)(hk:Lk a)(h:arT w=ln n)(h6:w≠A6)(h10:w≠VK):∃r,SR a w n=some r∧Nc a w n=some r∧Kp a r.1:=by
 have hself:Kp a a:=⟨hm,.inl rfl⟩;by_cases h0:w∈A0
 ·have hn:n=[]:=by
   unfold arT at h;rw[if_pos h0,Q5]at h;exact List.length_eq_zero_iff.1 (by omega)
  subst hn;obtain⟨s,s1,s2⟩:=so a w hm hk h0;refine⟨(a,s),?_,?_,hself⟩
  ·refine Y6 a w [] hm s ?_ s2
   simp only[A0,List.mem_cons,List.not_mem_nil,or_false]at h0
   rcases h0 with rfl|rfl|rfl|rfl|rfl<;>rfl
  ·rw[I8 a w [] hm (by simp[ln]) (by simp[Xp,ln];rfl)]
   show(JH a w).bind _=_;rw[s1];rfl
 by_cases h1:w∈A1
 ·have hn:n.length=1:=by
   unfold arT at h;rw[if_neg h0,if_pos h1,Q5]at h;omega
  obtain⟨x,rfl⟩:=List.length_eq_one_iff.1 hn;by_cases hw:w∈[ib,Up,T7,L3]
  ·obtain⟨s,s1,s2⟩:=xI a w x hm hk hw
   refine⟨(a,s),?_,?_,hself⟩
   ·refine Y6 a w [x] hm s ?_ s2
    simp only[List.mem_cons,List.not_mem_nil,or_false]at hw
    rcases hw with rfl|rfl|rfl|rfl<;>rfl
   ·rw[I8 a w [x] hm (by simp only[List.mem_cons,List.not_mem_nil,or_false]at hw;rcases hw with rfl|rfl|rfl|rfl<;>rfl) (by simp only[List.mem_cons,List.not_mem_nil,or_false]at hw;rcases hw with rfl|rfl|rfl|rfl<;>rfl)]
    show(J3 a w x).bind _=_;rw[s1];rfl
  ·have hw':w∈[yk,cu,ba,jv]:=by
    simp only[A1,List.mem_cons,List.not_mem_nil,or_false]at h1 hw ⊢
    rcases h1 with h|h|h|h|h|h|h|h<;>simp_all
   simp only[List.mem_cons,List.not_mem_nil,or_false]at hw'
   rcases hw' with rfl|rfl|rfl|rfl
   ·obtain⟨r,r1,r2,r3⟩:=qk x [(⟨1,5,0⟩:Slot),(⟨2,10,0⟩:Slot),(⟨3,20,0⟩:Slot),(⟨4,50,0⟩:Slot)] (by simp)
    refine⟨Re a r,Fw a _ _ hm r ?_,?_,HD hm r3 (Qob _ _ r1)⟩
    ·show(DG x _).bind _=_
     rw[r2];rfl
    ·show(Zy x _).bind _=_
     rw[r1,Qa];exact NA a hm r
   ·obtain⟨r,r1,r2,r3⟩:=pb a x hm
    refine⟨Re a r,Fw a _ _ hm r ?_,FC a _ _ ⟨4,⟨⟨0,0,0,0,0⟩,0,0,0⟩,[],0,0,x,[]⟩ hm rfl rfl (by simp only;omega) r (Fo r1),HD hm r3 λh=>((iu a x hm _ r1).1 h).2⟩
    show(Cv a x).bind _=_;rw[r2];rfl
   ·obtain⟨r,r1,r2,r3⟩:=nH a x hm
    refine⟨Re a r,Fw a _ _ hm r ?_,FC a _ _ ⟨6,⟨⟨0,0,0,0,0⟩,0,0,0⟩,[],0,0,x,[]⟩ hm rfl rfl (by simp only;omega) r (Fo r1),HD hm r3 λh=>((ig a x hm _ r1).1 h).2⟩
    show(Ca a x).bind _=_;rw[r2];rfl
   ·obtain⟨r,r1,r2,r3⟩:=s8 a x hm
    refine⟨Re a r,Fw a _ _ hm r ?_,FC a _ _ ⟨7,⟨⟨0,0,0,0,0⟩,0,0,0⟩,[],0,0,x,[]⟩ hm rfl rfl (by simp only;omega) r (Fo r1),HD hm r3 λh=>((nN a x hm _ r1).1 h).2⟩
    show(Dz a x).bind _=_;rw[r2];rfl
 by_cases h2:w=IU
 ·subst h2
  have hn:n.length=2:=by rw[show arT IU=2 from rfl,Q5]at h;omega
  obtain⟨x,y,rfl⟩:∃x y,n=[x,y]:=by
   match n,hn with
   |[x,y],_=>exact⟨x,y,rfl⟩
  obtain⟨r,r1,r2,r3⟩:=iv a x y hm;refine⟨Re a r,Fw a _ _ hm r ?_,FC a _ _ ⟨3,⟨⟨0,0,0,0,0⟩,0,0,0⟩,[],x,0,y,[]⟩ hm rfl rfl (by simp only;omega) r (Fo r1),HD hm r3 λh=>((e5 a x y hm _ r1).1 h).2⟩
  show(By a x y).bind _=_;rw[r2];rfl
 by_cases h3:w=RH∨w=YB
 ·have hn:n.length=3:=by
   unfold arT at h;rw[if_neg h0,if_neg h1,if_neg h2,if_pos h3,Q5]at h;omega
  obtain⟨x,y,z,rfl⟩:∃x y z,n=[x,y,z]:=by
   match n,hn with
   |[x,y,z],_=>exact⟨x,y,z,rfl⟩
  rcases h3 with rfl|rfl
  ·obtain⟨r,r1,r2,r3⟩:=oh a x y z hm
   refine⟨Re a r,Fw a _ _ hm r ?_,FC a _ _ ⟨2,⟨⟨0,0,0,0,0⟩,0,0,0⟩,[],x,y,z,[]⟩ hm rfl rfl (by simp only;omega) r (Fo r1),HD hm r3 λh=>((iQ a x y z hm _ r1).1 h).2⟩
   show(Ct a x y z).bind _=_;rw[r2];rfl
  ·obtain⟨r,r1,r2,r3⟩:=qS a x [(⟨101,y,0⟩:Bid),(⟨102,z,0⟩:Bid)] hm (by simp)
   refine⟨Re a r,Fw a _ _ hm r ?_,FC a _ _ ⟨5,⟨⟨0,0,0,0,0⟩,0,0,0⟩,[],0,0,x,[(⟨101,y,0⟩:Bid),(⟨102,z,0⟩:Bid)]⟩ hm rfl rfl (by simp only;omega) r (Fo r1),HD hm r3 λh=>((nQ a x _ hm _ r1).1 h).2⟩
   show(DM a x [(⟨101,y,0⟩:Bid),(⟨102,z,0⟩:Bid)]).bind _=_;rw[r2];rfl
 exfalso;unfold arT at h;rw[if_neg h0,if_neg h1,if_neg h2,if_neg h3,if_neg h6,if_neg h10,Q5]at h;omega
theorem nO(a:House)(w:List UInt8)(n:List Int)(hm:Qu a)(h:arT w≠ln n):Nc a w n=some (a,FD):=by
 have key:((decide (w=[110,101,119]))&&(decide (ln n=1)))=false∧Xp w n=some noEv∧(ln n=0→JH a w=some FD)∧(ln n=1→∀x,J3 a w x=some FD):=by
  by_cases z0:ln n=0
  ·have hw:w∉A0:=λhw=>h (by unfold arT;rw[if_pos hw];exact z0.symm)
   simp only[A0,List.mem_cons,List.not_mem_nil,or_false,not_or]at hw;obtain⟨a1,a2,a3,a4,a5⟩:=hw;unfold uJ at a1;unfold bx at a2;unfold TO at a3;unfold co at a4;unfold aN at a5;refine⟨by rw[z0];simp,by unfold Xp;rw[z0];rfl,λ_=>?_,λq=>by omega⟩
   unfold JH;simp only[Qe a1,Qe a2,Qe a3,Qe a4,Qe a5,Qb];rfl
  by_cases z1:ln n=1
  ·have hw:w∉A1:=λhw=>h (by
    unfold arT;have:w∉A0:=by
     simp only[A1,List.mem_cons,List.not_mem_nil,or_false]at hw
     rcases hw with rfl|rfl|rfl|rfl|rfl|rfl|rfl|rfl<;>decide
    rw[if_neg this,if_pos hw];exact z1.symm)
   simp only[A1,List.mem_cons,List.not_mem_nil,or_false,not_or]at hw;obtain⟨b1,b2,b3,b4,b5,b6,b7,b8⟩:=hw;unfold yk at b1;unfold cu at b2;unfold ba at b3;unfold jv at b4;unfold ib at b5;unfold Up at b6;unfold T7 at b7;unfold L3 at b8;refine⟨by rw[Qe b1];rfl,?_,λq=>by omega,λ_ x=>?_⟩
   ·unfold Xp
    rw[z1,Qe b2,Qe b3,Qe b4];rfl
   ·unfold J3
    simp only[Qe b5,Qe b6,Qe b7,Qe b8,Qb];rfl
  have e1:decide (ln n=1)=false:=Qe z1;refine⟨by rw[e1];simp,?_,λq=>absurd q z0,λq=>absurd q z1⟩
  unfold Xp;rw[e1];by_cases z2:ln n=2
  ·have hw:¬w=IU:=λe=>h (by subst e;exact z2.symm)
   unfold IU at hw;rw[z2,Qe hw];rfl
  by_cases z3:ln n=3
  ·have h4:¬w=RH:=λe=>h (by subst e;exact z3.symm)
   have h5:¬w=YB:=λe=>h (by subst e;exact z3.symm)
   unfold RH at h4;unfold YB at h5;rw[z3,Qe h4,Qe h5];rfl
  rw[Qe z2,Qe z3];rfl
 obtain⟨k1,k2,k3,k4⟩:=key;rw[I8 a w n hm k1 k2];by_cases z0:ln n=0
 ·rw[Qf z0,k3 z0];rfl
 by_cases z1:ln n=1
 ·rw[Qe z0,Qf z1]
  have:inb n 0=true:=by rw[B3];rw[Q5]at z1;omega
  rw[this,k4 z1 _];rfl
 ·rw[Qe z0,Qe z1];rfl
def Qlw:List (List UInt8):=[[],[98,97,103],[99,111,97,116],[107,101,121,115],[109,111,110,101,121],[112,104,111,110,101],[117,109,98,114,101,108,108,97],[102,111,111,100],[111,116,104,101,114]]
def kT(k:Int):List UInt8:=if 1≤k∧k≤8 then gt Qlw k else[]
theorem pV(k:Int):(kT k).length≤8:=by
 unfold kT
 split
 ·rename_i h
  rcases(by omega:k=1∨k=2∨k=3∨k=4∨k=5∨k=6∨k=7∨k=8)with rfl|rfl|rfl|rfl|rfl|rfl|rfl|rfl<;>decide
 ·simp
theorem iG(k:Int):Dy k=some (kT k):=by
 unfold Dy Qo kT;by_cases h:1≤k∧k≤8
 ·rw[if_pos h]
  rcases(by omega:k=1∨k=2∨k=3∨k=4∨k=5∨k=6∨k=7∨k=8)with rfl|rfl|rfl|rfl|rfl|rfl|rfl|rfl<;>rfl
 ·rw[if_neg h]
  have:(decide (1≤k)&&decide (k≤8))=false:=by
   rw[Bool.eq_false_iff];simpa using h
  rw[this];rfl
theorem Qeb(s:List UInt8):∃r,AE s=some r∧0≤r∧r≤8:=by
 have key:∀(m:Nat) (k:Int),k+(m:Int)=9→1≤k→(∃j,run (X4 s) k=some (.ret j)∧1≤j∧j≤8)∨run (X4 s) k=some (.brk ()):=by
  intro m
  induction m with
  |zero =>
   intro k hk h1;right;exact rR (by simp only[X4,Qe (show ¬k≤8 by omega),Qb])
  |succ m ih =>
   intro k hk h1;have hs:X4 s k=(bif decide (kT k=s)then some (.inr (.ret k))else some (.inl (k+1))):=by
    simp only[X4,Qf (show k≤8 by omega),Qc,iG,Qa,VA (n:=k+1) (by omega) (by omega)]
   by_cases hc:kT k=s
   ·rw[Qf hc]at hs
    exact .inl ⟨k,rR hs,h1,by omega⟩
   ·rw[Qe hc]at hs
    rw[rI hs];exact ih (k+1) (by omega) (by omega)
 unfold AE
 rcases key 8 1 (by omega) (by omega)with⟨j,h,h1,h2⟩|h
 ·rw[h];exact⟨j,rfl,by omega,h2⟩
 ·rw[h];exact⟨0,rfl,by omega,by omega⟩
def dgB(b:UInt8):Bool:=decide (48≤b.toNat)&&decide (b.toNat≤57)
def F3(s:List UInt8):Nat:=s.foldl (λn b=>10*n+(b.toNat-48)) 0
theorem RN(s:List UInt8)(b:UInt8):F3 (s++[b])=10*F3 s+(b.toNat-48):=by simp[F3]
theorem l9:∀(s:List UInt8),s≠[]→∃t b,s=t++[b]:=λs h=>by
 rcases List.eq_nil_or_concat s with h'|⟨t,b,h'⟩
 ·exact absurd h' h
 ·exact⟨t,b,by simpa using h'⟩
theorem bW:∀(n:Nat) (s:List UInt8),s.length=n→s.all dgB=true→F3 s<10^n
 |0,s,h,_=>by
  obtain rfl:=List.length_eq_zero_iff.1 h;decide
 |n+1,s,h,hd=>by
  obtain⟨t,b,rfl⟩:=l9 s (by rintro rfl;cases h)
  rw[List.all_append,Bool.and_eq_true]at hd;have ih:=bW n t (by simpa using h) hd.1
  have hb:=hd.2;simp only[List.all_cons,List.all_nil,Bool.and_true,dgB,Bool.and_eq_true,decide_eq_true_eq]at hb;rw[RN,Nat.pow_succ];omega
theorem SS(b:UInt8)(h:dgB b=true):UInt8.ofNat (48+(b.toNat-48))=b:=by
 unfold dgB at h;simp only[Bool.and_eq_true,decide_eq_true_eq]at h;rw[show 48+(b.toNat-48)=b.toNat by omega]
 simp
theorem Hq:∀(n:Nat) (s:List UInt8),s.length=n+1→s.all dgB=true→(n=0∨s.head?≠some 48)→Lib.decDigits (F3 s)=s∧(s.head?≠some 48→1≤F3 s)
 |n,s,h,hd,hh=>by
  obtain⟨t,b,rfl⟩:=l9 s (by rintro rfl;cases h)
  rw[List.all_append,Bool.and_eq_true]at hd;have hb:dgB b=true:=by simpa using hd.2
  have hb':=hb;unfold dgB at hb';simp only[Bool.and_eq_true,decide_eq_true_eq]at hb';cases n with
  |zero =>
   have ht:t=[]:=List.length_eq_zero_iff.1 (by simpa using h)
   subst ht;have hv:F3 ([]++[b])=b.toNat-48:=by simp[F3]
   refine⟨by rw[hv,Lib.decDigits_one (by omega),SS b hb];rfl,λh8=>?_⟩
   rw[hv];have:b≠48:=λe=>h8 (by simp[e])
   have:b.toNat≠48:=λe=>this (UInt8.toNat_inj.1 e)
   omega
  |succ n =>
   have hl:t.length=n+1:=by simpa using h
   obtain⟨x,t',rfl⟩:=List.exists_cons_of_length_eq_add_one hl;have hx:(x::t').head?≠some 48:=by
    rcases hh with hh|hh
    ·cases hh
    ·simpa using hh
   obtain⟨i1,i2⟩:=Hq n (x::t') hl hd.1 (.inr hx);have i3:=i2 hx;rw[RN];refine⟨?_,λ_=>by omega⟩
   rw[Lib.decDigits,dif_neg (by omega),show(10*F3 (x::t')+(b.toNat-48)) / 10=F3 (x::t')by omega,i1,show(10*F3 (x::t')+(b.toNat-48))%10=b.toNat-48 by omega,SS b hb]
def fu(s:List UInt8):Bool:=!decide (s.length=0)&&(!decide (13<s.length)&&(!(decide (1<s.length)&&decide (s.head?=some 48))&&(s.all dgB&&!decide (1000000000000<F3 s))))
def VN(s:List UInt8):Int×Bool:=if fu s=true then((F3 s:Int),true)else(0,false)
theorem u8w{n:Int}(h0:0≤n)(h1:n<256):IntKind.u8.wrap n=n:=by
 unfold IntKind.wrap;simp only[show IntKind.u8.bits=8 from rfl,show IntKind.u8.signed=false from rfl];simp;omega
theorem uf(s:List UInt8)(i:Nat)(h:i<s.length)(ha:(s.take i).all dgB=true):(s.take (i+1)).all dgB=dgB s[i]:=by
 rw[List.take_succ_eq_append_getElem h,List.all_append,ha];simp
theorem oJ(s:List UInt8)(i:Nat)(h:i<s.length):F3 (s.take (i+1))=10*F3 (s.take i)+(s[i].toNat-48):=by
 rw[List.take_succ_eq_append_getElem h,RN]
theorem su(s:List UInt8)(hl:s.length≤13){step:(Int×Int)→Option ((Int×Int)⊕(Fl (Int×Bool) Int))}
  (h1:∀(a:Int) (i:Nat) (h:i<s.length),0≤a→a<10000000000000→step (a,(i:Int))=some (bif dgB s[i]then .inl (10*a+((s[i].toNat:Nat):Int)-48,((i+1:Nat):Int))else .inr (.ret (0,false))))
  (h2:∀a,step (a,(s.length:Int))=some (.inr (.brk a))) :
  run step (0,0)=some (bif s.all dgB then .brk (F3 s:Int)else .ret (0,false)):=by
 have key:∀(m i:Nat),i+m=s.length→(s.take i).all dgB=true→run step ((F3 (s.take i):Int),(i:Int))=some (bif s.all dgB then .brk (F3 s:Int)else .ret (0,false)):=by
  intro m
  induction m with
  |zero =>
   intro i hi ha;have e:i=s.length:=by omega
   subst e;rw[List.take_length]at ha ⊢;rw[rR (h2 _),ha];rfl
  |succ m ih =>
   intro i hi ha;have hlt:i<s.length:=by omega
   have hb:=bW i (s.take i) (by simp;omega) ha
   have hb2:10^i≤10^13:=Nat.pow_le_pow_right (by omega) (by omega)
   have hs:=h1 (F3 (s.take i)) i hlt (by omega) (by omega)
   cases hd:dgB s[i]with
   |false =>
    rw[hd,Qb]at hs;rw[rR hs];have:s.all dgB=false:=by
     rw[Bool.eq_false_iff];intro h;rw[List.all_eq_true]at h;have:=h _ (List.getElem_mem hlt);rw[hd]at this;cases this
    rw[this];rfl
   |true =>
    rw[hd,Qc]at hs;have hd':=hd;unfold dgB at hd';simp only[Bool.and_eq_true,decide_eq_true_eq]at hd';have ht:=ih (i+1) (by omega) (by rw[uf s i hlt ha,hd])
    rw[oJ s i hlt]at ht;rw[rI hs,←ht];congr 2;omega
 simpa[F3]using key s.length 0 (by omega) (by simp)
theorem xD{s:List UInt8}(h:1<s.length):decide (((gt s 0).toNat:Int)=48)=decide (s.head?=some 48):=by
 cases s with
 |nil=>simp at h
 |cons x t =>
  apply decide_eq_decide.2;show(x.toNat:Int)=48↔some x=some 48;constructor
  ·intro e;rw[UInt8.toNat_inj.1 (show x.toNat=(48:UInt8).toNat by have:(48:UInt8).toNat=48:=rfl;omega)]
  ·intro e;injection e with e;rw[e];rfl
theorem Se(s:List UInt8):ZB s=some (VN s):=by
 unfold ZB VN fu;rw[Q5];by_cases h0:s.length=0
 ·simp[h0]
 by_cases h13:13<s.length
 ·simp[h13,Qf (show(13:Int)<(s.length:Int)by omega)]
 have hrun:=su s (by omega) (step:=AO s (ln s)) (λa i hi ha0 ha=>by
   have hx:(s[i].toNat:Int)<256:=by have:=s[i].toNat_lt;omega
   simp only[AO,Qy hi,Qs hi,QC hi,Qc,Qn,Qa,QM (show(i:Int)<9223372036854775807 by omega),dgB]
   by_cases c1:48≤s[i].toNat
   ·by_cases c2:s[i].toNat≤57
    ·rw[Qe (show ¬(s[i].toNat:Int)<48 by omega),Qe (show ¬(57:Int)<(s[i].toNat:Int)by omega),Qf c1,Qf c2,u8w (by omega) (by omega),VA (n:=10*a) (by omega) (by omega),VA (n:=(s[i].toNat:Int)-48) (by omega) (by omega),VA (by omega) (by omega)]
     simp only[Bool.or_self,Qb,Bool.and_self,Qc];rw[show 10*a+((s[i].toNat:Int)-48)=10*a+(s[i].toNat:Int)-48 by omega]
    ·rw[Qf (show(57:Int)<(s[i].toNat:Int)by omega),Qe c2]
     simp
   ·rw[Qf (show(s[i].toNat:Int)<48 by omega),Qe c1]
    simp) (λa=>by simp only[AO,QP (Qg _),Qb])
 rw[Q5]at hrun;rw[hrun,Qe (show ¬((s.length:Nat):Int)=0 by omega),Qe (show ¬(13:Int)<(s.length:Int)by omega),Qe h0,Qe h13]
 simp only[Qb,Qi,Bool.true_and];have hz:∀z:Bool,(bif decide ((1:Int)<(s.length:Int))then nd (inb s 0)<|some (decide (((gt s 0).toNat:Int)=48))else some false)=some (decide (1<s.length)&&decide (s.head?=some 48)):=λ_=>by
  by_cases h1:1<s.length
  ·rw[Qf (show(1:Int)<(s.length:Int)by omega),Qf h1,Qc,show inb s 0=true from Qs (i:=0) (by omega),show ∀q:Option Bool,(nd true<|q)=q from λ_=>rfl,xD h1,Bool.true_and]
  ·rw[Qe (show ¬(1:Int)<(s.length:Int)by omega),Qe h1];rfl
 rw[hz true];cases (decide (1<s.length)&&decide (s.head?=some 48))with
 |true=>simp
 |false =>
  cases s.all dgB with
  |false=>simp[evO]
  |true =>
   simp only[Qa,Qb,Qc,evO,Qi,Bool.true_and];by_cases hn:1000000000000<F3 s
   ·rw[Qf (show(1000000000000:Int)<(F3 s:Int)by omega),Qf hn];rfl
   ·rw[Qe (show ¬(1000000000000:Int)<(F3 s:Int)by omega),Qe hn];rfl
theorem xF(s:List UInt8):0≤(VN s).1∧(VN s).1≤1000000000000:=by
 unfold VN
 split
 ·rename_i h
  unfold fu at h;simp only[Bool.and_eq_true,Bool.not_eq_true',decide_eq_false_iff_not]at h;constructor
  ·simp
  ·have:=h.2.2.2.2;simp only;omega
 ·simp
theorem Lq(s:List UInt8):i64 (VN s).1:=by have:=xF s;unfold i64;omega
theorem jy{s:List UInt8}(h:(VN s).2=true):s.length≤13∧s≠[]∧s.all dgB=true∧Lib.itoa (VN s).1=s:=by
 unfold VN at h ⊢
 split at h
 ·rename_i hn
  rw[if_pos hn];unfold fu at hn;simp only[Bool.and_eq_true,Bool.not_eq_true',decide_eq_false_iff_not,Bool.and_eq_false_iff]at hn;obtain⟨h1,h2,h3,h4,h5⟩:=hn;refine⟨by omega,λe=>h1 (by simp[e]),h4,?_⟩
  have h6:=(Hq (s.length-1) s (by omega) h4 (h3.elim (λh3=>.inl (by omega)) .inr)).1
  unfold Lib.itoa;rw[if_neg (by simp),Int.toNat_natCast]
  exact h6
 ·cases h
theorem wb{s:List UInt8}{b:UInt8}(hb:b∈s)(hd:dgB b=false):(VN s).2=false:=by
 rw[Bool.eq_false_iff];intro h;have:=List.all_eq_true.1 (jy h).2.2.1 b hb;rw[hd]at this;cases this
def KA(l:List Int):List UInt8:=if l=[]then[45]else Lib.join (l.map Lib.itoa) [44]
theorem QlM(c:UInt8)(L:List (List UInt8))(hL:KB L):strings_Join L [c]=some (Lib.join L [c]):=by
 have hb:=O1 [c] rfl L hL.2;have hl:=hL.1;unfold strings_Join;rw[Qf (by omega),Qf (by omega)];rfl
theorem U3(l:List Int)(hl:l.length≤1048576)(hx:∀x∈l,i64 x):KB (l.map Lib.itoa):=IC hl λx h=>Nat.le_trans (Vf x (hx x h)) (by omega)
theorem zz{α:Type}{l:List α}(h:l≠[]):decide (ln l=0)=false:=by
 have:0<l.length:=List.length_pos_iff.2 h;exact Qe (by rw[Q5];omega)
theorem rB(l:List Int)(hl:l.length≤1048576)(hx:∀x∈l,i64 x):DK l=some (KA l):=by
 unfold DK KA;by_cases h0:l=[]
 ·subst h0;rfl
 have hi:=Ay l Lib.itoa (step:=A4 l (ln l)) (λi out hi ho=>by
   simp only[A4,Qy hi,Qs hi,QC hi,QM (show(i:Int)<9223372036854775807 by omega),Vp (show out.length+1≤2000000 by omega) (show 16≤1024 by omega),Qc,Qn,Aj _ (hx _ (List.getElem_mem hi)),Qa])
  (λout=>by simp only[A4,QP (Qg _),Qb])
 rw[if_neg h0,zz h0,Qb,hi,Qa,QlM 44 _ (U3 l hl hx)];rfl
theorem L9(l:List Int)(hx:∀x∈l,i64 x):(KA l).length≤l.length*201+1:=by
 unfold KA
 split
 ·simp
 ·have:=O1 [44] rfl (l.map Lib.itoa) (λy hy=>by
   obtain⟨x,h,rfl⟩:=List.mem_map.1 hy;exact Nat.le_trans (Vf x (hx x h)) (by omega))
  rw[List.length_map]at this;omega
def OI(a b:Int):List UInt8:=Lib.itoa a++[45]++Lib.itoa b
theorem sw(a b:Int)(ha:i64 a)(hb:i64 b):DC a b=some (OI a b):=by
 have h1:=Vf a ha;have h2:=Vf b hb;unfold DC OI;rw[Aj a ha,Aj b hb];simp only[Qa,BO (x:=Lib.itoa a) (y:=[45]) (by omega) (by simp),BO (x:=Lib.itoa a++[45]) (y:=Lib.itoa b) (by simp;omega) (by omega),Qn,Qr]
theorem Yy(a b:Int)(ha:i64 a)(hb:i64 b):(OI a b).length≤43:=by
 have h1:=Vf a ha;have h2:=Vf b hb;unfold OI;simp;omega
def dq(r:Report):List UInt8:=Lib.itoa r.Id++[32]++kT r.Kind++[32]++KA r.Colours++[32]++OI r.SizeLow r.SizeHigh++[32]++KA r.Places++[32]++OI r.Span.From r.Span.Until
def okR(r:Report):Prop:=(r.Colours.length≤1300∧r.Places.length≤1300)∧(∀x∈r.Colours,i64 x)∧(∀x∈r.Places,i64 x)∧i64 r.Id∧i64 r.SizeLow∧i64 r.SizeHigh∧i64 r.Span.From∧i64 r.Span.Until
theorem QjV(r:Report)(h:okR r)(b:Bool)(hb:JE r=some b):Dl r=some (if b=true then dq r else[]):=by
 obtain⟨⟨l1,l2⟩,h1,h2,h3,h4,h5,h6,h7⟩:=h;unfold Dl;rw[hb];cases b with
 |false=>rfl
 |true =>
  simp only[Qa,Qh,Qb,Aj _ h3,iG,rB _ (show r.Colours.length≤1048576 by omega) h1,rB _ (show r.Places.length≤1048576 by omega) h2,sw _ _ h4 h5,sw _ _ h6 h7]
  have q1:=Vf _ h3;have q2:=pV r.Kind;have q3:=L9 _ h1;have q4:=L9 _ h2;have q5:=Yy _ _ h4 h5;have q6:=Yy _ _ h6 h7;unfold strings_Join;have hlen:(Lib.join [Lib.itoa r.Id,kT r.Kind,KA r.Colours,OI r.SizeLow r.SizeHigh,KA r.Places,OI r.Span.From r.Span.Until] [32]).length≤140737488355328:=by
   simp[Lib.join,Lib.joinTail];omega
  rw[Qf hlen];simp[Lib.join,Lib.joinTail,dq,Qn]
end Go.Proofs.YtoilkmgiofimjaaGreatDoor
