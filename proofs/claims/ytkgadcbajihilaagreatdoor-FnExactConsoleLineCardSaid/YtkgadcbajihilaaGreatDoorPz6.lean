import Derived.Test.YtkgadcbajihilaaGreatDoorPz5
import Derived.Lib.ItoaLen
set_option linter.unusedVariables false
set_option linter.unusedSimpArgs false
set_option linter.defProp false
noncomputable section
namespace Go.Proofs.YtkgadcbajihilaaGreatDoor
open Go
def Q(a:Ql)(r:Ql×Bool):Prop:=(r.2=true→VV a=some true∧VV r.1=some true)∧(r.2=false→r.1=a)
def Qd(a:Ql)(x:Option (Ql×Bool)):Prop:=∀r,x=some r→Q a r
def Qd.bind{A:Type}{a:Ql}{o:Option A}{k:A→Option (Ql×Bool)}(h:∀y,Qd a (k y)):Qd a (o.bind k):=λr hr=>by
 obtain⟨y,_,hy⟩:=Option.bind_eq_some_iff.1 hr;exact h y r hy
def Qd.cond{a:Ql}{b:Bool}{x y:Option (Ql×Bool)}(hx:Qd a x)(hy:Qd a y):Qd a (bif b then x else y):=by
 cases b with
 |true=>exact hx
 |false=>exact hy
def Qd.nd{a:Ql}{b:Bool}{x:Option (Ql×Bool)}(hx:Qd a x):Qd a (nd b<|x):=by
 cases b with
 |true=>exact hx
 |false=>intro r hr;cases hr
def Qd.none{a:Ql}:Qd a none:=λr hr=>by cases hr
def Qd.self{a:Ql}:Qd a (some (a,false)):=λr hr=>by
 injection hr with hr;subst hr
 exact⟨λh=>(by cases h),λ_=>rfl⟩
def Qd.done{a o:Ql}{o2:Bool}(hm:QX a):Qd a ((Vj a o o2).bind λr=>some (r.1,r.2)):=λr hr=>by
 obtain⟨y,hy,e⟩:=Option.bind_eq_some_iff.1 hr;injection e with e;subst e
 unfold Vj at hy;obtain⟨b,hb,hy⟩:=Option.bind_eq_some_iff.1 hy;cases b with
 |true =>
  rw[Jx a hm]at hy;simp only[Qc,Qa]at hy;injection hy with hy;subst hy
  exact⟨λh=>(by cases h),λ_=>rfl⟩
 |false =>
  simp only[Qb]at hy;injection hy with hy;subst hy
  refine⟨λ_=>?_,λh=>(by cases h)⟩
  cases o2 with
  |false=>cases hb
  |true =>
   simp only[Qh,Qb]at hb;obtain⟨r1,h1,hb⟩:=Option.bind_eq_some_iff.1 hb;cases r1 with
   |false=>cases hb
   |true =>
    simp only[Qh,Qb]at hb;obtain⟨r2,h2,hb⟩:=Option.bind_eq_some_iff.1 hb;cases r2 with
    |false=>cases hb
    |true=>exact⟨h1,h2⟩
def sw(a:Ql)(f:QB)(m:List Mark)(s:Int)(hm:QX a):Qd a (CY a f m s):=by
 unfold CY;simp only[Jx a hm,Qa]
 repeat (first|exact Qd.done hm|exact Qd.self|refine Qd.bind λ_=>?_|refine Qd.nd ?_|refine Qd.cond ?_ ?_|exact Qd.none)
def nU(a:Ql)(x y z:Int)(hm:QX a):Qd a (Ag a x y z):=by
 unfold Ag;simp only[Jx a hm,Qa]
 repeat (first|exact Qd.done hm|exact Qd.self|refine Qd.bind λ_=>?_|refine Qd.nd ?_|refine Qd.cond ?_ ?_|exact Qd.none)
def ja(a:Ql)(x y:Int)(hm:QX a):Qd a (A3 a x y):=by
 unfold A3;simp only[Jx a hm,Qa]
 repeat (first|exact Qd.done hm|exact Qd.self|refine Qd.bind λ_=>?_|refine Qd.nd ?_|refine Qd.cond ?_ ?_|exact Qd.none)
def mF(a:Ql)(x:Int)(hm:QX a):Qd a (BV a x):=by
 unfold BV;simp only[Jx a hm,Qa]
 repeat (first|exact Qd.done hm|exact Qd.self|refine Qd.bind λ_=>?_|refine Qd.nd ?_|refine Qd.cond ?_ ?_|exact Qd.none)
def tr(a:Ql)(x:Int)(l:List Bid)(hm:QX a):Qd a (C0 a x l):=by
 unfold C0;simp only[Jx a hm,Qa]
 repeat (first|exact Qd.done hm|exact Qd.self|refine Qd.bind λ_=>?_|refine Qd.nd ?_|refine Qd.cond ?_ ?_|exact Qd.none)
def mA(a:Ql)(x:Int)(hm:QX a):Qd a (BX a x):=by
 unfold BX;simp only[Jx a hm,Qa]
 repeat (first|exact Qd.done hm|exact Qd.self|refine Qd.bind λ_=>?_|refine Qd.nd ?_|refine Qd.cond ?_ ?_|exact Qd.none)
def tf(a:Ql)(x:Int)(hm:QX a):Qd a (CX a x):=by
 unfold CX;simp only[Jx a hm,Qa]
 repeat (first|exact Qd.done hm|exact Qd.self|refine Qd.bind λ_=>?_|refine Qd.nd ?_|refine Qd.cond ?_ ?_|exact Qd.none)
def yv(l:List Qr)(hl:l.length≤1048576)(h:∀x∈l,x.Qo=0):Fk l=some (ln l):=by
 have h1:=J2 (step:=Zh l) (λi=>((i:Int),(i:Int))) (r:=(l.length:Int)) l.length (λi hi=>by
   have h0:decide (l[i].Qo=0)=true:=Qf (h _ (List.getElem_mem hi));simp only[Zh,Q0 hi,QP hi,Q3 hi,h0,Qc,QL,Vg (show(i:Int)<9223372036854775807 by omega)])
  (by simp only[Zh,Q6 (Qg _),Qb])
 unfold Fk;rw[show run (Zh l) (0,0)=_ from h1];rfl
def sk(h:Ql)(m3:h.Qs.length≤1048576)(hf:h.Qt=[])(hk:Bf h=some true):∀x∈h.Qs,x.Qo=0:=by
 unfold Bf at hk;cases hd:(!decide (ln h.Qn=ln h.Qt))with
 |true=>rw[hd]at hk;cases hk
 |false =>
 rw[hd,Qb]at hk;cases hr:D8 h.Qw h.No with
 |none=>rw[hr]at hk;cases hk
 |some r =>
 rw[hr]at hk;simp only[Qa]at hk;cases h5:run (Zv h r h.Qt (ln h.Qt)) 0 with
 |none=>rw[h5]at hk;cases hk
 |some o =>
 rw[h5]at hk;cases o with
 |ret b =>
  exfalso;rw[hf]at h5;rw[Vk]at h5;have:decide ((0:Int)<ln ([]:List QB))=false:=by decide
  simp only[Zv,this,Qb,Qa]at h5;cases h5
 |brk u =>
 simp only[Qa,J1]at hk;have m1:h.Qt.length≤1048576:=by rw[hf];simp
 have t3:=Ir h.Qs (λx=>decide (x.Qo=0)||!decide (XG h.Qt x.Qo<0)) (r:=false) (step:=Jb h r h.Qs (ln h.Qs))
  (λi hi=>by
   simp only[Jb,Q0 hi,QP hi,Q3 hi,Vg (show(i:Int)<9223372036854775807 by omega),Qc,QL,(XX h.Qt _ m1).2,Qa]
   cases decide (h.Qs[i].Qo=0)<;>cases decide (XG h.Qt h.Qs[i].Qo<0)<;>rfl)
  (by simp only[Jb,Q6 (Qg _),Qb])
 rw[t3]at hk;cases ha:h.Qs.all (λx=>decide (x.Qo=0)||!decide (XG h.Qt x.Qo<0))with
 |false=>rw[ha]at hk;cases hk
 |true =>
  intro x hx;have:=List.all_eq_true.1 ha x hx;rw[hf]at this;simpa[XG]using this
def wI(no:Int)(l:List Qr)(hl:l.length≤1048576):∃r,Aa no l=some r∧EH no l=some r∧QX r.1:=by
 have hm:QX ⟨no,[],[],l,[],[],[],[],0⟩:=⟨by simp,⟨by simp,by simp⟩,hl,by simp,by simp,by simp,by simp⟩
 have h0:QX ⟨0,[],[],[],[],[],[],[],0⟩:=⟨by simp,⟨by simp,by simp⟩,by simp,by simp,by simp,by simp,by simp⟩
 obtain⟨b,b1,b2⟩:=gW _ hm;unfold Aa EH XF;simp only[Jx _ hm,VU (show 0+l.length≤2000000 by omega) (show 24≤1024 by omega),QL,Qa,b1,b2]
 cases b with
 |false=>exact⟨_,rfl,rfl,h0⟩
 |true =>
  have hk:=(p9 _ hm b2).kept;have hfree:=yv l hl (sk _ hl rfl hk);simp only[hfree,Qh,Qb,Qa,decide_true];exact⟨_,rfl,rfl,hm⟩
def G6:List UInt8:=[119,104,97,116]
def tNo:List UInt8:=[110,111]
def tOk:List UInt8:=[111,107]
def QcU:List UInt8:=[110,101,119]
def iQ:List UInt8:=[115,101,114,118,101]
def iX:List UInt8:=[99,108,101,97,114]
def qG:List UInt8:=[116,105,99,107]
def Ml:List UInt8:=[97,110,115,119,101,114]
def UY:List UInt8:=[99,108,97,105,109]
def fN:List UInt8:=[115,101,108,108]
def B0:List UInt8:=[109,97,116,99,104]
def Xa:List UInt8:=[102,105,110,100]
def A0:List (List UInt8):=[QbJ,iL,YY,il,iD]
def A1:List (List UInt8):=[QcU,iQ,iX,qG,mT,aS,db,NR]
def lw(w:List UInt8):Int:=if w∈A0 then 0 else if w∈A1 then 1 else if w=Ml then 2 else if w=UY∨w=fN then 3 else if w=B0 then 6 else if w=Xa then 10 else -1
def Qop(w:List UInt8):KI w=some (lw w):=by
 by_cases h0:w∈A0
 ·simp only[A0,List.mem_cons,List.not_mem_nil,or_false]at h0
  rcases h0 with rfl|rfl|rfl|rfl|rfl<;>rfl
 by_cases h1:w∈A1
 ·simp only[A1,List.mem_cons,List.not_mem_nil,or_false]at h1
  rcases h1 with rfl|rfl|rfl|rfl|rfl|rfl|rfl|rfl<;>rfl
 by_cases h2:w=Ml
 ·subst h2;rfl
 by_cases h3:w=UY
 ·subst h3;rfl
 by_cases h4:w=fN
 ·subst h4;rfl
 by_cases h6:w=B0
 ·subst h6;rfl
 by_cases h10:w=Xa
 ·subst h10;rfl
 have e:lw w=-1:=by
  unfold lw;rw[if_neg h0,if_neg h1,if_neg h2,if_neg (by rintro(h|h);exact h3 h;exact h4 h),if_neg h6,if_neg h10]
 rw[e];simp only[A0,A1,List.mem_cons,List.not_mem_nil,or_false,not_or]at h0 h1;obtain⟨a1,a2,a3,a4,a5⟩:=h0;obtain⟨b1,b2,b3,b4,b5,b6,b7,b8⟩:=h1;unfold QbJ at a1;unfold iL at a2;unfold YY at a3;unfold il at a4;unfold iD at a5;unfold QcU at b1;unfold iQ at b2;unfold iX at b3;unfold qG at b4;unfold mT at b5;unfold aS at b6;unfold db at b7;unfold NR at b8;unfold Ml at h2;unfold UY at h3;unfold fN at h4;unfold B0 at h6;unfold Xa at h10;unfold KI;simp only[Qe a1,Qe a2,Qe a3,Qe a4,Qe a5,Qe b1,Qe b2,Qe b3,Qe b4,Qe b5,Qe b6,Qe b7,Qe b8,Qe h2,Qe h3,Qe h4,Qe h6,Qe h10,Qb]
def WO(a:Ql)(w:List UInt8)(n:List Int):Option (Ql×List UInt8):=(D4 a w n).bind (J1 (λr12=>bif !r12.2.2 then(Ve a).bind λr13=>(De a w n).bind λr14=>some (r13,r14)else(bif !r12.2.1 then(Ve a).bind λr15=>some (r15,[110,111])else some (r12.1,[111,107]))) λq=>(Ve a).bind λr16=>(De a w n).bind λr17=>some (r16,r17))
def PJ(a:Ql)(w:List UInt8)(n:List Int):Option (Ql×List UInt8):=bif (decide (w=[110,101,119]))&&(decide (ln n=1))then nd (Q1 n 0)<|spec_ExampleSlots.bind λr11=>(Aa (gt n 0) r11).bind λr12=>(Z5 a r12.1 r12.2).bind λr13=>some (r13.1,r13.2)else(XM w n).bind λr14=>(bif decide (0<r14.Kind)then(AY a r14).bind λr15=>(Z5 a r15.1 r15.2).bind λr16=>some (r16.1,r16.2)else(bif decide (ln n=0)then(Vm a).bind λr17=>(J4 a w).bind λr18=>some (r17,r18)else(bif decide (ln n=1)then nd (Q1 n 0)<|(Vm a).bind λr19=>(Zu a w (gt n 0)).bind λr20=>some (r19,r20)else(Vm a).bind λr21=>some (r21,[119,104,97,116]))))
def U9(a:Ql)(r:Ql×Bool):Ql×List UInt8:=bif r.2 then(r.1,tOk)else(a,tNo)
def Kp(a x:Ql):Prop:=QX x∧(x=a∨VV x=some true)
def He(a:Ql)(w:List UInt8)(n:List Int)(hm:QX a)(r:Ql×Bool)(h:D4 a w n=some (.ret (r.1,r.2,true))):WO a w n=some (U9 a r):=by
 obtain⟨x,b⟩:=r;unfold WO;rw[h];cases b with
 |true=>rfl
 |false =>
  show(Ve a).bind _=_;rw[X3 a hm];rfl
def eF(a:Ql)(w:List UInt8)(n:List Int)(hm:QX a)(s:List UInt8)(h:D4 a w n=some (.brk ()))(hs:De a w n=some s):WO a w n=some (a,s):=by
 unfold WO;rw[h];show(Ve a).bind _=_;rw[X3 a hm,Qa,hs];rfl
def Rn(a:Ql)(hm:QX a)(r:Ql×Bool):((Z5 a r.1 r.2).bind λr=>some (r.1,r.2))=some (U9 a r):=by
 obtain⟨x,b⟩:=r;unfold Z5;cases b with
 |true=>rfl
 |false =>
  show((Vm a).bind _).bind _=_;rw[Jx a hm];rfl
def KV{a:Ql}{r:Ql×Bool}(hm:QX a)(h1:QX r.1)(h2:r.2=true→VV r.1=some true):Kp a (U9 a r).1:=by
 obtain⟨x,b⟩:=r;cases b with
 |true=>exact⟨h1,.inr (h2 rfl)⟩
 |false=>exact⟨hm,.inl rfl⟩
def Hd(a:Ql)(w:List UInt8)(n:List Int)(e:Event)(hm:QX a)(hw:((decide (w=[110,101,119]))&&(decide (ln n=1)))=false)(he:XM w n=some e)(hk:0<e.Kind)(r:Ql×Bool)(ha:AY a e=some r):PJ a w n=some (U9 a r):=by
 unfold PJ;rw[hw,Qb,he,Qa,Qf hk,Qc,ha];show((Z5 a r.1 r.2).bind λr=>some (r.1,r.2))=_
 exact Rn a hm r
def GZ{o:Option (Ql×Bool)}{r:Ql×Bool}(h:o=some r):(o.bind λr=>some (r.1,r.2))=some r:=by rw[h];rfl
def noEv:Event:=⟨0,⟨⟨0,0,0,0,0⟩,0,0,0⟩,[],0,0,0,[]⟩
def Ms(a:Ql)(w:List UInt8)(n:List Int)(hm:QX a)(hw:((decide (w=[110,101,119]))&&(decide (ln n=1)))=false)(he:XM w n=some noEv):PJ a w n=(bif decide (ln n=0)then(J4 a w).bind λr18=>some (a,r18)else(bif decide (ln n=1)then nd (Q1 n 0)<|(Zu a w (gt n 0)).bind λr20=>some (a,r20)else some (a,G6))):=by
 unfold PJ;rw[hw,Qb,he,Qa];simp only[Jx a hm,Qa,show decide (0<noEv.Kind)=false from rfl,Qb];rfl
def Qvs(no:Int)(l:List Qr){r:Ql×Bool}(h:Aa no l=some r)(h2:r.2=true):VV r.1=some true:=by
 unfold Aa at h;obtain⟨q,_,h⟩:=Option.bind_eq_some_iff.1 h;obtain⟨b,hb,h⟩:=Option.bind_eq_some_iff.1 h;cases b with
 |true=>injection h with h;subst h;cases h2
 |false =>
  injection h with h;subst h
  obtain⟨v,hv,hb⟩:=Option.bind_eq_some_iff.1 hb;cases v with
  |true=>exact hv
  |false=>cases hb
def Qvh(a:Ql)(w:List UInt8)(n:List Int)(hm:QX a)(hk:Lk a)(h:lw w=ln n)(h6:w≠B0)(h10:w≠Xa):∃r,WO a w n=some r∧PJ a w n=some r∧Kp a r.1:=by
 have hself:Kp a a:=⟨hm,.inl rfl⟩;by_cases h0:w∈A0
 ·have hn:n=[]:=by
   unfold lw at h;rw[if_pos h0,Vp]at h;exact List.length_eq_zero_iff.1 (by omega)
  subst hn;obtain⟨s,s1,s2⟩:=Qao a w hm hk h0;refine⟨(a,s),?_,?_,hself⟩
  ·refine eF a w [] hm s ?_ s2
   simp only[A0,List.mem_cons,List.not_mem_nil,or_false]at h0
   rcases h0 with rfl|rfl|rfl|rfl|rfl<;>rfl
  ·rw[Ms a w [] hm (by simp[ln]) (by simp[XM,ln];rfl)]
   show(J4 a w).bind _=_;rw[s1];rfl
 by_cases h1:w∈A1
 ·have hn:n.length=1:=by
   unfold lw at h;rw[if_neg h0,if_pos h1,Vp]at h;omega
  obtain⟨x,rfl⟩:=List.length_eq_one_iff.1 hn;by_cases hw:w∈[mT,aS,db,NR]
  ·obtain⟨s,s1,s2⟩:=Qcp a w x hm hk hw
   refine⟨(a,s),?_,?_,hself⟩
   ·refine eF a w [x] hm s ?_ s2
    simp only[List.mem_cons,List.not_mem_nil,or_false]at hw
    rcases hw with rfl|rfl|rfl|rfl<;>rfl
   ·rw[Ms a w [x] hm (by simp only[List.mem_cons,List.not_mem_nil,or_false]at hw;rcases hw with rfl|rfl|rfl|rfl<;>rfl) (by simp only[List.mem_cons,List.not_mem_nil,or_false]at hw;rcases hw with rfl|rfl|rfl|rfl<;>rfl)]
    show(Zu a w x).bind _=_;rw[s1];rfl
  ·have hw':w∈[QcU,iQ,iX,qG]:=by
    simp only[A1,List.mem_cons,List.not_mem_nil,or_false]at h1 hw ⊢
    rcases h1 with h|h|h|h|h|h|h|h<;>simp_all
   simp only[List.mem_cons,List.not_mem_nil,or_false]at hw'
   rcases hw' with rfl|rfl|rfl|rfl
   ·obtain⟨r,r1,r2,r3⟩:=wI x [(⟨1,5,0⟩:Qr),(⟨2,10,0⟩:Qr),(⟨3,20,0⟩:Qr),(⟨4,50,0⟩:Qr)] (by simp)
    refine⟨U9 a r,He a _ _ hm r ?_,?_,KV hm r3 (Qvs _ _ r1)⟩
    ·show(EH x _).bind _=_
     rw[r2];rfl
    ·show(Aa x _).bind _=_
     rw[r1,Qa];exact Rn a hm r
   ·obtain⟨r,r1,r2,r3⟩:=tO a x hm
    refine⟨U9 a r,He a _ _ hm r ?_,Hd a _ _ ⟨4,⟨⟨0,0,0,0,0⟩,0,0,0⟩,[],0,0,x,[]⟩ hm rfl rfl (by simp only;omega) r (GZ r1),KV hm r3 λh=>((mF a x hm _ r1).1 h).2⟩
    show(Do a x).bind _=_;rw[r2];rfl
   ·obtain⟨r,r1,r2,r3⟩:=se a x hm
    refine⟨U9 a r,He a _ _ hm r ?_,Hd a _ _ ⟨6,⟨⟨0,0,0,0,0⟩,0,0,0⟩,[],0,0,x,[]⟩ hm rfl rfl (by simp only;omega) r (GZ r1),KV hm r3 λh=>((mA a x hm _ r1).1 h).2⟩
    show(Dx a x).bind _=_;rw[r2];rfl
   ·obtain⟨r,r1,r2,r3⟩:=xf a x hm
    refine⟨U9 a r,He a _ _ hm r ?_,Hd a _ _ ⟨7,⟨⟨0,0,0,0,0⟩,0,0,0⟩,[],0,0,x,[]⟩ hm rfl rfl (by simp only;omega) r (GZ r1),KV hm r3 λh=>((tf a x hm _ r1).1 h).2⟩
    show(EE a x).bind _=_;rw[r2];rfl
 by_cases h2:w=Ml
 ·subst h2
  have hn:n.length=2:=by rw[show lw Ml=2 from rfl,Vp]at h;omega
  obtain⟨x,y,rfl⟩:∃x y,n=[x,y]:=by
   match n,hn with
   |[x,y],_=>exact⟨x,y,rfl⟩
  obtain⟨r,r1,r2,r3⟩:=ng a x y hm;refine⟨U9 a r,He a _ _ hm r ?_,Hd a _ _ ⟨3,⟨⟨0,0,0,0,0⟩,0,0,0⟩,[],x,0,y,[]⟩ hm rfl rfl (by simp only;omega) r (GZ r1),KV hm r3 λh=>((ja a x y hm _ r1).1 h).2⟩
  show(Cn a x y).bind _=_;rw[r2];rfl
 by_cases h3:w=UY∨w=fN
 ·have hn:n.length=3:=by
   unfold lw at h;rw[if_neg h0,if_neg h1,if_neg h2,if_pos h3,Vp]at h;omega
  obtain⟨x,y,z,rfl⟩:∃x y z,n=[x,y,z]:=by
   match n,hn with
   |[x,y,z],_=>exact⟨x,y,z,rfl⟩
  rcases h3 with rfl|rfl
  ·obtain⟨r,r1,r2,r3⟩:=tP a x y z hm
   refine⟨U9 a r,He a _ _ hm r ?_,Hd a _ _ ⟨2,⟨⟨0,0,0,0,0⟩,0,0,0⟩,[],x,y,z,[]⟩ hm rfl rfl (by simp only;omega) r (GZ r1),KV hm r3 λh=>((nU a x y z hm _ r1).1 h).2⟩
   show(Dd a x y z).bind _=_;rw[r2];rfl
  ·obtain⟨r,r1,r2,r3⟩:=yN a x [(⟨101,y,0⟩:Bid),(⟨102,z,0⟩:Bid)] hm (by simp)
   refine⟨U9 a r,He a _ _ hm r ?_,Hd a _ _ ⟨5,⟨⟨0,0,0,0,0⟩,0,0,0⟩,[],0,0,x,[(⟨101,y,0⟩:Bid),(⟨102,z,0⟩:Bid)]⟩ hm rfl rfl (by simp only;omega) r (GZ r1),KV hm r3 λh=>((tr a x _ hm _ r1).1 h).2⟩
   show(EY a x [(⟨101,y,0⟩:Bid),(⟨102,z,0⟩:Bid)]).bind _=_;rw[r2];rfl
 exfalso;unfold lw at h;rw[if_neg h0,if_neg h1,if_neg h2,if_neg h3,if_neg h6,if_neg h10,Vp]at h;omega
def tE(a:Ql)(w:List UInt8)(n:List Int)(hm:QX a)(h:lw w≠ln n):PJ a w n=some (a,G6):=by
 have key:((decide (w=[110,101,119]))&&(decide (ln n=1)))=false∧XM w n=some noEv∧(ln n=0→J4 a w=some G6)∧(ln n=1→∀x,Zu a w x=some G6):=by
  by_cases z0:ln n=0
  ·have hw:w∉A0:=λhw=>h (by unfold lw;rw[if_pos hw];exact z0.symm)
   simp only[A0,List.mem_cons,List.not_mem_nil,or_false,not_or]at hw;obtain⟨a1,a2,a3,a4,a5⟩:=hw;unfold QbJ at a1;unfold iL at a2;unfold YY at a3;unfold il at a4;unfold iD at a5;refine⟨by rw[z0];simp,by unfold XM;rw[z0];rfl,λ_=>?_,λq=>by omega⟩
   unfold J4;simp only[Qe a1,Qe a2,Qe a3,Qe a4,Qe a5,Qb];rfl
  by_cases z1:ln n=1
  ·have hw:w∉A1:=λhw=>h (by
    unfold lw;have:w∉A0:=by
     simp only[A1,List.mem_cons,List.not_mem_nil,or_false]at hw
     rcases hw with rfl|rfl|rfl|rfl|rfl|rfl|rfl|rfl<;>decide
    rw[if_neg this,if_pos hw];exact z1.symm)
   simp only[A1,List.mem_cons,List.not_mem_nil,or_false,not_or]at hw;obtain⟨b1,b2,b3,b4,b5,b6,b7,b8⟩:=hw;unfold QcU at b1;unfold iQ at b2;unfold iX at b3;unfold qG at b4;unfold mT at b5;unfold aS at b6;unfold db at b7;unfold NR at b8;refine⟨by rw[Qe b1];rfl,?_,λq=>by omega,λ_ x=>?_⟩
   ·unfold XM
    rw[z1,Qe b2,Qe b3,Qe b4];rfl
   ·unfold Zu
    simp only[Qe b5,Qe b6,Qe b7,Qe b8,Qb];rfl
  have e1:decide (ln n=1)=false:=Qe z1;refine⟨by rw[e1];simp,?_,λq=>absurd q z0,λq=>absurd q z1⟩
  unfold XM;rw[e1];by_cases z2:ln n=2
  ·have hw:¬w=Ml:=λe=>h (by subst e;exact z2.symm)
   unfold Ml at hw;rw[z2,Qe hw];rfl
  by_cases z3:ln n=3
  ·have h4:¬w=UY:=λe=>h (by subst e;exact z3.symm)
   have h5:¬w=fN:=λe=>h (by subst e;exact z3.symm)
   unfold UY at h4;unfold fN at h5;rw[z3,Qe h4,Qe h5];rfl
  rw[Qe z2,Qe z3];rfl
 obtain⟨k1,k2,k3,k4⟩:=key;rw[Ms a w n hm k1 k2];by_cases z0:ln n=0
 ·rw[Qf z0,k3 z0];rfl
 by_cases z1:ln n=1
 ·rw[Qe z0,Qf z1]
  have:Q1 n 0=true:=by rw[C8];rw[Vp]at z1;omega
  rw[this,k4 z1 _];rfl
 ·rw[Qe z0,Qe z1];rfl
def QoK:List (List UInt8):=[[],[98,97,103],[99,111,97,116],[107,101,121,115],[109,111,110,101,121],[112,104,111,110,101],[117,109,98,114,101,108,108,97],[102,111,111,100],[111,116,104,101,114]]
def kT(k:Int):List UInt8:=if 1≤k∧k≤8 then gt QoK k else[]
def zZ(k:Int):(kT k).length≤8:=by
 unfold kT
 split
 ·rename_i h
  rcases(by omega:k=1∨k=2∨k=3∨k=4∨k=5∨k=6∨k=7∨k=8)with rfl|rfl|rfl|rfl|rfl|rfl|rfl|rfl<;>decide
 ·simp
def nl(k:Int):ED k=some (kT k):=by
 unfold ED QO kT;by_cases h:1≤k∧k≤8
 ·rw[if_pos h]
  rcases(by omega:k=1∨k=2∨k=3∨k=4∨k=5∨k=6∨k=7∨k=8)with rfl|rfl|rfl|rfl|rfl|rfl|rfl|rfl<;>rfl
 ·rw[if_neg h]
  have:(decide (1≤k)&&decide (k≤8))=false:=by
   rw[Bool.eq_false_iff];simpa using h
  rw[this];rfl
def QkV(s:List UInt8):∃r,Bq s=some r∧0≤r∧r≤8:=by
 have key:∀(m:Nat) (k:Int),k+(m:Int)=9→1≤k→(∃j,run (Jq s) k=some (.ret j)∧1≤j∧j≤8)∨run (Jq s) k=some (.brk ()):=by
  intro m
  induction m with
  |zero =>
   intro k hk h1;right;exact rR (by simp only[Jq,Qe (show ¬k≤8 by omega),Qb])
  |succ m ih =>
   intro k hk h1;have hs:Jq s k=(bif decide (kT k=s)then some (.inr (.ret k))else some (.inl (k+1))):=by
    simp only[Jq,Qf (show k≤8 by omega),Qc,nl,Qa,VD (n:=k+1) (by omega) (by omega)]
   by_cases hc:kT k=s
   ·rw[Qf hc]at hs
    exact .inl ⟨k,rR hs,h1,by omega⟩
   ·rw[Qe hc]at hs
    rw[rI hs];exact ih (k+1) (by omega) (by omega)
 unfold Bq
 rcases key 8 1 (by omega) (by omega)with⟨j,h,h1,h2⟩|h
 ·rw[h];exact⟨j,rfl,by omega,h2⟩
 ·rw[h];exact⟨0,rfl,by omega,by omega⟩
def YR(b:UInt8):Bool:=decide (48≤b.toNat)&&decide (b.toNat≤57)
def HU(s:List UInt8):Nat:=s.foldl (λn b=>10*n+(b.toNat-48)) 0
def UE(s:List UInt8)(b:UInt8):HU (s++[b])=10*HU s+(b.toNat-48):=by simp[HU]
def ph:∀(s:List UInt8),s≠[]→∃t b,s=t++[b]:=λs h=>by
 rcases List.eq_nil_or_concat s with h'|⟨t,b,h'⟩
 ·exact absurd h' h
 ·exact⟨t,b,by simpa using h'⟩
def gC:∀(n:Nat) (s:List UInt8),s.length=n→s.all YR=true→HU s<10^n
 |0,s,h,_=>by
  obtain rfl:=List.length_eq_zero_iff.1 h;decide
 |n+1,s,h,hd=>by
  obtain⟨t,b,rfl⟩:=ph s (by rintro rfl;cases h)
  rw[List.all_append,Bool.and_eq_true]at hd;have ih:=gC n t (by simpa using h) hd.1
  have hb:=hd.2;simp only[List.all_cons,List.all_nil,Bool.and_true,YR,Bool.and_eq_true,decide_eq_true_eq]at hb;rw[UE,Nat.pow_succ];omega
def WJ(b:UInt8)(h:YR b=true):UInt8.ofNat (48+(b.toNat-48))=b:=by
 unfold YR at h;simp only[Bool.and_eq_true,decide_eq_true_eq]at h;rw[show 48+(b.toNat-48)=b.toNat by omega]
 simp
def Ko:∀(n:Nat) (s:List UInt8),s.length=n+1→s.all YR=true→(n=0∨s.head?≠some 48)→Lib.decDigits (HU s)=s∧(s.head?≠some 48→1≤HU s)
 |n,s,h,hd,hh=>by
  obtain⟨t,b,rfl⟩:=ph s (by rintro rfl;cases h)
  rw[List.all_append,Bool.and_eq_true]at hd;have hb:YR b=true:=by simpa using hd.2
  have hb':=hb;unfold YR at hb';simp only[Bool.and_eq_true,decide_eq_true_eq]at hb';cases n with
  |zero =>
   have ht:t=[]:=List.length_eq_zero_iff.1 (by simpa using h)
   subst ht;have hv:HU ([]++[b])=b.toNat-48:=by simp[HU]
   refine⟨by rw[hv,Lib.decDigits_one (by omega),WJ b hb];rfl,λh8=>?_⟩
   rw[hv];have:b≠48:=λe=>h8 (by simp[e])
   have:b.toNat≠48:=λe=>this (UInt8.toNat_inj.1 e)
   omega
  |succ n =>
   have hl:t.length=n+1:=by simpa using h
   obtain⟨x,t',rfl⟩:=List.exists_cons_of_length_eq_add_one hl;have hx:(x::t').head?≠some 48:=by
    rcases hh with hh|hh
    ·cases hh
    ·simpa using hh
   obtain⟨i1,i2⟩:=Ko n (x::t') hl hd.1 (.inr hx);have i3:=i2 hx;rw[UE];refine⟨?_,λ_=>by omega⟩
   rw[Lib.decDigits,dif_neg (by omega),show(10*HU (x::t')+(b.toNat-48)) / 10=HU (x::t')by omega,i1,show(10*HU (x::t')+(b.toNat-48))%10=b.toNat-48 by omega,WJ b hb]
def ku(s:List UInt8):Bool:=!decide (s.length=0)&&(!decide (13<s.length)&&(!(decide (1<s.length)&&decide (s.head?=some 48))&&(s.all YR&&!decide (1000000000000<HU s))))
def Xe(s:List UInt8):Int×Bool:=if ku s=true then((HU s:Int),true)else(0,false)
def u8w{n:Int}(h0:0≤n)(h1:n<256):IntKind.u8.wrap n=n:=by
 unfold IntKind.wrap;simp only[show IntKind.u8.bits=8 from rfl,show IntKind.u8.signed=false from rfl];simp;omega
def uN(s:List UInt8)(i:Nat)(h:i<s.length)(ha:(s.take i).all YR=true):(s.take (i+1)).all YR=YR s[i]:=by
 rw[List.take_succ_eq_append_getElem h,List.all_append,ha];simp
def rT(s:List UInt8)(i:Nat)(h:i<s.length):HU (s.take (i+1))=10*HU (s.take i)+(s[i].toNat-48):=by
 rw[List.take_succ_eq_append_getElem h,UE]
def Qam(s:List UInt8)(hl:s.length≤13){step:(Int×Int)→Option ((Int×Int)⊕(Fl (Int×Bool) Int))}
  (h1:∀(a:Int) (i:Nat) (h:i<s.length),0≤a→a<10000000000000→step (a,(i:Int))=some (bif YR s[i]then .inl (10*a+((s[i].toNat:Nat):Int)-48,((i+1:Nat):Int))else .inr (.ret (0,false))))
  (h2:∀a,step (a,(s.length:Int))=some (.inr (.brk a))) :
  run step (0,0)=some (bif s.all YR then .brk (HU s:Int)else .ret (0,false)):=by
 have key:∀(m i:Nat),i+m=s.length→(s.take i).all YR=true→run step ((HU (s.take i):Int),(i:Int))=some (bif s.all YR then .brk (HU s:Int)else .ret (0,false)):=by
  intro m
  induction m with
  |zero =>
   intro i hi ha;have e:i=s.length:=by omega
   subst e;rw[List.take_length]at ha ⊢;rw[rR (h2 _),ha];rfl
  |succ m ih =>
   intro i hi ha;have hlt:i<s.length:=by omega
   have hb:=gC i (s.take i) (by simp;omega) ha
   have hb2:10^i≤10^13:=Nat.pow_le_pow_right (by omega) (by omega)
   have hs:=h1 (HU (s.take i)) i hlt (by omega) (by omega)
   cases hd:YR s[i]with
   |false =>
    rw[hd,Qb]at hs;rw[rR hs];have:s.all YR=false:=by
     rw[Bool.eq_false_iff];intro h;rw[List.all_eq_true]at h;have:=h _ (List.getElem_mem hlt);rw[hd]at this;cases this
    rw[this];rfl
   |true =>
    rw[hd,Qc]at hs;have hd':=hd;unfold YR at hd';simp only[Bool.and_eq_true,decide_eq_true_eq]at hd';have ht:=ih (i+1) (by omega) (by rw[uN s i hlt ha,hd])
    rw[rT s i hlt]at ht;rw[rI hs,←ht];congr 2;omega
 simpa[HU]using key s.length 0 (by omega) (by simp)
def Qbp{s:List UInt8}(h:1<s.length):decide (((gt s 0).toNat:Int)=48)=decide (s.head?=some 48):=by
 cases s with
 |nil=>simp at h
 |cons x t =>
  apply decide_eq_decide.2;show(x.toNat:Int)=48↔some x=some 48;constructor
  ·intro e;rw[UInt8.toNat_inj.1 (show x.toNat=(48:UInt8).toNat by have:(48:UInt8).toNat=48:=rfl;omega)]
  ·intro e;injection e with e;rw[e];rfl
def UP(s:List UInt8):Z1 s=some (Xe s):=by
 unfold Z1 Xe ku;rw[Vp];by_cases h0:s.length=0
 ·simp[h0]
 by_cases h13:13<s.length
 ·simp[h13,Qf (show(13:Int)<(s.length:Int)by omega)]
 have hrun:=Qam s (by omega) (step:=BL s (ln s)) (λa i hi ha0 ha=>by
   have hx:(s[i].toNat:Int)<256:=by have:=s[i].toNat_lt;omega
   simp only[BL,Q0 hi,QP hi,Q3 hi,Qc,QL,Qa,Vg (show(i:Int)<9223372036854775807 by omega),YR]
   by_cases c1:48≤s[i].toNat
   ·by_cases c2:s[i].toNat≤57
    ·rw[Qe (show ¬(s[i].toNat:Int)<48 by omega),Qe (show ¬(57:Int)<(s[i].toNat:Int)by omega),Qf c1,Qf c2,u8w (by omega) (by omega),VD (n:=10*a) (by omega) (by omega),VD (n:=(s[i].toNat:Int)-48) (by omega) (by omega),VD (by omega) (by omega)]
     simp only[Bool.or_self,Qb,Bool.and_self,Qc];rw[show 10*a+((s[i].toNat:Int)-48)=10*a+(s[i].toNat:Int)-48 by omega]
    ·rw[Qf (show(57:Int)<(s[i].toNat:Int)by omega),Qe c2]
     simp
   ·rw[Qf (show(s[i].toNat:Int)<48 by omega),Qe c1]
    simp) (λa=>by simp only[BL,Q6 (Qg _),Qb])
 rw[Vp]at hrun;rw[hrun,Qe (show ¬((s.length:Nat):Int)=0 by omega),Qe (show ¬(13:Int)<(s.length:Int)by omega),Qe h0,Qe h13]
 simp only[Qb,Qi,Bool.true_and];have hz:∀z:Bool,(bif decide ((1:Int)<(s.length:Int))then nd (Q1 s 0)<|some (decide (((gt s 0).toNat:Int)=48))else some false)=some (decide (1<s.length)&&decide (s.head?=some 48)):=λ_=>by
  by_cases h1:1<s.length
  ·rw[Qf (show(1:Int)<(s.length:Int)by omega),Qf h1,Qc,show Q1 s 0=true from QP (i:=0) (by omega),show ∀q:Option Bool,(nd true<|q)=q from λ_=>rfl,Qbp h1,Bool.true_and]
  ·rw[Qe (show ¬(1:Int)<(s.length:Int)by omega),Qe h1];rfl
 rw[hz true];cases (decide (1<s.length)&&decide (s.head?=some 48))with
 |true=>simp
 |false =>
  cases s.all YR with
  |false=>simp[J1]
  |true =>
   simp only[Qa,Qb,Qc,J1,Qi,Bool.true_and];by_cases hn:1000000000000<HU s
   ·rw[Qf (show(1000000000000:Int)<(HU s:Int)by omega),Qf hn];rfl
   ·rw[Qe (show ¬(1000000000000:Int)<(HU s:Int)by omega),Qe hn];rfl
def Qdz(s:List UInt8):0≤(Xe s).1∧(Xe s).1≤1000000000000:=by
 unfold Xe
 split
 ·rename_i h
  unfold ku at h;simp only[Bool.and_eq_true,Bool.not_eq_true',decide_eq_false_iff_not]at h;constructor
  ·simp
  ·have:=h.2.2.2.2;simp only;omega
 ·simp
def NW(s:List UInt8):i64 (Xe s).1:=by have:=Qdz s;unfold i64;omega
def pR{s:List UInt8}(h:(Xe s).2=true):s.length≤13∧s≠[]∧s.all YR=true∧Lib.itoa (Xe s).1=s:=by
 unfold Xe at h ⊢
 split at h
 ·rename_i hn
  rw[if_pos hn];unfold ku at hn;simp only[Bool.and_eq_true,Bool.not_eq_true',decide_eq_false_iff_not,Bool.and_eq_false_iff]at hn;obtain⟨h1,h2,h3,h4,h5⟩:=hn;refine⟨by omega,λe=>h1 (by simp[e]),h4,?_⟩
  have h6:=(Ko (s.length-1) s (by omega) h4 (h3.elim (λh3=>.inl (by omega)) .inr)).1
  unfold Lib.itoa;rw[if_neg (by simp),Int.toNat_natCast]
  exact h6
 ·cases h
def Qbx{s:List UInt8}{b:UInt8}(hb:b∈s)(hd:YR b=false):(Xe s).2=false:=by
 rw[Bool.eq_false_iff];intro h;have:=List.all_eq_true.1 (pR h).2.2.1 b hb;rw[hd]at this;cases this
def MI(l:List Int):List UInt8:=if l=[]then[45]else Lib.join (l.map Lib.itoa) [44]
def Qs8(c:UInt8)(L:List (List UInt8))(hL:MW L):strings_Join L [c]=some (Lib.join L [c]):=by
 have hb:=T5 [c] rfl L hL.2;have hl:=hL.1;unfold strings_Join;rw[Qf (by omega),Qf (by omega)];rfl
def ct(l:List Int)(hl:l.length≤1048576)(hx:∀x∈l,i64 x):MW (l.map Lib.itoa):=LC hl λx h=>Nat.le_trans (VN x (hx x h)) (by omega)
def Qfv{α:Type}{l:List α}(h:l≠[]):decide (ln l=0)=false:=by
 have:0<l.length:=List.length_pos_iff.2 h;exact Qe (by rw[Vp];omega)
def Qaz(l:List Int)(hl:l.length≤1048576)(hx:∀x∈l,i64 x):EO l=some (MI l):=by
 unfold EO MI;by_cases h0:l=[]
 ·subst h0;rfl
 have hi:=Bg l Lib.itoa (step:=BK l (ln l)) (λi out hi ho=>by
   simp only[BK,Q0 hi,QP hi,Q3 hi,Vg (show(i:Int)<9223372036854775807 by omega),VU (show out.length+1≤2000000 by omega) (show 16≤1024 by omega),Qc,QL,A8 _ (hx _ (List.getElem_mem hi)),Qa])
  (λout=>by simp only[BK,Q6 (Qg _),Qb])
 rw[if_neg h0,Qfv h0,Qb,hi,Qa,Qs8 44 _ (ct l hl hx)];rfl
def OG(l:List Int)(hx:∀x∈l,i64 x):(MI l).length≤l.length*201+1:=by
 unfold MI
 split
 ·simp
 ·have:=T5 [44] rfl (l.map Lib.itoa) (λy hy=>by
   obtain⟨x,h,rfl⟩:=List.mem_map.1 hy;exact Nat.le_trans (VN x (hx x h)) (by omega))
  rw[List.length_map]at this;omega
def St(a b:Int):List UInt8:=Lib.itoa a++[45]++Lib.itoa b
def wK(a b:Int)(ha:i64 a)(hb:i64 b):EX a b=some (St a b):=by
 have h1:=VN a ha;have h2:=VN b hb;unfold EX St;rw[A8 a ha,A8 b hb];simp only[Qa,CG (x:=Lib.itoa a) (y:=[45]) (by omega) (by simp),CG (x:=Lib.itoa a++[45]) (y:=Lib.itoa b) (by simp;omega) (by omega),QL,QS]
def fW(a b:Int)(ha:i64 a)(hb:i64 b):(St a b).length≤43:=by
 have h1:=VN a ha;have h2:=VN b hb;unfold St;simp;omega
def kI(r:Report):List UInt8:=Lib.itoa r.Id++[32]++kT r.Kind++[32]++MI r.Colours++[32]++St r.SizeLow r.SizeHigh++[32]++MI r.Places++[32]++St r.Span.From r.Span.Until
def okR(r:Report):Prop:=(r.Colours.length≤1300∧r.Places.length≤1300)∧(∀x∈r.Colours,i64 x)∧(∀x∈r.Places,i64 x)∧i64 r.Id∧i64 r.SizeLow∧i64 r.SizeHigh∧i64 r.Span.From∧i64 r.Span.Until
def Qlf(r:Report)(h:okR r)(b:Bool)(hb:JY r=some b):Ej r=some (if b=true then kI r else[]):=by
 obtain⟨⟨l1,l2⟩,h1,h2,h3,h4,h5,h6,h7⟩:=h;unfold Ej;rw[hb];cases b with
 |false=>rfl
 |true =>
  simp only[Qa,Qh,Qb,A8 _ h3,nl,Qaz _ (show r.Colours.length≤1048576 by omega) h1,Qaz _ (show r.Places.length≤1048576 by omega) h2,wK _ _ h4 h5,wK _ _ h6 h7]
  have q1:=VN _ h3;have q2:=zZ r.Kind;have q3:=OG _ h1;have q4:=OG _ h2;have q5:=fW _ _ h4 h5;have q6:=fW _ _ h6 h7;unfold strings_Join;have hlen:(Lib.join [Lib.itoa r.Id,kT r.Kind,MI r.Colours,St r.SizeLow r.SizeHigh,MI r.Places,St r.Span.From r.Span.Until] [32]).length≤140737488355328:=by
   simp[Lib.join,Lib.joinTail];omega
  rw[Qf hlen];simp[Lib.join,Lib.joinTail,kI,QL]
def SS(L:List (List UInt8)){R:Type}(z:List Int→R){step:(List Int×Int)→Option ((List Int×Int)⊕(Fl R (List Int)))}
  (h1:∀(i:Nat) (o:List Int) (h:i<L.length),o.length≤i→step (o,(i:Int))=some (bif (Xe L[i]).2 then .inl (o++[(Xe L[i]).1],((i+1:Nat):Int))else .inr (.ret (z o))))
  (h2:∀o,step (o,(L.length:Int))=some (.inr (.brk o))) :
  (L.all (λx=>(Xe x).2)=true∧run step ([],0)=some (.brk (L.map λx=>(Xe x).1)))∨(L.all (λx=>(Xe x).2)=false∧∃o,run step ([],0)=some (.ret (z o))):=by
 have key:∀(m i:Nat),i+m=L.length→((L.drop i).all (λx=>(Xe x).2)=true∧run step ((L.take i).map (λx=>(Xe x).1),(i:Int))=some (.brk (L.map λx=>(Xe x).1)))∨((L.drop i).all (λx=>(Xe x).2)=false∧∃o,run step ((L.take i).map (λx=>(Xe x).1),(i:Int))=some (.ret (z o))):=by
  intro m
  induction m with
  |zero =>
   intro i hi;have e:i=L.length:=by omega
   subst e;left;rw[List.drop_length,List.take_length];exact⟨rfl,rR (h2 _)⟩
  |succ m ih =>
   intro i hi;have hlt:i<L.length:=by omega
   have hs:=h1 i ((L.take i).map (λx=>(Xe x).1)) hlt (by simp;omega)
   rw[List.drop_eq_getElem_cons hlt,List.all_cons];cases hc:(Xe L[i]).2 with
   |false =>
    rw[hc,Qb]at hs;right;exact⟨rfl,_,rR hs⟩
   |true =>
    rw[hc,Qc]at hs;rw[rI hs,Bool.true_and];have:=ih (i+1) (by omega)
    rw[List.take_succ_eq_append_getElem hlt,List.map_append]at this;exact this
 simpa using key L.length 0 (by omega)
def Fz(s:List UInt8):List Int×Bool:=if s=[45]then([],true)else if(HL 44 s).all (λx=>(Xe x).2)=true then((HL 44 s).map λx=>(Xe x).1,true)else([],false)
def e9(s:List UInt8):∀x∈(Fz s).1,i64 x:=by
 intro x hx;unfold Fz at hx
 split at hx
 ·cases hx
 ·split at hx
  ·obtain⟨y,_,rfl⟩:=List.mem_map.1 hx
   exact NW y
  ·cases hx
def fC(s:List UInt8):(Fz s).1.length≤s.length+1:=by
 unfold Fz
 split
 ·simp
 ·split
  ·rw[List.length_map];exact Ov 44 s
  ·simp
def c8(s:List UInt8)(hl:s.length≤1048576):DE s=some (Fz s):=by
 unfold DE Fz;by_cases h:s=[45]
 ·rw[Qf h,if_pos h];rfl
 have hp:=Ov 44 s;rw[Qe h,if_neg h,Qb,mb s 44 (by omega),Qa]
 rcases SS (HL 44 s) (λ_=>([],false)) (step:=AI (HL 44 s) (ln (HL 44 s))) (λi o hi ho=>by
   simp only[AI,Q0 hi,QP hi,Q3 hi,Vg (show(i:Int)<9223372036854775807 by omega),VU (show o.length+1≤2000000 by omega) (show 8≤1024 by omega),Qc,QL,UP,Qa]
   cases (Xe (HL 44 s)[i]).2<;>rfl)
  (λo=>by simp only[AI,Q6 (Qg _),Qb])with⟨h1,h2⟩|⟨h1,o,h2⟩
 ·rw[h2,if_pos h1];rfl
 ·rw[h2,if_neg (by rw[h1];decide)];rfl
def Eu(s:List UInt8):Int×Int×Bool:=((Xe (Lib.cut s [45]).1).1,(Xe (Lib.cut s [45]).2.1).1,(Xe (Lib.cut s [45]).1).2&&(Xe (Lib.cut s [45]).2.1).2)
def uO(s:List UInt8)(hl:s.length≤1048576):Dp s=some (Eu s):=by
 unfold Dp strings_Cut Eu;rw[Qf (show s.length<4294967281 by omega)]
 simp only[QL,Qa,UP];cases (Xe (Lib.cut s [45]).1).2<;>rfl
def Ok(s:List UInt8):i64 (Eu s).1∧i64 (Eu s).2.1:=⟨NW _,NW _⟩
def kO(s:List UInt8):Int:=(Bq s).getD 0
def eT(s:List UInt8):Bq s=some (kO s)∧0≤kO s∧kO s≤8:=by
 obtain⟨r,h,h0,h8⟩:=QkV s;unfold kO;rw[h];exact⟨rfl,h0,h8⟩
def vg(a b c d e f:List UInt8):Report:=⟨(Xe a).1,kO b,(Fz c).1,(Eu d).1,(Eu d).2.1,(Fz e).1,⟨(Eu f).1,(Eu f).2.1⟩⟩
def cF(a b c d e f:List UInt8)(hc:c.length≤1206)(he:e.length≤1206):okR (vg a b c d e f):=by
 have h1:=fC c;have h2:=fC e;exact⟨⟨by simp only[vg];omega,by simp only[vg];omega⟩,e9 c,e9 e,NW a,(Ok d).1,(Ok d).2,(Ok f).1,(Ok f).2⟩
def QcD(a c d e f:List UInt8):Bool:=(Xe a).2&&((Fz c).2&&((Eu d).2.2&&((Fz e).2&&(Eu f).2.2)))
def px:Report:=⟨0,0,[],0,0,[],⟨0,0⟩⟩
def xl{α:Type}{l:List α}(h:l.length=6):∃a b c d e f,l=[a,b,c,d,e,f]:=by
 match l,h with
 |[a,b,c,d,e,f],_=>exact⟨a,b,c,d,e,f,rfl⟩
def tY(s:List UInt8)(hl:s.length≤1206)(hR:∀r,okR r→∃b,JY r=some b) :
  (¬(HL 32 s).length=6∧JP s=some (px,false))∨∃a b c d e f,HL 32 s=[a,b,c,d,e,f]∧(∀x∈[a,b,c,d,e,f],x.length≤1206) ∧
   ∃B,JY (vg a b c d e f)=some B∧JP s=some (bif QcD a c d e f&&decide ((if B=true then kI (vg a b c d e f)else[])=s)then(vg a b c d e f,true)else(px,false)):=by
 unfold JP;rw[mb s 32 (by omega),Qa]
 by_cases h:(HL 32 s).length=6
 ·right
  obtain⟨a,b,c,d,e,f,hw⟩:=xl h;have hx:∀x∈[a,b,c,d,e,f],x.length≤1206:=λx hx=>by
   rw[←hw]at hx;exact Nat.le_trans (ig 32 s x hx).1 hl
  have hc:=hx c (by simp)
  have hd:=hx d (by simp)
  have he:=hx e (by simp)
  have hf:=hx f (by simp)
  obtain⟨B,hB⟩:=hR _ (cF a b c d e f hc he);refine⟨a,b,c,d,e,f,hw,hx,B,hB,?_⟩;have hT:=Qlf _ (cF a b c d e f hc he) B hB;rw[hw];have h6:((⟨(Xe a).1,kO b,(Fz c).1,(Eu d).1,(Eu d).2.1,(Fz e).1,⟨(Eu f).1,(Eu f).2.1⟩⟩:Report))=vg a b c d e f:=rfl;simp only[show decide (ln [a,b,c,d,e,f]=6)=true from rfl,Qh,Qb,show Q1 [a,b,c,d,e,f] 0=true from rfl,show Q1 [a,b,c,d,e,f] 1=true from rfl,show Q1 [a,b,c,d,e,f] 2=true from rfl,show Q1 [a,b,c,d,e,f] 3=true from rfl,
   show Q1 [a,b,c,d,e,f] 4=true from rfl,show Q1 [a,b,c,d,e,f] 5=true from rfl,QL,show gt [a,b,c,d,e,f] 0=a from rfl,show gt [a,b,c,d,e,f] 1=b from rfl,show gt [a,b,c,d,e,f] 2=c from rfl,show gt [a,b,c,d,e,f] 3=d from rfl,
   show gt [a,b,c,d,e,f] 4=e from rfl,show gt [a,b,c,d,e,f] 5=f from rfl,UP,c8 c (by omega),c8 e (by omega),uO d (by omega),uO f (by omega),(eT b).1,Qa,h6,hT,QcD]
  generalize (decide ((if B=true then kI (vg a b c d e f)else[])=s))=t
  cases (Xe a).2<;>cases (Fz c).2<;>cases (Eu d).2.2<;>cases (Fz e).2<;>cases (Eu f).2.2<;>cases t<;>rfl
 ·left
  have:decide (ln (HL 32 s)=6)=false:=Qe (by rw[Vp];omega)
  rw[this];exact⟨h,rfl⟩
def Y5{l:List (List UInt8)}(h:∃x t,l=x::t):ms [] l=l:=by
 obtain⟨x,t,rfl⟩:=h;rfl
def pS(p q:List UInt8){l:List (List UInt8)}(h:∃x t,l=x::t):ms p (ms q l)=ms (p++q) l:=by
 obtain⟨x,t,rfl⟩:=h;simp[ms]
def jA(s:List UInt8)(a i:Nat)(h:i<s.length)(ha:a≤i):cut s (a:Int) ((i+1:Nat):Int)=cut s (a:Int) (i:Int)++[s[i]]:=by
 unfold cut;simp only[Int.toNat_natCast];rw[List.take_succ_eq_append_getElem h,List.drop_append_of_le_length (by simp;omega)]
def aW(s:List UInt8)(i:Nat):cut s (i:Int) (i:Int)=[]:=by
 unfold cut;simp only[Int.toNat_natCast];rw[List.drop_eq_nil_iff];simp;omega
def qK(x c:UInt8):decide (((x.toNat:Nat):Int)=((c.toNat:Nat):Int))=decide (x=c):=by
 apply decide_eq_decide.2;constructor
 ·intro h;exact UInt8.toNat_inj.1 (by omega)
 ·rintro rfl;rfl
def gn{α:Type}{l:List α}{i:Nat}(h:i≤l.length):decide ((i:Int)≤ln l)=true:=Qf (by unfold ln;omega)
def zM{α:Type}{l:List α}{i:Nat}(h:l.length<i):decide ((i:Int)≤ln l)=false:=Qe (by unfold ln;omega)
def QkP{α:Type}{l:List α}:decide ((l.length:Int)=ln l)=true:=Qf rfl
def QhJ{α:Type}{l:List α}{i:Nat}(h:i<l.length):decide ((i:Int)=ln l)=false:=Qe (by unfold ln;omega)
def mP{α:Type}{l:List α}{a i:Nat}(h:a≤i)(h2:i≤l.length):Ff (a:Int) (i:Int) (ln l)=true:=by unfold Ff ln;simp;omega
def yK{n:Nat}(h:n≤2000000):rm n 16=true:=by unfold rm;simp;omega
def QdL(s:List UInt8)(c:UInt8)(hl:s.length≤1048576):∀(m a i:Nat) (o:List (List UInt8)),i+m=s.length→a≤i→o.length≤i →
  run (JV s ((c.toNat:Nat):Int)) (o,(a:Int),(i:Int))=some (o++ms (cut s (a:Int) (i:Int)) (HL c (s.drop i))):=by
 intro m
 induction m with
 |zero =>
  intro a i o hi ha ho;have e:i=s.length:=by omega
  subst e;rw[rI (s':=(o++[cut s (a:Int) (s.length:Int)],((s.length+1:Nat):Int),((s.length+1:Nat):Int))) (by
   simp only[JV,gn (Qg s.length),QkP,Qc,Qa,Vg (show(s.length:Int)<9223372036854775807 by omega),
    mP (l:=s) ha (Qg _),yK (show o.length+1≤2000000 by omega),QL])]
  rw[rR (r:=o++[cut s (a:Int) (s.length:Int)]) (by
   simp only[JV,zM (Nat.lt_succ_self s.length),Qb])]
  simp[HL,ms]
 |succ m ih =>
  intro a i o hi ha ho;have hlt:i<s.length:=by omega
  have hd:s.drop i=s[i]::s.drop (i+1):=List.drop_eq_getElem_cons hlt;have hstep:JV s ((c.toNat:Nat):Int) (o,(a:Int),(i:Int))=(bif decide (s[i]=c)then some (.inl (o++[cut s (a:Int) (i:Int)],((i+1:Nat):Int),((i+1:Nat):Int)))else some (.inl (o,(a:Int),((i+1:Nat):Int)))):=by
   simp only[JV,gn (Nat.le_of_lt hlt),QhJ hlt,QP hlt,Q3 hlt,Qc,Qb,QL,Qa,qK,
    Vg (show(i:Int)<9223372036854775807 by omega),mP (l:=s) ha (Nat.le_of_lt hlt),yK (show o.length+1≤2000000 by omega)]
  rw[hd,HL];by_cases hc:s[i]=c
  ·rw[Qf hc,Qc]at hstep
   rw[rI hstep,ih (i+1) (i+1) _ (by omega) (by omega) (by simp;omega),if_pos hc,aW,Y5 (IZ c _)]
   simp[ms]
  ·rw[Qe hc,Qb]at hstep
   rw[rI hstep,ih a (i+1) _ (by omega) (by omega) (by omega),if_neg hc,jA s a i hlt ha,pS _ _ (IZ c _)]
def aA(s:List UInt8)(c:UInt8)(hl:s.length≤1048576):JZ s ((c.toNat:Nat):Int)=some (HL c s):=by
 unfold JZ;rw[show(([]:List (List UInt8)),(0:Int),(0:Int))=([],((0:Nat):Int),((0:Nat):Int))from rfl,QdL s c hl s.length 0 0 [] (by omega) (by omega) (by simp)]
 rw[aW,List.drop_zero,Y5 (IZ c _)];rfl
def ue(l:List UInt8):List (List UInt8):=(HL 32 l).filter λx=>!decide (x=[])
def Qc2(l:List UInt8)(hl:l.length≤1048576):∀(m i:Nat) (o:List (List UInt8)) (w:List UInt8),i+m=l.length→o.length≤i→w.length≤i →
  run (Jd l) (o,w,(i:Int))=some (o++(ms w (HL 32 (l.drop i))).filter λx=>!decide (x=[])):=by
 intro m
 induction m with
 |zero =>
  intro i o w hi ho hw;have e:i=l.length:=by omega
  subst e;have h2:∀o' w',run (Jd l) (o',w',((l.length+1:Nat):Int))=some o':=λo' w'=>rR (by
   simp only[Jd,zM (Nat.lt_succ_self l.length),Qb])
  rw[rI (s':=((bif !decide (w=[])then o++[w]else o),[],((l.length+1:Nat):Int))) (by
   simp only[Jd,gn (Qg l.length),Q6 (Qg l.length),Qc,Qb,Qa,Vg (show(l.length:Int)<9223372036854775807 by omega),
    yK (show o.length+1≤2000000 by omega),QL]
   cases decide (w=[])<;>rfl),h2]
  simp only[List.drop_length,HL,ms,List.append_nil,List.filter_cons,List.filter_nil];cases decide (w=[])<;>simp
 |succ m ih =>
  intro i o w hi ho hw;have hlt:i<l.length:=by omega
  have hd:l.drop i=l[i]::l.drop (i+1):=List.drop_eq_getElem_cons hlt;have hc1:cut l (i:Int) ((i+1:Nat):Int)=[l[i]]:=by rw[jA l i i hlt (Qg _),aW];rfl
  have hstep:Jd l (o,w,(i:Int))=(bif decide (l[i]=32)then some (.inl ((bif !decide (w=[])then o++[w]else o),[],((i+1:Nat):Int)))else some (.inl (o,w++[l[i]],((i+1:Nat):Int)))):=by
   simp only[Jd,gn (Nat.le_of_lt hlt),Q0 hlt,QP hlt,Q3 hlt,Qc,Qb,QL,Qa,
    show decide (((l[i].toNat:Nat):Int)=32)=decide (l[i]=32)from qK l[i] 32,Vg (show(i:Int)<9223372036854775807 by omega),mP (l:=l) (Nat.le_succ i) hlt,hc1,
    show VM w [l[i]]=true by unfold VM;simp;omega,yK (show o.length+1≤2000000 by omega),QS]
   cases decide (l[i]=32)<;>cases decide (w=[])<;>rfl
  rw[hd,HL];by_cases hc:l[i]=32
  ·rw[Qf hc,Qc]at hstep
   rw[rI hstep,ih (i+1) _ [] (by omega) (by cases decide (w=[])<;>simp<;>omega) (by simp),if_pos hc,Y5 (IZ 32 _)]
   simp only[ms,List.append_nil,List.filter_cons];cases decide (w=[])<;>simp
  ·rw[Qe hc,Qb]at hstep
   rw[rI hstep,ih (i+1) o _ (by omega) (by omega) (by simp;omega),if_neg hc,pS _ _ (IZ 32 _)]
def TQ(l:List UInt8)(hl:l.length≤1048576):GD l=some (ue l):=by
 unfold GD;rw[show(([]:List (List UInt8)),([]:List UInt8),(0:Int))=([],[],((0:Nat):Int))from rfl,Qc2 l hl l.length 0 [] [] (by omega) (by simp) (by simp),List.drop_zero,Y5 (IZ 32 _)]
 rfl
end Go.Proofs.YtkgadcbajihilaaGreatDoor
