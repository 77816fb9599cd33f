import Derived.Test.YtfhnbabcbhgffaaGreatDoorPz5
import Derived.Lib.ItoaLen
set_option linter.unusedVariables false
set_option linter.unusedSimpArgs false
set_option linter.defProp false
namespace Go.Proofs.YtfhnbabcbhgffaaGreatDoor
open Go
def wa(h:Ql)(out:Ql)(hm:QS h):Db h out [false]=some (h,false):=by
 unfold Db;simp only[YB [false] (by simp),Js h hm,Qa]
 rfl
def oH(h:Ql)(t:Int)(hm:QS h):∃r,EX h t=some r∧C1 h t=some r∧QS r.1:=by
 have hm7:=hm;obtain⟨m1,m2,m3,m4,m5,m6,m7⟩:=hm7;obtain⟨w,w1,w2⟩:=Ku h.Qs t m3;unfold EX C1 Dm;simp only[(Jm h.Qt t m1).1,(Jm h.Qt t m1).2,(Zs h hm).1,(Zs h hm).2,JQ h hm,Js h hm,w1,w2,Qa]
 rcases SH h.Qt t with hx|⟨k,hk,hx⟩
 ·rw[hx]
  refine⟨(h,false),rfl,?_,hm⟩;cases ZQ h<;>rfl
 ·rw[hx,Qe (show ¬(k:Int)<0 by omega)]
  cases hb:ZQ h with
  |false=>exact⟨(h,false),rfl,rfl,hm⟩
  |true =>
   obtain⟨f,f1,f2⟩:=iX h.Qt[k] h.Qv h.Now m4;obtain⟨a,a1,a2,a3,a4,_⟩:=ee h t 3 (h.Qt[k]).Qz hm;obtain⟨b,b1,b2,b3,b4,_⟩:=ee h t 5 0 hm;simp only[Qb,Qh,Qa,QR hk,Q2 hk,QL,f1,a1,b1,GE h _ _ hm a3,GE h _ _ hm b3];refine⟨bif decide (f=2)then FE h a.1 a.2 else bif decide (f=4)then FE h b.1 b.2 else bif decide (f=5)then FE h b.1 b.2 else(h,false),?_,?_,?_⟩
   ·cases decide (f=2)<;>cases decide (f=4)<;>cases decide (f=5)<;>rfl
   ·cases hi:Eu h.Qs t with
    |false =>
     rw[a4 hi,b4 hi];simp only[Qi,Qa,Qc,Kf];cases decide (f=2)<;>cases decide (f=4)<;>cases decide (f=5)<;>rfl
    |true =>
     simp only[Qh,Qa,Qb,QR hk,Q2 hk,QL,f2,a2,b2,wa h h hm,Ex h _ _ hm a3 (show[a.2].length≤1048576 by simp),Ex h _ _ hm b3 (show[b.2].length≤1048576 by simp),List.all_cons,List.all_nil,Bool.and_true,id_eq]
     cases decide (f=2)<;>cases decide (f=4)<;>cases decide (f=5)<;>rfl
   ·cases decide (f=2)<;>cases decide (f=4)<;>cases decide (f=5)<;>first|exact C7 _ _ _ hm a3|exact C7 _ _ _ hm b3|exact hm
def Wv(h:Ql)(n:Int)(hm:QS h):∃r,Zw h n=some r∧Ep h n=some r∧QS r.1:=by
 have ho:QS ⟨h.No,h.Qt,h.Qn,h.Qs,h.Qv,h.Qq,h.Qw,h.Book,QV (h.Now+n)⟩:=hm;refine⟨FE h ⟨h.No,h.Qt,h.Qn,h.Qs,h.Qv,h.Qq,h.Qw,h.Book,QV (h.Now+n)⟩ (decide (1≤n)&&decide (n≤10000)),?_,?_,C7 _ _ _ hm ho⟩
 ·unfold Zw
  simp only[JQ h hm,QO,GE h _ _ hm ho,Qa];cases hn:(decide (1≤n)&&decide (n≤10000))with
  |false=>rfl
  |true =>
   cases hw:(decide (0≤h.Now)&&decide (h.Now≤100000))with
   |true=>rfl
   |false =>
    have hb:ZQ h=false:=by
     cases hb:ZQ h with
     |false=>rfl
     |true =>
      have:=(NK h hm hb).now;rw[Qf this.1,Qf this.2]at hw;cases hw
    rw[oQ _ _ _ hb];rfl
 ·unfold Ep
  simp only[Js h hm,QM,Qa,Ex h _ _ hm ho (show[decide (1≤n)&&decide (n≤10000)].length≤1048576 by simp),List.all_cons,List.all_nil,Bool.and_true,id]
def Q(a:Ql)(r:Ql×Bool):Prop:=(r.2=true→Vv a=some true∧Vv r.1=some true)∧(r.2=false→r.1=a)
def Qd(a:Ql)(x:Option (Ql×Bool)):Prop:=∀r,x=some r→Q a r
def Qd.bind{A:Type}{a:Ql}{o:Option A}{k:A→Option (Ql×Bool)}(h:∀y,Qd a (k y)):Qd a (o.bind k):=λr hr=>by
 obtain⟨y,_,hy⟩:=Option.bind_eq_some_iff.1 hr;exact h y r hy
def Qd.cond{a:Ql}{b:Bool}{x y:Option (Ql×Bool)}(hx:Qd a x)(hy:Qd a y):Qd a (bif b then x else y):=by
 cases b with
 |true=>exact hx
 |false=>exact hy
def Qd.nd{a:Ql}{b:Bool}{x:Option (Ql×Bool)}(hx:Qd a x):Qd a (nd b<|x):=by
 cases b with
 |true=>exact hx
 |false=>intro r hr;cases hr
def Qd.none{a:Ql}:Qd a none:=λr hr=>by cases hr
def Qd.self{a:Ql}:Qd a (some (a,false)):=λr hr=>by
 injection hr with hr;subst hr
 exact⟨λh=>(by cases h),λ_=>rfl⟩
def Qd.done{a o:Ql}{o2:Bool}(hm:QS a):Qd a ((Vg a o o2).bind λr=>some (r.1,r.2)):=λr hr=>by
 obtain⟨y,hy,e⟩:=Option.bind_eq_some_iff.1 hr;injection e with e;subst e
 unfold Vg at hy;obtain⟨b,hb,hy⟩:=Option.bind_eq_some_iff.1 hy;cases b with
 |true =>
  rw[JQ a hm]at hy;simp only[Qc,Qa]at hy;injection hy with hy;subst hy
  exact⟨λh=>(by cases h),λ_=>rfl⟩
 |false =>
  simp only[Qb]at hy;injection hy with hy;subst hy
  refine⟨λ_=>?_,λh=>(by cases h)⟩
  cases o2 with
  |false=>cases hb
  |true =>
   simp only[Qh,Qb]at hb;obtain⟨r1,h1,hb⟩:=Option.bind_eq_some_iff.1 hb;cases r1 with
   |false=>cases hb
   |true =>
    simp only[Qh,Qb]at hb;obtain⟨r2,h2,hb⟩:=Option.bind_eq_some_iff.1 hb;cases r2 with
    |false=>cases hb
    |true=>exact⟨h1,h2⟩
def ck(a:Ql)(f:QB)(m:List Mark)(s:Int)(hm:QS a):Qd a (A5 a f m s):=by
 unfold A5;simp only[JQ a hm,Qa]
 repeat (first|exact Qd.done hm|exact Qd.self|refine Qd.bind λ_=>?_|refine Qd.nd ?_|refine Qd.cond ?_ ?_|exact Qd.none)
def YJ(a:Ql)(x y z:Int)(hm:QS a):Qd a (Jo a x y z):=by
 unfold Jo;simp only[JQ a hm,Qa]
 repeat (first|exact Qd.done hm|exact Qd.self|refine Qd.bind λ_=>?_|refine Qd.nd ?_|refine Qd.cond ?_ ?_|exact Qd.none)
def TJ(a:Ql)(x y:Int)(hm:QS a):Qd a (XM a x y):=by
 unfold XM;simp only[JQ a hm,Qa]
 repeat (first|exact Qd.done hm|exact Qd.self|refine Qd.bind λ_=>?_|refine Qd.nd ?_|refine Qd.cond ?_ ?_|exact Qd.none)
def WA(a:Ql)(x:Int)(hm:QS a):Qd a (JW a x):=by
 unfold JW;simp only[JQ a hm,Qa]
 repeat (first|exact Qd.done hm|exact Qd.self|refine Qd.bind λ_=>?_|refine Qd.nd ?_|refine Qd.cond ?_ ?_|exact Qd.none)
def oA(a:Ql)(x:Int)(l:List Bid)(hm:QS a):Qd a (FP a x l):=by
 unfold FP;simp only[JQ a hm,Qa]
 repeat (first|exact Qd.done hm|exact Qd.self|refine Qd.bind λ_=>?_|refine Qd.nd ?_|refine Qd.cond ?_ ?_|exact Qd.none)
def jQ(a:Ql)(x:Int)(hm:QS a):Qd a (EX a x):=by
 unfold EX;simp only[JQ a hm,Qa]
 repeat (first|exact Qd.done hm|exact Qd.self|refine Qd.bind λ_=>?_|refine Qd.nd ?_|refine Qd.cond ?_ ?_|exact Qd.none)
def ce(a:Ql)(x:Int)(hm:QS a):Qd a (Zw a x):=by
 unfold Zw;simp only[JQ a hm,Qa]
 repeat (first|exact Qd.done hm|exact Qd.self|refine Qd.bind λ_=>?_|refine Qd.nd ?_|refine Qd.cond ?_ ?_|exact Qd.none)
def u6(l:List Qr)(hl:l.length≤1048576)(h:∀x∈l,x.Qo=0):Bw l=some (ln l):=by
 have h1:=Xe (step:=XA l) (λi=>((i:Int),(i:Int))) (r:=(l.length:Int)) l.length (λi hi=>by
   have h0:decide (l[i].Qo=0)=true:=Qf (h _ (List.getElem_mem hi));simp only[XA,QY hi,QR hi,Q2 hi,h0,Qc,QL,Q3 (show(i:Int)<9223372036854775807 by omega)])
  (by simp only[XA,Q6 (Qg _),Qb])
 unfold Bw;rw[show run (XA l) (0,0)=_ from h1];rfl
def m9(h:Ql)(m3:h.Qs.length≤1048576)(hf:h.Qt=[])(hk:AQ h=some true):∀x∈h.Qs,x.Qo=0:=by
 unfold AQ at hk;cases hd:(!decide (ln h.Qn=ln h.Qt))with
 |true=>rw[hd]at hk;cases hk
 |false =>
 rw[hd,Qb]at hk;cases hr:Du h.Qw h.No with
 |none=>rw[hr]at hk;cases hk
 |some r =>
 rw[hr]at hk;simp only[Qa]at hk;cases h5:run (ZP h r h.Qt (ln h.Qt)) 0 with
 |none=>rw[h5]at hk;cases hk
 |some o =>
 rw[h5]at hk;cases o with
 |ret b =>
  exfalso;rw[hf]at h5;rw[QZ]at h5;have:decide ((0:Int)<ln ([]:List QB))=false:=by decide
  simp only[ZP,this,Qb,Qa]at h5;cases h5
 |brk u =>
 simp only[Qa,Zy]at hk;have m1:h.Qt.length≤1048576:=by rw[hf];simp
 have t3:=Hw h.Qs (λx=>decide (x.Qo=0)||!decide (XY h.Qt x.Qo<0)) (r:=false) (step:=JF h r h.Qs (ln h.Qs))
  (λi hi=>by
   simp only[JF,QY hi,QR hi,Q2 hi,Q3 (show(i:Int)<9223372036854775807 by omega),Qc,QL,(Jm h.Qt _ m1).2,Qa]
   cases decide (h.Qs[i].Qo=0)<;>cases decide (XY h.Qt h.Qs[i].Qo<0)<;>rfl)
  (by simp only[JF,Q6 (Qg _),Qb])
 rw[t3]at hk;cases ha:h.Qs.all (λx=>decide (x.Qo=0)||!decide (XY h.Qt x.Qo<0))with
 |false=>rw[ha]at hk;cases hk
 |true =>
  intro x hx;have:=List.all_eq_true.1 ha x hx;rw[hf]at this;simpa[XY]using this
def gX(no:Int)(l:List Qr)(hl:l.length≤1048576):∃r,XU no l=some r∧Eb no l=some r∧QS r.1:=by
 have hm:QS ⟨no,[],[],l,[],[],[],[],0⟩:=⟨by simp,⟨by simp,by simp⟩,hl,by simp,by simp,by simp,by simp⟩
 have h0:QS ⟨0,[],[],[],[],[],[],[],0⟩:=⟨by simp,⟨by simp,by simp⟩,by simp,by simp,by simp,by simp,by simp⟩
 obtain⟨b,b1,b2⟩:=UO _ hm;unfold XU Eb XX;simp only[JQ _ hm,VT (show 0+l.length≤2000000 by omega) (show 24≤1024 by omega),QL,Qa,b1,b2]
 cases b with
 |false=>exact⟨_,rfl,rfl,h0⟩
 |true =>
  have hk:=(dE _ hm b2).kept;have hfree:=u6 l hl (m9 _ hl rfl hk);simp only[hfree,Qh,Qb,Qa,decide_true];exact⟨_,rfl,rfl,hm⟩
def FH:List UInt8:=[119,104,97,116]
def tNo:List UInt8:=[110,111]
def tOk:List UInt8:=[111,107]
def vh:List UInt8:=[110,101,119]
def Wo:List UInt8:=[115,101,114,118,101]
def Yd:List UInt8:=[99,108,101,97,114]
def fk:List UInt8:=[116,105,99,107]
def Kn:List UInt8:=[97,110,115,119,101,114]
def Pc:List UInt8:=[99,108,97,105,109]
def W5:List UInt8:=[115,101,108,108]
def Bz:List UInt8:=[109,97,116,99,104]
def Xg:List UInt8:=[102,105,110,100]
def A0:List (List UInt8):=[zn,dm,UF,dU,dV]
def A1:List (List UInt8):=[vh,Wo,Yd,fk,iw,Ya,Y0,MW]
def fU(w:List UInt8):Int:=if w∈A0 then 0 else if w∈A1 then 1 else if w=Kn then 2 else if w=Pc∨w=W5 then 3 else if w=Bz then 6 else if w=Xg then 10 else -1
def Qif(w:List UInt8):Iw w=some (fU w):=by
 by_cases h0:w∈A0
 ·simp only[A0,List.mem_cons,List.not_mem_nil,or_false]at h0
  rcases h0 with rfl|rfl|rfl|rfl|rfl<;>rfl
 by_cases h1:w∈A1
 ·simp only[A1,List.mem_cons,List.not_mem_nil,or_false]at h1
  rcases h1 with rfl|rfl|rfl|rfl|rfl|rfl|rfl|rfl<;>rfl
 by_cases h2:w=Kn
 ·subst h2;rfl
 by_cases h3:w=Pc
 ·subst h3;rfl
 by_cases h4:w=W5
 ·subst h4;rfl
 by_cases h6:w=Bz
 ·subst h6;rfl
 by_cases h10:w=Xg
 ·subst h10;rfl
 have e:fU w=-1:=by
  unfold fU;rw[if_neg h0,if_neg h1,if_neg h2,if_neg (by rintro(h|h);exact h3 h;exact h4 h),if_neg h6,if_neg h10]
 rw[e];simp only[A0,A1,List.mem_cons,List.not_mem_nil,or_false,not_or]at h0 h1;obtain⟨a1,a2,a3,a4,a5⟩:=h0;obtain⟨b1,b2,b3,b4,b5,b6,b7,b8⟩:=h1;unfold zn at a1;unfold dm at a2;unfold UF at a3;unfold dU at a4;unfold dV at a5;unfold vh at b1;unfold Wo at b2;unfold Yd at b3;unfold fk at b4;unfold iw at b5;unfold Ya at b6;unfold Y0 at b7;unfold MW at b8;unfold Kn at h2;unfold Pc at h3;unfold W5 at h4;unfold Bz at h6;unfold Xg at h10;unfold Iw;simp only[Qe a1,Qe a2,Qe a3,Qe a4,Qe a5,Qe b1,Qe b2,Qe b3,Qe b4,Qe b5,Qe b6,Qe b7,Qe b8,Qe h2,Qe h3,Qe h4,Qe h6,Qe h10,Qb]
noncomputable def T5(a:Ql)(w:List UInt8)(n:List Int):Option (Ql×List UInt8):=(DG a w n).bind (Zy (λr12=>bif !r12.2.2 then(Vb a).bind λr13=>(Dc a w n).bind λr14=>some (r13,r14)else(bif !r12.2.1 then(Vb a).bind λr15=>some (r15,[110,111])else some (r12.1,[111,107]))) λq=>(Vb a).bind λr16=>(Dc a w n).bind λr17=>some (r16,r17))
noncomputable def OK(a:Ql)(w:List UInt8)(n:List Int):Option (Ql×List UInt8):=bif (decide (w=[110,101,119]))&&(decide (ln n=1))then nd (Q0 n 0)<|spec_ExampleSlots.bind λr11=>(XU (gt n 0) r11).bind λr12=>(Cg a r12.1 r12.2).bind λr13=>some (r13.1,r13.2)else(JU w n).bind λr14=>(bif decide (0<r14.Kind)then(D2 a r14).bind λr15=>(Cg a r15.1 r15.2).bind λr16=>some (r16.1,r16.2)else(bif decide (ln n=0)then(Vk a).bind λr17=>(AT a w).bind λr18=>some (r17,r18)else(bif decide (ln n=1)then nd (Q0 n 0)<|(Vk a).bind λr19=>(A8 a w (gt n 0)).bind λr20=>some (r19,r20)else(Vk a).bind λr21=>some (r21,[119,104,97,116]))))
def Rr(a:Ql)(r:Ql×Bool):Ql×List UInt8:=bif r.2 then(r.1,tOk)else(a,tNo)
def Kp(a x:Ql):Prop:=QS x∧(x=a∨Vv x=some true)
structure Kr (a:Ql) (W:Prop) (r:Ql×List UInt8):Prop where
 kp:Kp a r.1
 ne:Bd a→r.2≠[]
 ch:r.1=a∨(r.2=tOk∧W)
def chW:List (List UInt8):=[vh,Wo,Yd,fk,Kn,Pc,W5,Xg]
def Kr.self{a:Ql}{W:Prop}(hm:QS a){s:List UInt8}(h:Bd a→s≠[]):Kr a W (a,s):=⟨⟨hm,.inl rfl⟩,h,.inl rfl⟩
def Gq(a:Ql)(w:List UInt8)(n:List Int)(hm:QS a)(r:Ql×Bool)(h:DG a w n=some (.ret (r.1,r.2,true))):T5 a w n=some (Rr a r):=by
 obtain⟨x,b⟩:=r;unfold T5;rw[h];cases b with
 |true=>rfl
 |false =>
  show(Vb a).bind _=_;rw[Js a hm];rfl
def bQ(a:Ql)(w:List UInt8)(n:List Int)(hm:QS a)(s:List UInt8)(h:DG a w n=some (.brk ()))(hs:Dc a w n=some s):T5 a w n=some (a,s):=by
 unfold T5;rw[h];show(Vb a).bind _=_;rw[Js a hm,Qa,hs];rfl
def Pg(a:Ql)(hm:QS a)(r:Ql×Bool):((Cg a r.1 r.2).bind λr=>some (r.1,r.2))=some (Rr a r):=by
 obtain⟨x,b⟩:=r;unfold Cg;cases b with
 |true=>rfl
 |false =>
  show((Vk a).bind _).bind _=_;rw[JQ a hm];rfl
def wD{a:Ql}{r:Ql×Bool}(hm:QS a)(h1:QS r.1)(h2:r.2=true→Vv r.1=some true):Kp a (Rr a r).1:=by
 obtain⟨x,b⟩:=r;cases b with
 |true=>exact⟨h1,.inr (h2 rfl)⟩
 |false=>exact⟨hm,.inl rfl⟩
def Kr.mono{a:Ql}{W V:Prop}{r:Ql×List UInt8}(h:Kr a W r)(q:W→V):Kr a V r:=⟨h.kp,h.ne,h.ch.imp id λz=>⟨z.1,q z.2⟩⟩
def I5{a:Ql}{W:Prop}{r:Ql×Bool}(hm:QS a)(hW:W)(h1:QS r.1)(h2:r.2=true→Vv r.1=some true):Kr a W (Rr a r):=by
 refine⟨wD hm h1 h2,λ_=>?_,?_⟩
 ·obtain⟨x,b⟩:=r
  cases b with
  |true=>exact List.cons_ne_nil _ _
  |false=>exact List.cons_ne_nil _ _
 ·obtain⟨x,b⟩:=r
  cases b with
  |true=>exact .inr ⟨rfl,hW⟩
  |false=>exact .inl rfl
def Gx(a:Ql)(w:List UInt8)(n:List Int)(e:Event)(hm:QS a)(hw:((decide (w=[110,101,119]))&&(decide (ln n=1)))=false)(he:JU w n=some e)(hk:0<e.Kind)(r:Ql×Bool)(ha:D2 a e=some r):OK a w n=some (Rr a r):=by
 unfold OK;rw[hw,Qb,he,Qa,Qf hk,Qc,ha];show((Cg a r.1 r.2).bind λr=>some (r.1,r.2))=_
 exact Pg a hm r
def Gn{o:Option (Ql×Bool)}{r:Ql×Bool}(h:o=some r):(o.bind λr=>some (r.1,r.2))=some r:=by rw[h];rfl
def noEv:Event:=⟨0,⟨⟨0,0,0,0,0⟩,0,0,0⟩,[],0,0,0,[]⟩
def LM(a:Ql)(w:List UInt8)(n:List Int)(hm:QS a)(hw:((decide (w=[110,101,119]))&&(decide (ln n=1)))=false)(he:JU w n=some noEv):OK a w n=(bif decide (ln n=0)then(AT a w).bind λr18=>some (a,r18)else(bif decide (ln n=1)then nd (Q0 n 0)<|(A8 a w (gt n 0)).bind λr20=>some (a,r20)else some (a,FH))):=by
 unfold OK;rw[hw,Qb,he,Qa];simp only[JQ a hm,Qa,show decide (0<noEv.Kind)=false from rfl,Qb];rfl
def QiP(no:Int)(l:List Qr){r:Ql×Bool}(h:XU no l=some r)(h2:r.2=true):Vv r.1=some true:=by
 unfold XU at h;obtain⟨q,_,h⟩:=Option.bind_eq_some_iff.1 h;obtain⟨b,hb,h⟩:=Option.bind_eq_some_iff.1 h;cases b with
 |true=>injection h with h;subst h;cases h2
 |false =>
  injection h with h;subst h
  obtain⟨v,hv,hb⟩:=Option.bind_eq_some_iff.1 hb;cases v with
  |true=>exact hv
  |false=>cases hb
def Qrq(a:Ql)(w:List UInt8)(n:List Int)(hm:QS a)(hk:Lk a)(h:fU w=ln n)(h6:w≠Bz)(h10:w≠Xg):∃r,T5 a w n=some r∧OK a w n=some r∧Kr a (w∈chW) r:=by
 by_cases h0:w∈A0
 ·have hn:n=[]:=by
   unfold fU at h;rw[if_pos h0,Vq]at h;exact List.length_eq_zero_iff.1 (by omega)
  subst hn;obtain⟨s,s1,s2,s3⟩:=qj a w hm hk h0;refine⟨(a,s),?_,?_,Kr.self hm λ_=>s3⟩
  ·refine bQ a w [] hm s ?_ s2
   simp only[A0,List.mem_cons,List.not_mem_nil,or_false]at h0
   rcases h0 with rfl|rfl|rfl|rfl|rfl<;>rfl
  ·rw[LM a w [] hm (by simp[ln]) (by simp[JU,ln];rfl)]
   show(AT a w).bind _=_;rw[s1];rfl
 by_cases h1:w∈A1
 ·have hn:n.length=1:=by
   unfold fU at h;rw[if_neg h0,if_pos h1,Vq]at h;omega
  obtain⟨x,rfl⟩:=List.length_eq_one_iff.1 hn;by_cases hw:w∈[iw,Ya,Y0,MW]
  ·obtain⟨s,s1,s2,s3⟩:=yI a w x hm hk hw
   refine⟨(a,s),?_,?_,Kr.self hm s3⟩
   ·refine bQ a w [x] hm s ?_ s2
    simp only[List.mem_cons,List.not_mem_nil,or_false]at hw
    rcases hw with rfl|rfl|rfl|rfl<;>rfl
   ·rw[LM a w [x] hm (by simp only[List.mem_cons,List.not_mem_nil,or_false]at hw;rcases hw with rfl|rfl|rfl|rfl<;>rfl) (by simp only[List.mem_cons,List.not_mem_nil,or_false]at hw;rcases hw with rfl|rfl|rfl|rfl<;>rfl)]
    show(A8 a w x).bind _=_;rw[s1];rfl
  ·have hw':w∈[vh,Wo,Yd,fk]:=by
    simp only[A1,List.mem_cons,List.not_mem_nil,or_false]at h1 hw ⊢
    rcases h1 with h|h|h|h|h|h|h|h<;>simp_all
   simp only[List.mem_cons,List.not_mem_nil,or_false]at hw'
   rcases hw' with rfl|rfl|rfl|rfl
   ·obtain⟨r,r1,r2,r3⟩:=gX x [(⟨1,5,0⟩:Qr),(⟨2,10,0⟩:Qr),(⟨3,20,0⟩:Qr),(⟨4,50,0⟩:Qr)] (by simp)
    refine⟨Rr a r,Gq a _ _ hm r ?_,?_,I5 hm (by simp[chW]) r3 (QiP _ _ r1)⟩
    ·show(Eb x _).bind _=_
     rw[r2];rfl
    ·show(XU x _).bind _=_
     rw[r1,Qa];exact Pg a hm r
   ·obtain⟨r,r1,r2,r3⟩:=Tg a x hm
    refine⟨Rr a r,Gq a _ _ hm r ?_,Gx a _ _ ⟨4,⟨⟨0,0,0,0,0⟩,0,0,0⟩,[],0,0,x,[]⟩ hm rfl rfl (by simp only;omega) r (Gn r1),I5 hm (by simp[chW]) r3 λh=>((WA a x hm _ r1).1 h).2⟩
    show(C4 a x).bind _=_;rw[r2];rfl
   ·obtain⟨r,r1,r2,r3⟩:=oH a x hm
    refine⟨Rr a r,Gq a _ _ hm r ?_,Gx a _ _ ⟨6,⟨⟨0,0,0,0,0⟩,0,0,0⟩,[],0,0,x,[]⟩ hm rfl rfl (by simp only;omega) r (Gn r1),I5 hm (by simp[chW]) r3 λh=>((jQ a x hm _ r1).1 h).2⟩
    show(C1 a x).bind _=_;rw[r2];rfl
   ·obtain⟨r,r1,r2,r3⟩:=Wv a x hm
    refine⟨Rr a r,Gq a _ _ hm r ?_,Gx a _ _ ⟨7,⟨⟨0,0,0,0,0⟩,0,0,0⟩,[],0,0,x,[]⟩ hm rfl rfl (by simp only;omega) r (Gn r1),I5 hm (by simp[chW]) r3 λh=>((ce a x hm _ r1).1 h).2⟩
    show(Ep a x).bind _=_;rw[r2];rfl
 by_cases h2:w=Kn
 ·subst h2
  have hn:n.length=2:=by rw[show fU Kn=2 from rfl,Vq]at h;omega
  obtain⟨x,y,rfl⟩:∃x y,n=[x,y]:=by
   match n,hn with
   |[x,y],_=>exact⟨x,y,rfl⟩
  obtain⟨r,r1,r2,r3⟩:=LS a x y hm;refine⟨Rr a r,Gq a _ _ hm r ?_,Gx a _ _ ⟨3,⟨⟨0,0,0,0,0⟩,0,0,0⟩,[],x,0,y,[]⟩ hm rfl rfl (by simp only;omega) r (Gn r1),I5 hm (by simp[chW]) r3 λh=>((TJ a x y hm _ r1).1 h).2⟩
  show(B0 a x y).bind _=_;rw[r2];rfl
 by_cases h3:w=Pc∨w=W5
 ·have hn:n.length=3:=by
   unfold fU at h;rw[if_neg h0,if_neg h1,if_neg h2,if_pos h3,Vq]at h;omega
  obtain⟨x,y,z,rfl⟩:∃x y z,n=[x,y,z]:=by
   match n,hn with
   |[x,y,z],_=>exact⟨x,y,z,rfl⟩
  rcases h3 with rfl|rfl
  ·obtain⟨r,r1,r2,r3⟩:=Ts a x y z hm
   refine⟨Rr a r,Gq a _ _ hm r ?_,Gx a _ _ ⟨2,⟨⟨0,0,0,0,0⟩,0,0,0⟩,[],x,y,z,[]⟩ hm rfl rfl (by simp only;omega) r (Gn r1),I5 hm (by simp[chW]) r3 λh=>((YJ a x y z hm _ r1).1 h).2⟩
   show(Di a x y z).bind _=_;rw[r2];rfl
  ·obtain⟨r,r1,r2,r3⟩:=t7 a x [(⟨101,y,0⟩:Bid),(⟨102,z,0⟩:Bid)] hm (by simp)
   refine⟨Rr a r,Gq a _ _ hm r ?_,Gx a _ _ ⟨5,⟨⟨0,0,0,0,0⟩,0,0,0⟩,[],0,0,x,[(⟨101,y,0⟩:Bid),(⟨102,z,0⟩:Bid)]⟩ hm rfl rfl (by simp only;omega) r (Gn r1),I5 hm (by simp[chW]) r3 λh=>((oA a x _ hm _ r1).1 h).2⟩
   show(D8 a x [(⟨101,y,0⟩:Bid),(⟨102,z,0⟩:Bid)]).bind _=_;rw[r2];rfl
 exfalso;unfold fU at h;rw[if_neg h0,if_neg h1,if_neg h2,if_neg h3,if_neg h6,if_neg h10,Vq]at h;omega
def nA(a:Ql)(w:List UInt8)(n:List Int)(hm:QS a)(h:fU w≠ln n):OK a w n=some (a,FH):=by
 have key:((decide (w=[110,101,119]))&&(decide (ln n=1)))=false∧JU w n=some noEv∧(ln n=0→AT a w=some FH)∧(ln n=1→∀x,A8 a w x=some FH):=by
  by_cases z0:ln n=0
  ·have hw:w∉A0:=λhw=>h (by unfold fU;rw[if_pos hw];exact z0.symm)
   simp only[A0,List.mem_cons,List.not_mem_nil,or_false,not_or]at hw;obtain⟨a1,a2,a3,a4,a5⟩:=hw;unfold zn at a1;unfold dm at a2;unfold UF at a3;unfold dU at a4;unfold dV at a5;refine⟨by rw[z0];simp,by unfold JU;rw[z0];rfl,λ_=>?_,λq=>by omega⟩
   unfold AT;simp only[Qe a1,Qe a2,Qe a3,Qe a4,Qe a5,Qb];rfl
  by_cases z1:ln n=1
  ·have hw:w∉A1:=λhw=>h (by
    unfold fU;have:w∉A0:=by
     simp only[A1,List.mem_cons,List.not_mem_nil,or_false]at hw
     rcases hw with rfl|rfl|rfl|rfl|rfl|rfl|rfl|rfl<;>decide
    rw[if_neg this,if_pos hw];exact z1.symm)
   simp only[A1,List.mem_cons,List.not_mem_nil,or_false,not_or]at hw;obtain⟨b1,b2,b3,b4,b5,b6,b7,b8⟩:=hw;unfold vh at b1;unfold Wo at b2;unfold Yd at b3;unfold fk at b4;unfold iw at b5;unfold Ya at b6;unfold Y0 at b7;unfold MW at b8;refine⟨by rw[Qe b1];rfl,?_,λq=>by omega,λ_ x=>?_⟩
   ·unfold JU
    rw[z1,Qe b2,Qe b3,Qe b4];rfl
   ·unfold A8
    simp only[Qe b5,Qe b6,Qe b7,Qe b8,Qb];rfl
  have e1:decide (ln n=1)=false:=Qe z1;refine⟨by rw[e1];simp,?_,λq=>absurd q z0,λq=>absurd q z1⟩
  unfold JU;rw[e1];by_cases z2:ln n=2
  ·have hw:¬w=Kn:=λe=>h (by subst e;exact z2.symm)
   unfold Kn at hw;rw[z2,Qe hw];rfl
  by_cases z3:ln n=3
  ·have h4:¬w=Pc:=λe=>h (by subst e;exact z3.symm)
   have h5:¬w=W5:=λe=>h (by subst e;exact z3.symm)
   unfold Pc at h4;unfold W5 at h5;rw[z3,Qe h4,Qe h5];rfl
  rw[Qe z2,Qe z3];rfl
 obtain⟨k1,k2,k3,k4⟩:=key;rw[LM a w n hm k1 k2];by_cases z0:ln n=0
 ·rw[Qf z0,k3 z0];rfl
 by_cases z1:ln n=1
 ·rw[Qe z0,Qf z1]
  have:Q0 n 0=true:=by rw[AA];rw[Vq]at z1;omega
  rw[this,k4 z1 _];rfl
 ·rw[Qe z0,Qe z1];rfl
def Qid:List (List UInt8):=[[],[98,97,103],[99,111,97,116],[107,101,121,115],[109,111,110,101,121],[112,104,111,110,101],[117,109,98,114,101,108,108,97],[102,111,111,100],[111,116,104,101,114]]
def kT(k:Int):List UInt8:=if 1≤k∧k≤8 then gt Qid k else[]
def vA(k:Int):(kT k).length≤8:=by
 unfold kT
 split
 ·rename_i h
  rcases(by omega:k=1∨k=2∨k=3∨k=4∨k=5∨k=6∨k=7∨k=8)with rfl|rfl|rfl|rfl|rfl|rfl|rfl|rfl<;>decide
 ·simp
def ja(k:Int):Eh k=some (kT k):=by
 unfold Eh QM kT;by_cases h:1≤k∧k≤8
 ·rw[if_pos h]
  rcases(by omega:k=1∨k=2∨k=3∨k=4∨k=5∨k=6∨k=7∨k=8)with rfl|rfl|rfl|rfl|rfl|rfl|rfl|rfl<;>rfl
 ·rw[if_neg h]
  have:(decide (1≤k)&&decide (k≤8))=false:=by
   rw[Bool.eq_false_iff];simpa using h
  rw[this];rfl
def QeL(s:List UInt8):∃r,AZ s=some r∧0≤r∧r≤8:=by
 have key:∀(m:Nat) (k:Int),k+(m:Int)=9→1≤k→(∃j,run (JY s) k=some (.ret j)∧1≤j∧j≤8)∨run (JY s) k=some (.brk ()):=by
  intro m
  induction m with
  |zero =>
   intro k hk h1;right;exact rR (by simp only[JY,Qe (show ¬k≤8 by omega),Qb])
  |succ m ih =>
   intro k hk h1;have hs:JY s k=(bif decide (kT k=s)then some (.inr (.ret k))else some (.inl (k+1))):=by
    simp only[JY,Qf (show k≤8 by omega),Qc,ja,Qa,Vt (n:=k+1) (by omega) (by omega)]
   by_cases hc:kT k=s
   ·rw[Qf hc]at hs
    exact .inl ⟨k,rR hs,h1,by omega⟩
   ·rw[Qe hc]at hs
    rw[rI hs];exact ih (k+1) (by omega) (by omega)
 unfold AZ
 rcases key 8 1 (by omega) (by omega)with⟨j,h,h1,h2⟩|h
 ·rw[h];exact⟨j,rfl,by omega,h2⟩
 ·rw[h];exact⟨0,rfl,by omega,by omega⟩
def UR(b:UInt8):Bool:=decide (48≤b.toNat)&&decide (b.toNat≤57)
def GF(s:List UInt8):Nat:=s.foldl (λn b=>10*n+(b.toNat-48)) 0
def SV(s:List UInt8)(b:UInt8):GF (s++[b])=10*GF s+(b.toNat-48):=by simp[GF]
def kL:∀(s:List UInt8),s≠[]→∃t b,s=t++[b]:=λs h=>by
 rcases List.eq_nil_or_concat s with h'|⟨t,b,h'⟩
 ·exact absurd h' h
 ·exact⟨t,b,by simpa using h'⟩
def cC:∀(n:Nat) (s:List UInt8),s.length=n→s.all UR=true→GF s<10^n
 |0,s,h,_=>by
  obtain rfl:=List.length_eq_zero_iff.1 h;decide
 |n+1,s,h,hd=>by
  obtain⟨t,b,rfl⟩:=kL s (by rintro rfl;cases h)
  rw[List.all_append,Bool.and_eq_true]at hd;have ih:=cC n t (by simpa using h) hd.1
  have hb:=hd.2;simp only[List.all_cons,List.all_nil,Bool.and_true,UR,Bool.and_eq_true,decide_eq_true_eq]at hb;rw[SV,Nat.pow_succ];omega
def TW(b:UInt8)(h:UR b=true):UInt8.ofNat (48+(b.toNat-48))=b:=by
 unfold UR at h;simp only[Bool.and_eq_true,decide_eq_true_eq]at h;rw[show 48+(b.toNat-48)=b.toNat by omega]
 simp
def IB:∀(n:Nat) (s:List UInt8),s.length=n+1→s.all UR=true→(n=0∨s.head?≠some 48)→Lib.decDigits (GF s)=s∧(s.head?≠some 48→1≤GF s)
 |n,s,h,hd,hh=>by
  obtain⟨t,b,rfl⟩:=kL s (by rintro rfl;cases h)
  rw[List.all_append,Bool.and_eq_true]at hd;have hb:UR b=true:=by simpa using hd.2
  have hb':=hb;unfold UR at hb';simp only[Bool.and_eq_true,decide_eq_true_eq]at hb';cases n with
  |zero =>
   have ht:t=[]:=List.length_eq_zero_iff.1 (by simpa using h)
   subst ht;have hv:GF ([]++[b])=b.toNat-48:=by simp[GF]
   refine⟨by rw[hv,Lib.decDigits_one (by omega),TW b hb];rfl,λh8=>?_⟩
   rw[hv];have:b≠48:=λe=>h8 (by simp[e])
   have:b.toNat≠48:=λe=>this (UInt8.toNat_inj.1 e)
   omega
  |succ n =>
   have hl:t.length=n+1:=by simpa using h
   obtain⟨x,t',rfl⟩:=List.exists_cons_of_length_eq_add_one hl;have hx:(x::t').head?≠some 48:=by
    rcases hh with hh|hh
    ·cases hh
    ·simpa using hh
   obtain⟨i1,i2⟩:=IB n (x::t') hl hd.1 (.inr hx);have i3:=i2 hx;rw[SV];refine⟨?_,λ_=>by omega⟩
   rw[Lib.decDigits,dif_neg (by omega),show(10*GF (x::t')+(b.toNat-48)) / 10=GF (x::t')by omega,i1,show(10*GF (x::t')+(b.toNat-48))%10=b.toNat-48 by omega,TW b hb]
def fT(s:List UInt8):Bool:=!decide (s.length=0)&&(!decide (13<s.length)&&(!(decide (1<s.length)&&decide (s.head?=some 48))&&(s.all UR&&!decide (1000000000000<GF s))))
def Xl(s:List UInt8):Int×Bool:=if fT s=true then((GF s:Int),true)else(0,false)
def u8w{n:Int}(h0:0≤n)(h1:n<256):IntKind.u8.wrap n=n:=by
 unfold IntKind.wrap;simp only[show IntKind.u8.bits=8 from rfl,show IntKind.u8.signed=false from rfl];simp;omega
def rF(s:List UInt8)(i:Nat)(h:i<s.length)(ha:(s.take i).all UR=true):(s.take (i+1)).all UR=UR s[i]:=by
 rw[List.take_succ_eq_append_getElem h,List.all_append,ha];simp
def m8(s:List UInt8)(i:Nat)(h:i<s.length):GF (s.take (i+1))=10*GF (s.take i)+(s[i].toNat-48):=by
 rw[List.take_succ_eq_append_getElem h,SV]
def vT(s:List UInt8)(hl:s.length≤13){step:(Int×Int)→Option ((Int×Int)⊕(Fl (Int×Bool) Int))}
  (h1:∀(a:Int) (i:Nat) (h:i<s.length),0≤a→a<10000000000000→step (a,(i:Int))=some (bif UR s[i]then .inl (10*a+((s[i].toNat:Nat):Int)-48,((i+1:Nat):Int))else .inr (.ret (0,false))))
  (h2:∀a,step (a,(s.length:Int))=some (.inr (.brk a))) :
  run step (0,0)=some (bif s.all UR then .brk (GF s:Int)else .ret (0,false)):=by
 have key:∀(m i:Nat),i+m=s.length→(s.take i).all UR=true→run step ((GF (s.take i):Int),(i:Int))=some (bif s.all UR then .brk (GF s:Int)else .ret (0,false)):=by
  intro m
  induction m with
  |zero =>
   intro i hi ha;have e:i=s.length:=by omega
   subst e;rw[List.take_length]at ha ⊢;rw[rR (h2 _),ha];rfl
  |succ m ih =>
   intro i hi ha;have hlt:i<s.length:=by omega
   have hb:=cC i (s.take i) (by simp;omega) ha
   have hb2:10^i≤10^13:=Nat.pow_le_pow_right (by omega) (by omega)
   have hs:=h1 (GF (s.take i)) i hlt (by omega) (by omega)
   cases hd:UR s[i]with
   |false =>
    rw[hd,Qb]at hs;rw[rR hs];have:s.all UR=false:=by
     rw[Bool.eq_false_iff];intro h;rw[List.all_eq_true]at h;have:=h _ (List.getElem_mem hlt);rw[hd]at this;cases this
    rw[this];rfl
   |true =>
    rw[hd,Qc]at hs;have hd':=hd;unfold UR at hd';simp only[Bool.and_eq_true,decide_eq_true_eq]at hd';have ht:=ih (i+1) (by omega) (by rw[rF s i hlt ha,hd])
    rw[m8 s i hlt]at ht;rw[rI hs,←ht];congr 2;omega
 simpa[GF]using key s.length 0 (by omega) (by simp)
def xW{s:List UInt8}(h:1<s.length):decide (((gt s 0).toNat:Int)=48)=decide (s.head?=some 48):=by
 cases s with
 |nil=>simp at h
 |cons x t =>
  apply decide_eq_decide.2;show(x.toNat:Int)=48↔some x=some 48;constructor
  ·intro e;rw[UInt8.toNat_inj.1 (show x.toNat=(48:UInt8).toNat by have:(48:UInt8).toNat=48:=rfl;omega)]
  ·intro e;injection e with e;rw[e];rfl
def SA(s:List UInt8):Z6 s=some (Xl s):=by
 unfold Z6 Xl fT;rw[Vq];by_cases h0:s.length=0
 ·simp[h0]
 by_cases h13:13<s.length
 ·simp[h13,Qf (show(13:Int)<(s.length:Int)by omega)]
 have hrun:=vT s (by omega) (step:=Br s (ln s)) (λa i hi ha0 ha=>by
   have hx:(s[i].toNat:Int)<256:=by have:=s[i].toNat_lt;omega
   simp only[Br,QY hi,QR hi,Q2 hi,Qc,QL,Qa,Q3 (show(i:Int)<9223372036854775807 by omega),UR]
   by_cases c1:48≤s[i].toNat
   ·by_cases c2:s[i].toNat≤57
    ·rw[Qe (show ¬(s[i].toNat:Int)<48 by omega),Qe (show ¬(57:Int)<(s[i].toNat:Int)by omega),Qf c1,Qf c2,u8w (by omega) (by omega),Vt (n:=10*a) (by omega) (by omega),Vt (n:=(s[i].toNat:Int)-48) (by omega) (by omega),Vt (by omega) (by omega)]
     simp only[Bool.or_self,Qb,Bool.and_self,Qc];rw[show 10*a+((s[i].toNat:Int)-48)=10*a+(s[i].toNat:Int)-48 by omega]
    ·rw[Qf (show(57:Int)<(s[i].toNat:Int)by omega),Qe c2]
     simp
   ·rw[Qf (show(s[i].toNat:Int)<48 by omega),Qe c1]
    simp) (λa=>by simp only[Br,Q6 (Qg _),Qb])
 rw[Vq]at hrun;rw[hrun,Qe (show ¬((s.length:Nat):Int)=0 by omega),Qe (show ¬(13:Int)<(s.length:Int)by omega),Qe h0,Qe h13]
 simp only[Qb,Qi,Bool.true_and];have hz:∀z:Bool,(bif decide ((1:Int)<(s.length:Int))then nd (Q0 s 0)<|some (decide (((gt s 0).toNat:Int)=48))else some false)=some (decide (1<s.length)&&decide (s.head?=some 48)):=λ_=>by
  by_cases h1:1<s.length
  ·rw[Qf (show(1:Int)<(s.length:Int)by omega),Qf h1,Qc,show Q0 s 0=true from QR (i:=0) (by omega),show ∀q:Option Bool,(nd true<|q)=q from λ_=>rfl,xW h1,Bool.true_and]
  ·rw[Qe (show ¬(1:Int)<(s.length:Int)by omega),Qe h1];rfl
 rw[hz true];cases (decide (1<s.length)&&decide (s.head?=some 48))with
 |true=>simp
 |false =>
  cases s.all UR with
  |false=>simp[Zy]
  |true =>
   simp only[Qa,Qb,Qc,Zy,Qi,Bool.true_and];by_cases hn:1000000000000<GF s
   ·rw[Qf (show(1000000000000:Int)<(GF s:Int)by omega),Qf hn];rfl
   ·rw[Qe (show ¬(1000000000000:Int)<(GF s:Int)by omega),Qe hn];rfl
def wK(s:List UInt8):0≤(Xl s).1∧(Xl s).1≤1000000000000:=by
 unfold Xl
 split
 ·rename_i h
  unfold fT at h;simp only[Bool.and_eq_true,Bool.not_eq_true',decide_eq_false_iff_not]at h;constructor
  ·simp
  ·have:=h.2.2.2.2;simp only;omega
 ·simp
def Nh(s:List UInt8):i64 (Xl s).1:=by have:=wK s;unfold i64;omega
def mW{s:List UInt8}(h:(Xl s).2=true):s.length≤13∧s≠[]∧s.all UR=true∧Lib.itoa (Xl s).1=s:=by
 unfold Xl at h ⊢
 split at h
 ·rename_i hn
  rw[if_pos hn];unfold fT at hn;simp only[Bool.and_eq_true,Bool.not_eq_true',decide_eq_false_iff_not,Bool.and_eq_false_iff]at hn;obtain⟨h1,h2,h3,h4,h5⟩:=hn;refine⟨by omega,λe=>h1 (by simp[e]),h4,?_⟩
  have h6:=(IB (s.length-1) s (by omega) h4 (h3.elim (λh3=>.inl (by omega)) .inr)).1
  unfold Lib.itoa;rw[if_neg (by simp),Int.toNat_natCast]
  exact h6
 ·cases h
def wJ{s:List UInt8}{b:UInt8}(hb:b∈s)(hd:UR b=false):(Xl s).2=false:=by
 rw[Bool.eq_false_iff];intro h;have:=List.all_eq_true.1 (mW h).2.2.1 b hb;rw[hd]at this;cases this
def Mj(l:List Int):List UInt8:=if l=[]then[45]else Lib.join (l.map Lib.itoa) [44]
def Qg1(c:UInt8)(L:List (List UInt8))(hL:Mb L):strings_Join L [c]=some (Lib.join L [c]):=by
 have hb:=Sj [c] rfl L hL.2;have hl:=hL.1;unfold strings_Join;rw[Qf (by omega),Qf (by omega)];rfl
def W3(l:List Int)(hl:l.length≤1048576)(hx:∀x∈l,i64 x):Mb (l.map Lib.itoa):=K9 hl λx h=>Nat.le_trans (VS x (hx x h)) (by omega)
def QaI{α:Type}{l:List α}(h:l≠[]):decide (ln l=0)=false:=by
 have:0<l.length:=List.length_pos_iff.2 h;exact Qe (by rw[Vq];omega)
def ql(l:List Int)(hl:l.length≤1048576)(hx:∀x∈l,i64 x):D9 l=some (Mj l):=by
 unfold D9 Mj;by_cases h0:l=[]
 ·subst h0;rfl
 have hi:=A3 l Lib.itoa (step:=Be l (ln l)) (λi out hi ho=>by
   simp only[Be,QY hi,QR hi,Q2 hi,Q3 (show(i:Int)<9223372036854775807 by omega),VT (show out.length+1≤2000000 by omega) (show 16≤1024 by omega),Qc,QL,AO _ (hx _ (List.getElem_mem hi)),Qa])
  (λout=>by simp only[Be,Q6 (Qg _),Qb])
 rw[if_neg h0,QaI h0,Qb,hi,Qa,Qg1 44 _ (W3 l hl hx)];rfl
def NL(l:List Int)(hx:∀x∈l,i64 x):(Mj l).length≤l.length*201+1:=by
 unfold Mj
 split
 ·simp
 ·have:=Sj [44] rfl (l.map Lib.itoa) (λy hy=>by
   obtain⟨x,h,rfl⟩:=List.mem_map.1 hy;exact Nat.le_trans (VS x (hx x h)) (by omega))
  rw[List.length_map]at this;omega
def Rw(a b:Int):List UInt8:=Lib.itoa a++[45]++Lib.itoa b
def ui(a b:Int)(ha:i64 a)(hb:i64 b):En a b=some (Rw a b):=by
 have h1:=VS a ha;have h2:=VS b hb;unfold En Rw;rw[AO a ha,AO b hb];simp only[Qa,BF (x:=Lib.itoa a) (y:=[45]) (by omega) (by simp),BF (x:=Lib.itoa a++[45]) (y:=Lib.itoa b) (by simp;omega) (by omega),QL,QP]
def bf(a b:Int)(ha:i64 a)(hb:i64 b):(Rw a b).length≤43:=by
 have h1:=VS a ha;have h2:=VS b hb;unfold Rw;simp;omega
def fZ(r:Report):List UInt8:=Lib.itoa r.Id++[32]++kT r.Kind++[32]++Mj r.Colours++[32]++Rw r.SizeLow r.SizeHigh++[32]++Mj r.Places++[32]++Rw r.Span.From r.Span.Until
def yE(r:Report):Prop:=(r.Colours.length≤1300∧r.Places.length≤1300)∧(∀x∈r.Colours,i64 x)∧(∀x∈r.Places,i64 x)∧i64 r.Id∧i64 r.SizeLow∧i64 r.SizeHigh∧i64 r.Span.From∧i64 r.Span.Until
def QiX(r:Report)(h:yE r)(b:Bool)(hb:Zv r=some b):DQ r=some (if b=true then fZ r else[]):=by
 obtain⟨⟨l1,l2⟩,h1,h2,h3,h4,h5,h6,h7⟩:=h;unfold DQ;rw[hb];cases b with
 |false=>rfl
 |true =>
  simp only[Qa,Qh,Qb,AO _ h3,ja,ql _ (show r.Colours.length≤1048576 by omega) h1,ql _ (show r.Places.length≤1048576 by omega) h2,ui _ _ h4 h5,ui _ _ h6 h7]
  have q1:=VS _ h3;have q2:=vA r.Kind;have q3:=NL _ h1;have q4:=NL _ h2;have q5:=bf _ _ h4 h5;have q6:=bf _ _ h6 h7;unfold strings_Join;have hlen:(Lib.join [Lib.itoa r.Id,kT r.Kind,Mj r.Colours,Rw r.SizeLow r.SizeHigh,Mj r.Places,Rw r.Span.From r.Span.Until] [32]).length≤140737488355328:=by
   simp[Lib.join,Lib.joinTail];omega
  rw[Qf hlen];simp[Lib.join,Lib.joinTail,fZ,QL]
end Go.Proofs.YtfhnbabcbhgffaaGreatDoor
