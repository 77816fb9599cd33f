import Derived.Test.YtfhnbabcbhgffaaGreatDoorPz9
set_option linter.unusedVariables false
set_option linter.unusedSimpArgs false
set_option maxRecDepth 100000
set_option linter.defProp false
namespace Go.Proofs.YtfhnbabcbhgffaaGreatDoor
open Go
def WO(c:l1Cur)(h:IX c):∃c' s,DH c=some (c',s)∧IX c'∧s.length≤200:=by
 unfold DH;have key:∀L:List (List UInt8),0<L.length→(∀x∈L,x.length≤200)→∃c' s,((FQ c L).bind λr=>some (r.1,r.2))=some (c',s)∧IX c'∧s.length≤200:=λL hL hx=>by
  obtain⟨c',x,e,k,x0,x1⟩:=Vp c (ln L) h;have:=x1 (by rw[Vq];omega)
  rw[Vq]at this;have hi:Q0 L x=true:=AA.2 ⟨x0,by omega⟩
  unfold FQ;rw[e,Qa,hi];obtain⟨hj,e2⟩:=Qiv hi;exact⟨c',gt L x,rfl,k,by rw[e2];exact hx _ (List.getElem_mem hj)⟩
 refine key _ ?_ ?_<;>decide
def vo(c:List Int)(hl:c.length≤1048576):∃a s,Ag c=some (a,s)∧Jh a∧s.length≤200:=by
 unfold Ag;obtain⟨c1,e1,k1⟩:=gV c hl;obtain⟨c2,a,e2,k2,j2⟩:=o0 c1 k1;obtain⟨c3,b,e3,k3⟩:=NG c2 8 k2;obtain⟨c4,s,e4,k4,h4⟩:=WO c3 k3;simp only[e1,e2,e3,e4,Qa];cases b with
 |true=>exact⟨_,_,rfl,Jh.zero,h4⟩
 |false=>exact⟨_,_,rfl,j2,h4⟩
def asks:List (List UInt8):=[[109,97,116,99,104,32,55,32,98,97,103,32,45,32,49,45,53,48,32,45,32,48,45,57,48],[97,115,107,32,49],[115,116,111,114,121,32,50],[102,97,116,101,32,50],[100,117,101],[98,97,108,97,110,99,101,32,48],[115,108,111,116,115],[99,108,97,105,109,115],[104,111,117,115,101],[97,117,100,105,116],[]]
def xa:∀x∈asks,x.length≤200∧∀w ws,jr x=w::ws→w∉chW:=by
 intro x hx;have h1:∀x∈asks,x.length≤200:=by decide
 have h2:∀x∈asks,(match jr x with|[]=>true|w::_=>!chW.contains w)=true:=by decide
 refine⟨h1 x hx,λw ws e hw=>?_⟩
 have:=h2 x hx;rw[e]at this;simp only[Bool.not_eq_true',List.contains_eq_mem,decide_eq_false_iff_not]at this;exact this hw
def Qk5(c:List Int)(a:Ql)(hm:QS a)(hk:Lk a):run (JM c a asks (ln asks)) 0=some (.brk ()):=by
 have h:=Xe (step:=JM c a asks (ln asks)) (λi=>(i:Int)) (r:=.brk ()) asks.length (λi hi=>by
   obtain⟨p1,p2⟩:=xa _ (List.getElem_mem hi);obtain⟨r,r1,_,r3⟩:=M6 a asks[i] hm hk (by omega)
   have hr:r.1=a:=by
    rcases r3.ch with h|⟨_,w,ws,q1,q2⟩
    ·exact h
    ·exact absurd q2 (p2 w ws q1)
   have:asks.length=11:=rfl;simp only[JM,QY hi,QR hi,Q2 hi,Qc,QL,r1,Qa,hr,b9 a hm,Qh,Qb,Q3 (show(i:Int)<9223372036854775807 by omega)])
  (by simp only[JM,Q6 (Qg _),Qb])
 exact h
def oB(s:List UInt8):(De 10 s).length=s.count 10+1:=by
 induction s with
 |nil=>rfl
 |cons b t ih =>
  obtain⟨x,l,h⟩:=Ev 10 t;unfold De;by_cases hb:b=10
  ·rw[if_pos hb,hb,List.length_cons,ih,List.count_cons_self]
  ·rw[if_neg hb,List.count_cons_of_ne hb,←ih,h]
   rfl
def zW(t:List UInt8):∃L,De 10 (t++[10])=L++[[]]∧L≠[]:=by
 induction t with
 |nil=>exact⟨[[]],rfl,by simp⟩
 |cons b t ih =>
  obtain⟨L,h,hne⟩:=ih;rw[List.cons_append];unfold De;rw[h];by_cases hb:b=10
  ·rw[if_pos hb];exact⟨[]::L,rfl,by simp⟩
  ·rw[if_neg hb]
   cases L with
   |nil=>exact absurd rfl hne
   |cons x L=>exact⟨az [b] (x::L),rfl,by simp[az]⟩
def Lt(s:List UInt8):Prop:=s=[]∨∃t,s=t++[10]
def ow(s:List UInt8)(h:Lt s):(bT s).length=s.count 10:=by
 rcases h with rfl|⟨t,rfl⟩
 ·rfl
 ·obtain⟨L,e,hne⟩:=zW t
  have hc:=oB (t++[10]);unfold bT;rw[dq _ (by rw[e];simp)]
  rw[if_pos (by simp[e])]
  rw[List.length_dropLast,hc];omega
def xl(a:List UInt8)(o:List (List UInt8))(o2:Bool)(hl:a.length≤1048576):run (Zh a o o2) (0,0)=some ((a.count 10:Nat):Int):=by
 have hle:∀i,(a.take i).count 10≤a.length:=λi=>Nat.le_trans List.count_le_length (by rw[List.length_take];omega)
 have h:=Xe (step:=Zh a o o2) (λi=>(((a.take i).count 10:Nat),(i:Int))) (r:=((a.count 10:Nat):Int)) a.length (λi hi=>by
   have hc:(a.take (i+1)).count 10=(a.take i).count 10+(if a[i]=10 then 1 else 0):=by
    rw[List.take_succ_eq_append_getElem hi,List.count_append,List.count_singleton];by_cases hb:a[i]=10<;>simp[hb]
   have:=hle i;simp only[Zh,QY hi,QR hi,Q2 hi,Qc,QL,Q3 (show(i:Int)<9223372036854775807 by omega),hc]
   by_cases hb:a[i]=10
   ·rw[if_pos hb,hb]
    have e:decide (((10:UInt8).toNat:Int)=10)=true:=rfl;rw[e,Qc,Q3 (show(((a.take i).count 10:Nat):Int)<9223372036854775807 by omega)]
   ·rw[if_neg hb,Qe (λq=>hb (UInt8.toNat_inj.1 (by have:(10:UInt8).toNat=10:=rfl;omega))),Qb]
    all_goals rfl)
  (by simp only[Zh,Q6 (Qg _),Qb,List.take_length])
 simpa using h
def aN{x y:List UInt8}(hx:x.length≤100000)(hy:y.length≤1000):VK x y=true:=BF (by omega) (by omega)
def QeI:∃s,run X5 ([],0)=some s∧Lt s∧s.length≤1048576:=by
 have key:∀(m i:Nat) (s:List UInt8),i+m=61→Lt s→s.length≤6*i→∃r,run X5 (s,(i:Int))=some r∧Lt r∧r.length≤1048576:=by
  intro m
  induction m with
  |zero =>
   intro i s hi hs hl;have:i=61:=by omega
   subst this;exact⟨s,rR rfl,hs,by omega⟩
  |succ m ih =>
   intro i s hi hs hl;have h1:X5 (s,(i:Int))=some (.inl (QP s [104,111,117,115,101,10],((i+1:Nat):Int))):=by
    simp only[X5,Qf (show(i:Int)<61 by omega),Qc,aN (show s.length≤100000 by omega) (show([104,111,117,115,101,10]:List UInt8).length≤1000 by simp),QL,Q3 (show(i:Int)<9223372036854775807 by omega)]
   obtain⟨r,q⟩:=ih (i+1) (QP s [104,111,117,115,101,10]) (by omega) (.inr ⟨s++[104,111,117,115,101],by simp[QP]⟩) (by rw[Zo];simp only[List.length_cons,List.length_nil];omega)
   exact⟨r,by rw[rI h1];exact q.1,q.2⟩
 exact key 61 0 [] rfl (.inl rfl) (by simp)
def pW:∀(m:Nat) (c:l1Cur) (s:List UInt8),m≤12→IX c→Lt s→s.length≤1000+201*(12-m)→∃r,run XT (c,s,(m:Int))=some r∧Lt r∧r.length≤1048576:=by
 intro m
 induction m with
 |zero =>
  intro c s _ _ hs hl;exact⟨s,rR rfl,hs,by omega⟩
 |succ m ih =>
  intro c s hm hc hs hl;obtain⟨c',w,e,k,hw⟩:=WO c hc;have h1:XT (c,s,((m+1:Nat):Int))=some (.inl (c',QP (QP s w) [10],(m:Int))):=by
   simp only[XT,Qf (show(0:Int)<((m+1:Nat):Int)by omega),Qc,e,Qa,aN (show s.length≤100000 by omega) (show w.length≤1000 by omega),QL,
    aN (show(QP s w).length≤100000 by rw[Zo];omega) (show([10]:List UInt8).length≤1000 by simp),show((m+1:Nat):Int)-1=(m:Int)by omega,Vt (show(-9223372036854775808:Int)≤(m:Int)by omega) (show(m:Int)≤9223372036854775807 by omega)]
  obtain⟨r,q⟩:=ih c' (QP (QP s w) [10]) (by omega) k (.inr ⟨s++w,by simp[QP]⟩) (by rw[Zo,Zo];simp only[List.length_cons,List.length_nil];omega)
  exact⟨r,by rw[rI h1];exact q.1,q.2⟩
def xM(c:List Int)(hl:c.length≤1048576):∃s,AK c=some s∧Lt s∧s.length≤1048576:=by
 unfold AK;obtain⟨c1,e1,k1⟩:=gV c hl;obtain⟨c2,b,e2,k2⟩:=NG c1 20 k1;obtain⟨c3,d,e3,k3⟩:=NG c2 4 k2;obtain⟨c4,x,e4,k4,x0,x1⟩:=Vp c3 12 k3;simp only[e1,e2,e3,e4,Qa];cases b with
 |true =>
  obtain⟨s,s1,s2,s3⟩:=QeI;exact⟨s,by rw[s1];rfl,s2,s3⟩
 |false =>
  have hx:=x1 (by omega)
  obtain⟨m,rfl⟩:=Int.eq_ofNat_of_zero_le x0;cases d with
  |true =>
   obtain⟨s,s1,s2,s3⟩:=pW m c4 [] (by omega) k4 (.inl rfl) (by simp)
   exact⟨s,by simp only[Qb,Qh,s1,Qa],s2,s3⟩
  |false =>
   obtain⟨s,s1,s2,s3⟩:=pW m c4 [110,101,119,32,49,10,102,105,110,100,32,50,32,98,97,103,32,51,32,52,32,57,48,48,32,53,32,48,32,55,32,49,32,50,10,102,105,110,100,32,52,32,112,104,111,110,101,32,48,32,51,32,54,48,48,48,48,32,50,32,48,32,56,32,53,32,54,10,99,108,97,105,109,32,49,32,49,49,32,50,10] (by omega) k4 (.inr ⟨[110,101,119,32,49,10,102,105,110,100,32,50,32,98,97,103,32,51,32,52,32,57,48,48,32,53,32,48,32,55,32,49,32,50,10,102,105,110,100,32,52,32,112,104,111,110,101,32,48,32,51,32,54,48,48,48,48,32,50,32,48,32,56,32,53,32,54,10,99,108,97,105,109,32,49,32,49,49,32,50],rfl⟩) (by simp only[List.length_cons,List.length_nil];omega)
   exact⟨s,by simp only[Qc,Qb,Qi,s1,Qa],s2,s3⟩
def yz:List Qr:=[(⟨1,5,0⟩:Qr),(⟨2,10,0⟩:Qr),(⟨3,20,0⟩:Qr),(⟨4,50,0⟩:Qr)]
def Qdt:JX [(⟨1,5,0⟩:Qr),(⟨2,10,0⟩:Qr),(⟨3,20,0⟩:Qr),(⟨4,50,0⟩:Qr)]=some true:=by
 show JX yz=some true;obtain⟨b,b1,b2,_⟩:=K8 yz (by simp[yz])
 rw[b2,←b1];unfold Jb;have h7:∀i:Nat,i<4→run (V7 yz (i:Int)) 0=some (.brk ()):=λi hi=>by
  have h:=Xe (step:=V7 yz (i:Int)) (λj=>(j:Int)) (r:=.brk ()) i (λj hj=>by
    rcases(by omega:i=1∧j=0∨i=2∧j=0∨i=2∧j=1∨i=3∧j=0∨i=3∧j=1∨i=3∧j=2)with⟨rfl,rfl⟩|⟨rfl,rfl⟩|⟨rfl,rfl⟩|⟨rfl,rfl⟩|⟨rfl,rfl⟩|⟨rfl,rfl⟩<;>rfl)
   (by rcases(by omega:i=0∨i=1∨i=2∨i=3)with rfl|rfl|rfl|rfl<;>rfl)
  exact h
 have h:=Xe (step:=VC yz) (λi=>(i:Int)) (r:=.brk ()) 4 (λi hi=>by
   have e:VC yz (i:Int)=(run (V7 yz (i:Int)) 0).bind (Zy (λr4=>some (.inr (.ret r4))) λb2=>some (.inl (QV ((i:Int)+1)))):=by
    rcases(by omega:i=0∨i=1∨i=2∨i=3)with rfl|rfl|rfl|rfl<;>rfl
   rw[e,h7 i hi]
   rcases(by omega:i=0∨i=1∨i=2∨i=3)with rfl|rfl|rfl|rfl<;>rfl)
  rfl
 rw[show run (VC yz) 0=some (.brk ())from h];rfl
def YU(c:List Int)(h1:(okL (xJ .u8)) c):GC c=some true:=by
 unfold GC Se;rw[Qa];by_cases hb:1048576<ln c
 ·rw[Qf hb];rfl
 rw[Qe hb,Qb];have hl:c.length≤1048576:=by rw[Vq]at hb;omega
 obtain⟨a,s,e1,j,hs⟩:=vo c hl;obtain⟨r,r1,_,r3⟩:=M6 a s j.sm j.lk (by omega)
 obtain⟨t,t1,t2,t3⟩:=xM c hl;obtain⟨q,q1,_,q2,q3⟩:=iB t t3;have hne:=r3.ne j.bd;have hcond:(bif decide (r.2=[119,104,97,116])then(ZZ r.1 a).bind λr4=>some ((!r4)||(decide (r.2=[])))else some (decide (r.2=[])))=some false:=by
  rw[Qe hne];by_cases hw:r.2=[119,104,97,116]
  ·have hr:r.1=a:=by
    rcases r3.ch with h|⟨h,_⟩
    ·exact h
    ·rw[hw]at h;cases h
   rw[Qf hw,Qc,hr,b9 a j.sm];rfl
  ·rw[Qe hw];rfl
 have hask:=Qk5 c r.1 r3.kp.1 (j.lk.kp r3.kp);have hcnt:=xl t q.1 q.2 t3;have hc:=ow t t2;simp only[e1,Qa,r1,hcond,Qb];refine(congrArg (λz=>Option.bind z _) (show run (JM c r.1 _ _) 0=some (.brk ())from hask)).trans ?_
 simp only[Qa,Qb,Zy,impl_ExampleSlots,Qdt,Qh,t1,q1,hcnt];obtain⟨o,ok⟩:=q
 rcases q3 with⟨he,h60⟩|⟨ht,hn⟩
 ·injection he with h1 h2
  subst h1;subst h2;rw[hc]at h60;rw[Qf (show(60:Int)<((t.count 10:Nat):Int)by omega)]
  rfl
 ·simp only at ht hn
  subst ht;rw[hc]at hn;simp only[Qc,Qf (show ln o=((t.count 10:Nat):Int)by rw[Vq];omega),Bool.true_or]
end Go.Proofs.YtfhnbabcbhgffaaGreatDoor
