import Derived.Test.YtfhnbabcbhgffaaGreatDoorPz7
set_option linter.unusedVariables false
set_option linter.unusedSimpArgs false
set_option linter.defProp false
namespace Go.Proofs.YtfhnbabcbhgffaaGreatDoor
open Go
def pH(a:Ql)(n:List Int)(hm:QS a):OK a Xg n=some (a,FH):=by
 have he:JU Xg n=some noEv:=by
  unfold JU;rw[show decide (Xg=[99,108,97,105,109])=false from rfl,show decide (Xg=[97,110,115,119,101,114])=false from rfl,show decide (Xg=[115,101,114,118,101])=false from rfl,show decide (Xg=[99,108,101,97,114])=false from rfl,show decide (Xg=[115,101,108,108])=false from rfl,show decide (Xg=[116,105,99,107])=false from rfl];simp only[Bool.and_false,Qb];rfl
 rw[LM a Xg n hm (by rw[show decide (Xg=[110,101,119])=false from rfl];rfl) he]
 rw[show AT a Xg=some FH from rfl];by_cases z0:ln n=0
 ·rw[Qf z0];rfl
 by_cases z1:ln n=1
 ·rw[Qe z0,Qf z1]
  have:Q0 n 0=true:=by rw[AA];rw[Vq]at z1;omega
  rw[this];rfl
 ·rw[Qe z0,Qe z1];rfl
def iz(b c d e f g h i j k:List UInt8)(hc:kO c=0):Z7 [Xg,b,c,d,e,f,g,h,i,j,k]=some noEv:=by
 unfold Z7;have:EV c=some 0:=by rw[jc,(bc c).1,hc]
 simp only[show decide (ln [Xg,b,c,d,e,f,g,h,i,j,k]=11)=true from rfl,Qh,Qb,show Q0 [Xg,b,c,d,e,f,g,h,i,j,k] 0=true from rfl,show Q0 [Xg,b,c,d,e,f,g,h,i,j,k] 2=true from rfl,QL,show decide (gt [Xg,b,c,d,e,f,g,h,i,j,k] 0=[102,105,110,100])=true from rfl,show gt [Xg,b,c,d,e,f,g,h,i,j,k] 2=c from rfl,this,Qa];rfl
def ou(b c d e f g h i j k:List UInt8)(hc:kO c≠0):Z7 [Xg,b,c,d,e,f,g,h,i,j,k]=(Cn [b,d,e,f,g,h,i,j,k]).bind λr2=>(bif !r2.2 then some noEv else nd (Q0 r2.1 0)<|nd (Q0 r2.1 1)<|nd (Q0 r2.1 2)<|nd (Q0 r2.1 3)<|nd (Q0 r2.1 4)<|nd (Q0 r2.1 5)<|nd (Q0 r2.1 6)<|nd (Q0 r2.1 7)<|nd (Q0 r2.1 8)<|some (⟨1,⟨⟨gt r2.1 0,kO c,gt r2.1 1,gt r2.1 2,gt r2.1 3⟩,gt r2.1 4,gt r2.1 5,gt r2.1 6⟩,[(⟨1,gt r2.1 7⟩:Mark),(⟨2,gt r2.1 8⟩:Mark)],0,0,0,[]⟩:Event)):=by
 unfold Z7;have:EV c=some (kO c):=by rw[jc,(bc c).1]
 simp only[show decide (ln [Xg,b,c,d,e,f,g,h,i,j,k]=11)=true from rfl,Qh,Qb,show Q0 [Xg,b,c,d,e,f,g,h,i,j,k] 0=true from rfl,show Q0 [Xg,b,c,d,e,f,g,h,i,j,k] 1=true from rfl,show Q0 [Xg,b,c,d,e,f,g,h,i,j,k] 2=true from rfl,QL,show decide (gt [Xg,b,c,d,e,f,g,h,i,j,k] 0=[102,105,110,100])=true from rfl,show gt [Xg,b,c,d,e,f,g,h,i,j,k] 2=c from rfl,show gt [Xg,b,c,d,e,f,g,h,i,j,k] 1=b from rfl,this,Qa,Qe hc,
  show Cy 3 (ln [Xg,b,c,d,e,f,g,h,i,j,k]) (ln [Xg,b,c,d,e,f,g,h,i,j,k])=true from rfl,show cut [Xg,b,c,d,e,f,g,h,i,j,k] 3 (ln [Xg,b,c,d,e,f,g,h,i,j,k])=[d,e,f,g,h,i,j,k]from rfl,show rm (1+[d,e,f,g,h,i,j,k].length) 16=true from rfl,List.singleton_append]
 rfl
def nv(a:Ql)(l:List UInt8)(ws:List (List UInt8))(hm:QS a)(hl:l.length≤200)(hw:jr l=Xg::ws)(h10:ws.length=10):∃r,Re a Xg ws=some r∧Xj a l=some r∧Kr a True r:=by
 obtain⟨b,c,d,e,f,g,h,i,j,k,rfl⟩:=QfZ h10;have hself:Kr a True (a,FH):=Kr.self hm λ_=>by decide
 have hn6:¬(([b,c,d,e,f,g,h,i,j,k]:List (List UInt8)).length=6∧Xg=Bz):=by rintro⟨q,_⟩;simp at q
 have hI:Re a Xg [b,c,d,e,f,g,h,i,j,k]=(bif (Xl b).2&&(decide (0<kO c)&&[d,e,f,g,h,i,j,k].all λx=>(Xl x).2)then T5 a Xg ((Xl b).1::kO c::[d,e,f,g,h,i,j,k].map λx=>(Xl x).1)else some (a,FH)):=by
  unfold Re;rw[show decide (fU Xg=(([b,c,d,e,f,g,h,i,j,k]:List (List UInt8)).length:Int))=true from rfl,show decide (Xg=Bz)=false from rfl,ru];simp only[Qh,Qb,Qa];cases ((Xl b).2&&(decide (0<kO c)&&[d,e,f,g,h,i,j,k].all λx=>(Xl x).2))<;>rfl
 have hno:Z7 (Xg::[b,c,d,e,f,g,h,i,j,k])=some noEv→Xj a l=some (a,FH):=λhf=>by
  rw[Yz hm hl hw hf hn6]
  rcases Wf [b,c,d,e,f,g,h,i,j,k] (by simp)with⟨_,q⟩|⟨_,o,q⟩
  ·rw[q];exact(show _=OK a Xg ([b,c,d,e,f,g,h,i,j,k].map λx=>(Xl x).1)from rfl).trans (pH a _ hm)
  ·rw[q];rfl
 rw[hI];by_cases hc:kO c=0
 ·refine⟨(a,FH),?_,hno (iz b c d e f g h i j k hc),hself⟩
  rw[Qe (show ¬0<kO c by omega),Bool.false_and,Bool.and_false]
  rfl
 have hfk:=ou b c d e f g h i j k hc;have h0:=(bc c).2.1;rw[Qf (show 0<kO c by omega),Bool.true_and]
 rcases Wf [b,d,e,f,g,h,i,j,k] (by simp)with⟨q1,q⟩|⟨q1,o,q⟩
 ·rw[List.all_cons]at q1
  rw[q1,Qc];rw[q]at hfk;obtain⟨r,r1,r2,r3⟩:=fN a ⟨⟨(Xl b).1,kO c,(Xl d).1,(Xl e).1,(Xl f).1⟩,(Xl g).1,(Xl h).1,(Xl i).1⟩ [(⟨1,(Xl j).1⟩:Mark),(⟨2,(Xl k).1⟩:Mark)] 0 hm (by simp)
  refine⟨Rr a r,Gq a _ _ hm r ?_,?_,I5 hm trivial r3 λz=>((ck a _ _ _ hm _ r1).1 z).2⟩
  ·show(Ej a ⟨⟨(Xl b).1,kO c,(Xl d).1,(Xl e).1,(Xl f).1⟩,(Xl g).1,(Xl h).1,(Xl i).1⟩ [(⟨1,(Xl j).1⟩:Mark),(⟨2,(Xl k).1⟩:Mark)] 0).bind _=_
   rw[r2];rfl
  ·exact jg hm hl hw rfl hfk rfl (by rcases Wf [b,c,d,e,f,g,h,i,j,k] (by simp)with⟨_,p⟩|⟨_,o,p⟩<;>exact⟨_,p⟩) (Gn r1)
 ·rw[List.all_cons]at q1
  rw[q1,Qb];rw[q]at hfk;exact⟨(a,FH),rfl,hno hfk,hself⟩
def M6(a:Ql)(l:List UInt8)(hm:QS a)(hk:Lk a)(hl:l.length≤1048576):∃r,Zk a l=some r∧Xj a l=some r∧Kr a (∃w ws,jr l=w::ws∧w∈chW) r:=by
 have hself:∀W,Kr a W (a,FH):=λW=>Kr.self hm λ_=>by decide
 rw[oq a l hm hl];by_cases h200:200<l.length
 ·rw[if_pos h200]
  exact⟨_,rfl,bt a l hm hl (.inl h200),hself _⟩
 rw[if_neg h200];cases hw:jr l with
 |nil=>exact⟨_,rfl,bt a l hm hl (.inr hw),hself _⟩
 |cons w ws =>
  have hlen:=mK l;rw[hw]at hlen;simp only[List.length_cons]at hlen;show ∃r,Re a w ws=some r∧Xj a l=some r∧Kr a (∃w' ws',w::ws=w'::ws'∧w'∈chW) r;by_cases hM:ws.length=6∧w=Bz
  ·obtain⟨h6,rfl⟩:=hM
   obtain⟨s,s1,s2,s3⟩:=ij a l ws hm hk (by omega) hw h6
   exact⟨(a,s),s1,s2,Kr.self hm λ_=>s3⟩
  by_cases hF:w=Xg∧ws.length=10
  ·obtain⟨rfl,h10⟩:=hF
   obtain⟨r,r1,r2,r3⟩:=nv a l ws hm (by omega) hw h10
   exact⟨r,r1,r2,r3.mono λ_=>⟨_,_,rfl,by simp[chW]⟩⟩
  have hS:=Yz hm (show l.length≤200 by omega) hw (fK w ws hF) hM
  unfold Re;by_cases hA:fU w=(ws.length:Int)
  ·have h6:w≠Bz:=λe=>hM ⟨by subst e;have:(6:Int)=(ws.length:Int):=hA;omega,e⟩
   have h10:w≠Xg:=λe=>hF ⟨e,by subst e;have:(10:Int)=(ws.length:Int):=hA;omega⟩
   rw[Qf hA,Qe h6,sk w ws (by omega) h10,hS]
   rcases Wf ws (by omega)with⟨q1,q⟩|⟨q1,o,q⟩
   ·rw[if_pos q1,q]
    obtain⟨r,r1,r2,r3⟩:=Qrq a w (ws.map λx=>(Xl x).1) hm hk (by rw[Vq,List.length_map];exact hA) h6 h10
    exact⟨r,r1,r2,r3.mono λh=>⟨_,_,rfl,h⟩⟩
   ·rw[if_neg (by rw[q1];decide),q]
    exact⟨(a,FH),rfl,rfl,hself _⟩
  ·rw[Qe hA,hS]
   refine⟨(a,FH),rfl,?_,hself _⟩
   rcases Wf ws (by omega)with⟨q1,q⟩|⟨q1,o,q⟩
   ·rw[q]
    exact nA a w (ws.map λx=>(Xl x).1) hm (by rw[Vq,List.length_map];exact hA)
   ·rw[q];rfl
def Qc1(s:List UInt8)(hl:s.length≤1048576):∀(m a i:Nat) (o:List (List UInt8)),i+m=s.length→a≤i→o.length≤i →
  run (Jw s) (o,(a:Int),(i:Int))=some (o++tr (az (cut s (a:Int) (i:Int)) (De 10 (s.drop i)))):=by
 intro m
 induction m with
 |zero =>
  intro a i o hi ha ho;have e:i=s.length:=by omega
  subst e;by_cases hal:a=s.length
  ·subst hal
   rw[rR (r:=o) (by
    simp only[Jw,O8 (Qg s.length),jH,Qc,Bool.and_self])]
   rw[Ld];simp[De,az,tr]
  ·have hlt:a<s.length:=by omega
   rw[rI (s':=(o++[cut s (a:Int) (s.length:Int)],((s.length+1:Nat):Int),((s.length+1:Nat):Int))) (by
    simp only[Jw,O8 (Qg s.length),jH,iP hlt,Bool.and_false,Qb,Qc,Qa,Q3 (show(s.length:Int)<9223372036854775807 by omega),
     SG (l:=s) ha (Qg _),d5 (show o.length+1≤2000000 by omega),QL])]
   rw[rR (r:=o++[cut s (a:Int) (s.length:Int)]) (by
    simp only[Jw,iF (Nat.lt_succ_self s.length),Qb])]
   have hne:cut s (a:Int) (s.length:Int)≠[]:=by
    unfold cut;simp only[Int.toNat_natCast,List.take_length];intro h;rw[List.drop_eq_nil_iff]at h;omega
   simp only[List.drop_length,De,az,List.append_nil,tr];rw[if_neg hne]
 |succ m ih =>
  intro a i o hi ha ho;have hlt:i<s.length:=by omega
  have hd:s.drop i=s[i]::s.drop (i+1):=List.drop_eq_getElem_cons hlt;have hstep:Jw s (o,(a:Int),(i:Int))=(bif decide (s[i]=10)then some (.inl (o++[cut s (a:Int) (i:Int)],((i+1:Nat):Int),((i+1:Nat):Int)))else some (.inl (o,(a:Int),((i+1:Nat):Int)))):=by
   simp only[Jw,O8 (Nat.le_of_lt hlt),iP hlt,Bool.false_and,QR hlt,Q2 hlt,Qc,Qb,QL,Qa,show decide (((s[i].toNat:Nat):Int)=10)=decide (s[i]=10)from dz s[i] 10,
    Q3 (show(i:Int)<9223372036854775807 by omega),SG (l:=s) ha (Nat.le_of_lt hlt),d5 (show o.length+1≤2000000 by omega)]
  rw[hd,De];by_cases hc:s[i]=10
  ·rw[Qf hc,Qc]at hstep
   rw[rI hstep,ih (i+1) (i+1) _ (by omega) (by omega) (by simp;omega),if_pos hc,Ld,NT (Ev 10 _)]
   simp only[az,List.append_nil];rw[dI _ (Ev 10 _)];simp
  ·rw[Qe hc,Qb]at hstep
   rw[rI hstep,ih a (i+1) _ (by omega) (by omega) (by omega),if_neg hc,WG s a i hlt ha,dW _ _ (Ev 10 _)]
def bT(s:List UInt8):List (List UInt8):=tr (De 10 s)
def yu(s:List UInt8)(hl:s.length≤1048576):run (Jw s) ([],0,0)=some (bT s):=by
 rw[show(([]:List (List UInt8)),(0:Int),(0:Int))=([],((0:Nat):Int),((0:Nat):Int))from rfl,Qc1 s hl s.length 0 0 [] (by omega) (by omega) (by simp),Ld,List.drop_zero,NT (Ev 10 _)]
 rfl
def Lk.zero:Lk ⟨0,[],[],[],[],[],[],[],0⟩:=⟨df,df,by simp,by simp,by simp,by simp⟩
def sH:QS ⟨0,[],[],[],[],[],[],[],0⟩:=⟨by simp,⟨by simp,by simp⟩,by simp,by simp,by simp,by simp,by simp⟩
def Lk.kp{a x:Ql}(hk:Lk a)(h:Kp a x):Lk x:=by
 obtain⟨hm,rfl|hv⟩:=h
 ·exact hk
 ·obtain⟨b,b1,b2⟩:=UO x hm
  rw[hv]at b1;injection b1 with b1
  subst b1;exact Lk.of_valid hm (dE x hm b2) (W2 x hm hv).2.1
def nx(L:List (List UInt8))(hL:L.length≤1000)(hx:∀x∈L,x.length≤1048576):∀(m i:Nat) (a:Ql) (o:List (List UInt8)),i+m=L.length→QS a→Lk a→o.length=i →
  ∃o',run (XF L (ln L)) (a,o,(i:Int))=some o'∧run (JH L) (a,o,(i:Int))=some o'∧o'.length=L.length:=by
 intro m
 induction m with
 |zero =>
  intro i a o hi hm hk ho;have e:i=L.length:=by omega
  subst e;exact⟨o,rR (by simp only[XF,Q6 (Qg _),Qb]),rR (by simp only[JH,Q6 (Qg _),Qb]),ho⟩
 |succ m ih =>
  intro i a o hi hm hk ho;have hlt:i<L.length:=by omega
  obtain⟨r,r1,r2,r3⟩:=M6 a L[i] hm hk (hx _ (List.getElem_mem hlt));have h1:XF L (ln L) (a,o,(i:Int))=some (.inl (r.1,o++[r.2],((i+1:Nat):Int))):=by
   simp only[XF,QY hlt,QR hlt,Q2 hlt,Qc,QL,r1,Qa,d5 (show o.length+1≤2000000 by omega),Q3 (show(i:Int)<9223372036854775807 by omega)]
  have h2:JH L (a,o,(i:Int))=some (.inl (r.1,o++[r.2],((i+1:Nat):Int))):=by
   simp only[JH,QY hlt,QR hlt,Q2 hlt,Qc,QL,r2,Qa,d5 (show o.length+1≤2000000 by omega),Q3 (show(i:Int)<9223372036854775807 by omega)]
  obtain⟨o',q1,q2,q3⟩:=ih (i+1) r.1 (o++[r.2]) (by omega) r3.kp.1 (hk.kp r3.kp) (by simp;omega)
  exact⟨o',by rw[rI h1];exact q1,by rw[rI h2];exact q2,q3⟩
def iB(s:List UInt8)(hl:s.length≤1048576):∃r,BP s=some r∧HX s=some r∧r.1.length≤60∧(r=([],false)∧60<(bT s).length∨r.2=true∧r.1.length=(bT s).length):=by
 have hp:=L2 10 s;have hmem:∀x∈bT s,x.length≤1048576:=λx hx=>Nat.le_trans (UD 10 s x (rk _ x hx)).1 hl
 obtain⟨x0,l0,hne⟩:=Ev 10 s;have hne':De 10 s≠[]:=by rw[hne];simp
 have hpos:0<(De 10 s).length:=List.length_pos_iff.2 hne';have hI:BP s=(bif decide (60<ln (bT s))then some ([],false)else(run (XF (bT s) (ln (bT s))) ((⟨0,[],[],[],[],[],[],[],0⟩:Ql),[],0)).bind λb=>some (b,true)):=by
  unfold BP bT;rw[cK s 10 (by omega),Qa]
  have e1:QV (ln (De 10 s)-1)=(((De 10 s).length-1:Nat):Int):=by rw[Vq,Vt (by omega) (by omega)];omega
  have hlt:(De 10 s).length-1<(De 10 s).length:=by omega
  have e2:(De 10 s)[(De 10 s).length-1]=(De 10 s).getLast hne':=(List.getLast_eq_getElem hne').symm;rw[e1,QR hlt,Q2 hlt,e2,dq _ hne'];simp only[QL];by_cases h:(De 10 s).getLast hne'=[]
  ·rw[Qf h,Qc,if_pos h]
   have e3:cut (De 10 s) 0 (((De 10 s).length-1:Nat):Int)=(De 10 s).dropLast:=by
    unfold cut;rw[Int.toNat_natCast,List.dropLast_eq_take];rfl
   have e4:Cy 0 (((De 10 s).length-1:Nat):Int) (ln (De 10 s))=true:=SG (a:=0) (by omega) (by omega)
   rw[e3,e4];rfl
  ·rw[Qe h,Qb,if_neg h]
 have hS:HX s=(bif decide (60<ln (bT s))then some ([],false)else(run (JH (bT s)) ((⟨0,[],[],[],[],[],[],[],0⟩:Ql),[],0)).bind λb=>some (b,true)):=by
  unfold HX;rw[yu s hl,Qa]
 rw[hI,hS];by_cases h60:60<(bT s).length
 ·rw[Qf (show(60:Int)<ln (bT s)by rw[Vq];omega)]
  exact⟨_,rfl,rfl,by simp,.inl ⟨rfl,h60⟩⟩
 ·rw[Qe (show ¬(60:Int)<ln (bT s)by rw[Vq];omega)]
  obtain⟨o,o1,o2,o3⟩:=nx (bT s) (by omega) hmem (bT s).length 0 _ [] (by omega) sH Lk.zero rfl
  have o1':run (XF (bT s) (ln (bT s))) ((⟨0,[],[],[],[],[],[],[],0⟩:Ql),[],0)=some o:=o1;have o2':run (JH (bT s)) ((⟨0,[],[],[],[],[],[],[],0⟩:Ql),[],0)=some o:=o2;rw[o1',o2'];exact⟨(o,true),rfl,rfl,by simp only;omega,.inr ⟨rfl,o3⟩⟩
def ap(a:Int)(m:Nat)(hm:m<9223372036854775808):∃x,KC .and .i64 a (m:Int)=x∧0≤x∧x≤(m:Int):=by
 refine⟨_,rfl,?_⟩;have e:((m:Int)%2^IntKind.i64.bits).toNat=m:=by
  rw[show((2:Int)^IntKind.i64.bits)=18446744073709551616 from rfl];omega
 have h:=@Nat.and_le_right (a%2^IntKind.i64.bits).toNat m;unfold KC;simp only[e,vm];rw[Vt (by omega) (by omega)]
 omega
def IX(c:l1Cur):Prop:=c.b.length≤1048576∧0≤c.i∧c.i≤c.b.length
def gV(l:List Int)(hl:l.length≤1048576):∃c,Hc l=some c∧IX c:=by
 have key:∀(m k:Nat) (a:Int),k+m=l.length→∃r,run (A6 l) (a,(k:Int))=some r:=by
  intro m
  induction m with
  |zero =>
   intro k a hk;have:k=l.length:=by omega
   subst this;exact⟨a,by rw[QZ];simp only[A6,Q6 (Qg _),Bool.false_and,Qb,Qa]⟩
  |succ m ih =>
   intro k a hk;have hlt:k<l.length:=by omega
   cases h4:decide ((k:Int)<4000)with
   |false=>exact⟨a,by rw[QZ];simp only[A6,h4,Bool.and_false,Qb,Qa]⟩
   |true =>
    obtain⟨r,hr⟩:=ih (k+1) (KC .and .i64 (QV (QV (QV (a*137)+QV (gt l (k:Int)))+11)) 1073741823) (by omega)
    exact⟨r,by rw[QZ];simp only[A6,QY hlt,h4,Bool.and_self,QR hlt,Qc,QL,Q3 (show(k:Int)<9223372036854775807 by omega),Qa];exact hr⟩
 obtain⟨r,hr⟩:=key l.length 0 (QV (193017+ln l)) (by omega)
 refine⟨⟨l,0,r⟩,?_,hl,Int.le_refl _,by simp only;omega⟩
 unfold Hc;rw[show run (A6 l) (QV (193017+ln l),0)=some r from hr];rfl
def db(a:Int):0≤KC .and .i64 a 255∧KC .and .i64 a 255≤255:=by
 obtain⟨x,e,h0,h1⟩:=ap a 255 (by omega)
 rw[show((255:Nat):Int)=255 from rfl]at e h1;rw[e];exact⟨h0,h1⟩
def NJ(c:l1Cur)(h:IX c):∃c' x,Dp c=some (c',x)∧IX c'∧0≤x∧x≤255:=by
 obtain⟨h1,h2,h3⟩:=h;unfold Dp;by_cases hi:c.i<ln c.b
 ·have hb:Q0 c.b c.i=true:=by rw[AA];rw[Vq]at hi;omega
  rw[Vq]at hi;rw[Qf (show c.i<ln c.b from hi),hb];have e:QV (c.i+1)=c.i+1:=Vt (by omega) (by omega)
  refine⟨_,_,rfl,⟨h1,?_,?_⟩,(db _).1,(db _).2⟩
  ·show 0≤QV (c.i+1)
   omega
  ·show QV (c.i+1)≤(c.b.length:Int)
   omega
 ·rw[Qe hi]
  exact⟨_,_,rfl,⟨h1,h2,h3⟩,(db _).1,(db _).2⟩
def l9{x n:Int}(hx:0≤x)(hn:0<n):0≤x.tmod n∧x.tmod n<n:=⟨Int.tmod_nonneg _ hx,Int.tmod_lt_of_pos x hn⟩
def Vp(c:l1Cur)(n:Int)(h:IX c):∃c' x,Vd c n=some (c',x)∧IX c'∧0≤x∧(0<n→x<n):=by
 unfold Vd;by_cases h0:n≤0
 ·rw[Qf h0];exact⟨c,0,rfl,h,Int.le_refl _,λhn=>by omega⟩
 ·have hz:(!decide (n=0))=true:=by simp;omega
  rw[Qe h0,hz];by_cases h1:n≤256
  ·rw[Qf h1]
   obtain⟨c1,x1,e1,k1,l1,u1⟩:=NJ c h;have:=l9 l1 (show 0<n by omega)
   exact⟨c1,x1.tmod n,by simp only[e1,Qb,Qc,Qa,QL],k1,this.1,λ_=>this.2⟩
  ·rw[Qe h1]
   obtain⟨c1,x1,e1,k1,l1,u1⟩:=NJ c h;obtain⟨c2,x2,e2,k2,l2,u2⟩:=NJ c1 k1;obtain⟨c3,x3,e3,k3,l3,u3⟩:=NJ c2 k2;have e4:QV (QV (QV (x1*65536)+QV (x2*256))+x3)=x1*65536+x2*256+x3:=by
    rw[Vt (n:=x1*65536) (by omega) (by omega),Vt (n:=x2*256) (by omega) (by omega),Vt (n:=x1*65536+x2*256) (by omega) (by omega),Vt (by omega) (by omega)]
   have:=l9 (show 0≤x1*65536+x2*256+x3 by omega) (show 0<n by omega)
   exact⟨c3,(x1*65536+x2*256+x3).tmod n,by simp only[e1,e2,e3,e4,Qb,Qa,QL],k3,this.1,λ_=>this.2⟩
def eu(c:l1Cur)(l:List Int)(h:IX c)(hl:0<l.length):∃c' x,Cq c l=some (c',x)∧IX c'∧x∈l:=by
 obtain⟨c1,x1,e1,k1,l1,u1⟩:=Vp c (ln l) h;have hlt:=u1 (by rw[Vq];omega)
 rw[Vq]at hlt;obtain⟨k,rfl⟩:∃k:Nat,x1=(k:Int):=⟨x1.toNat,by omega⟩
 have hi:k<l.length:=by omega
 refine⟨c1,l[k],?_,k1,List.getElem_mem hi⟩;unfold Cq;rw[e1];simp only[Qa,QR hi,Q2 hi,QL]
def gj(c:l1Cur)(h:IX c):∃c' l,Cv c=some (c',l)∧IX c'∧l.length≤100:=by
 have key:∀(m:Nat) (c:l1Cur) (l:List Qr) (i:Int),IX c→i+(m:Int)=8→0≤i→l.length+m≤100→∃c' l',run JE (c,l,i)=some (c',l')∧IX c'∧l'.length≤100:=by
  intro m
  induction m with
  |zero =>
   intro c l i hc hi h0 hl;obtain⟨c1,x1,e1,k1,l1,u1⟩:=Vp c 5 hc;have u1:=u1 (by omega)
   refine⟨c1,l,?_,k1,by omega⟩
   rw[QZ];simp only[JE,e1,Qa,show QV (3+x1)=3+x1 from Vt (by omega) (by omega),Qe (show ¬i≤3+x1 by omega),Qb]
  |succ m ih =>
   intro c l i hc hi h0 hl;obtain⟨c1,x1,e1,k1,l1,u1⟩:=Vp c 5 hc;have u1:=u1 (by omega)
   obtain⟨c2,x2,e2,k2,_⟩:=Vp c1 4 k1;rw[QZ];simp only[JE,e1,e2,Qa,show QV (3+x1)=3+x1 from Vt (by omega) (by omega),VT (show l.length+1≤2000000 by omega) (show 24≤1024 by omega),QL,show QV (i+1)=i+1 from Vt (by omega) (by omega)]
   by_cases hd:i≤3+x1
   ·rw[Qf hd]
    exact ih c2 _ (i+1) k2 (by omega) (by omega) (by simp;omega)
   ·rw[Qe hd]
    exact⟨c1,l,rfl,k1,by omega⟩
 obtain⟨c',l',r1,r2,r3⟩:=key 7 c [] 1 h (by omega) (by omega) (by simp)
 exact⟨c',l',by unfold Cv;rw[r1];rfl,r2,r3⟩
def nD(c:l1Cur)(i:Int)(h:IX c):∃c' x,HI c i=some (c',x)∧IX c'∧x.Id=i:=by
 obtain⟨c1,x1,e1,k1,_⟩:=Vp c 8 h;obtain⟨c2,x2,e2,k2,_⟩:=Vp c1 8 k1;obtain⟨c3,x3,e3,k3,_⟩:=Vp c2 20 k2;obtain⟨c4,x4,e4,k4,_⟩:=Vp c3 500 k3;exact⟨c4,_,by unfold HI;simp only[e1,e2,e3,e4,Qa];rfl,k4,rfl⟩
def o8(c:l1Cur)(i:Int)(h:IX c):∃c' x,HJ c i=some (c',x)∧IX c':=by
 obtain⟨c1,x1,e1,k1,_⟩:=nD c i h;obtain⟨c2,x2,e2,k2,_⟩:=Vp c1 6 k1;obtain⟨c3,x3,e3,k3,_⟩:=Vp c2 80 k2;obtain⟨c4,x4,e4,k4,_⟩:=Vp c3 5 k3;exact⟨c4,_,by unfold HJ;simp only[e1,e2,e3,e4,Qa];rfl,k4⟩
def YC{S R:Type}{step:S→Option (S⊕R)}(I:S→Prop)(J:R→Prop)(h1:∀s s',I s→step s=some (.inl s')→I s')(h2:∀s r,I s→step s=some (.inr r)→J r){s:S}{r:R}(hs:I s)(h:run step s=some r):J r:=by
 obtain⟨n,hn⟩:=E2.1 h;clear h
 induction n generalizing s with
 |zero=>simp[aM]at hn
 |succ n ih =>
  simp only[aM]at hn;cases ho:step s with
  |none=>rw[ho]at hn;cases hn
  |some o =>
   rw[ho]at hn;cases o with
   |inl s'=>exact ih (h1 _ _ hs ho) hn
   |inr q=>injection hn with hn;subst hn;exact h2 _ _ hs ho
def jm{A:Type}(l:List A)(a b:Int):(cut l a b).length≤l.length:=by
 unfold cut;simp;omega
def ka(l:List Mark)(m:Mark)(hl:l.length≤1000):∃l' b,G3 l m=some (l',b)∧l'.length≤l.length+1:=by
 have key:∀(d k:Nat),k+d=l.length→∃r:Nat,run (AF l m) (k:Int)=some (r:Int)∧r≤l.length:=by
  intro d
  induction d with
  |zero =>
   intro k hk;have:k=l.length:=by omega
   subst this;exact⟨l.length,by rw[QZ];simp only[AF,Q6 (Qg _),Qb,Qa],Qg _⟩
  |succ d ih =>
   intro k hk;have hlt:k<l.length:=by omega
   obtain⟨r,r1,r2⟩:=ih (k+1) (by omega)
   rw[QZ];simp only[AF,QY hlt,QR hlt,Qc,QL,Qa,Q3 (show(k:Int)<9223372036854775807 by omega)]
   cases decide ((gt l (k:Int)).Question<m.Question)with
   |true=>exact⟨r,r1,r2⟩
   |false=>exact⟨k,rfl,by omega⟩
 obtain⟨k,r1,hk⟩:=key l.length 0 (by omega)
 have s1:Cy (k:Int) (ln l) (ln l)=true:=by unfold Cy;simp[Vq];omega
 have s2:Cy 0 (k:Int) (ln l)=true:=by unfold Cy;simp[Vq];omega
 have c1:=jm l 0 (k:Int);have c2:=jm l (k:Int) (ln l);have c0:(cut l 0 (k:Int)).length≤k:=by unfold cut;simp;omega
 have c3:(cut l (k:Int) (ln l)).length≤l.length-k:=by unfold cut;simp[Vq]
 have c4:=jm (cut l (k:Int) (ln l)) 1 (ln (cut l (k:Int) (ln l)));have rms:∀{n:Nat},n≤2000000→rm n 16=true:=λh=>VT h (by omega)
 unfold G3;rw[show run (AF l m) 0=some (k:Int)from r1];simp only[Qa,s1,s2,QL,rms (show 0+(cut l 0 (k:Int)).length≤2000000 by omega),rms (show(cut l 0 (k:Int)).length+1≤2000000 by omega),rms (show(cut l 0 (k:Int)).length+1+(cut (cut l (k:Int) (ln l)) 1 (ln (cut l (k:Int) (ln l)))).length≤2000000 by omega),
  rms (show(cut l 0 (k:Int)).length+1+(cut l (k:Int) (ln l)).length≤2000000 by omega),rms (show 0+l.length≤2000000 by omega)]
 obtain⟨b1,a1,_⟩:=KP (((cut l 0 (k:Int))++[m])++(cut (cut l (k:Int) (ln l)) 1 (ln (cut l (k:Int) (ln l))))) (by simp;omega)
 obtain⟨b2,a2,_⟩:=KP (((cut l 0 (k:Int))++[m])++(cut l (k:Int) (ln l))) (by simp;omega)
 have off:∃l' b,((J0 (((cut l 0 (k:Int))++[m])++(cut l (k:Int) (ln l)))).bind λr=>(bif !r then some (l,false)else some (((cut l 0 (k:Int))++[m])++(cut l (k:Int) (ln l)),true)):Option (List Mark×Bool))=some (l',b)∧l'.length≤l.length+1:=by
  rw[a2];cases b2 with
  |false=>exact⟨l,false,rfl,by omega⟩
  |true=>exact⟨_,true,rfl,by simp;omega⟩
 by_cases h0:0<(cut l (k:Int) (ln l)).length
 ·rw[Qf (show 0<ln (cut l (k:Int) (ln l))by rw[Vq];omega)]
  have hi:Q0 (cut l (k:Int) (ln l)) 0=true:=by rw[AA];omega
  have s3:Cy 1 (ln (cut l (k:Int) (ln l))) (ln (cut l (k:Int) (ln l)))=true:=by
   have hlen:(1:Int)≤ln (cut l (k:Int) (ln l)):=by rw[Vq];omega
   unfold Cy;rw[Qf hlen];simp
  simp only[hi,Qc,QL,Qa];cases decide ((gt (cut l (k:Int) (ln l)) 0).Question=m.Question)with
  |true =>
   simp only[Qc,s3,QL,a1,Qa];cases b1 with
   |false=>exact⟨l,false,rfl,by omega⟩
   |true=>exact⟨_,true,rfl,by simp;omega⟩
  |false=>exact off
 ·rw[Qe (show ¬0<ln (cut l (k:Int) (ln l))by rw[Vq];omega)]
  exact off
def iD(c:l1Cur)(h:IX c):∃c' l,GX c=some (c',l)∧IX c'∧l.length≤100:=by
 have key:∀(m:Nat) (c:l1Cur) (l:List Mark),IX c→l.length+m≤100→∃c' l',run BT (c,l,(m:Int))=some (c',l')∧IX c'∧l'.length≤100:=by
  intro m
  induction m with
  |zero =>
   intro c l hc hl;exact⟨c,l,by rw[QZ];simp only[BT,show decide ((0:Int)<((0:Nat):Int))=false from rfl,Qb,Qa],hc,by omega⟩
  |succ m ih =>
   intro c l hc hl;obtain⟨c1,x1,e1,k1,_⟩:=Vp c 8 hc;obtain⟨c2,x2,e2,k2,_⟩:=Vp c1 9 k1;obtain⟨l3,b3,e3,n3⟩:=ka l (⟨QV (1+x1),x2⟩:Mark) (by omega)
   obtain⟨c',l',r1,r2⟩:=ih c2 l3 k2 (by omega)
   refine⟨c',l',?_,r2⟩;rw[QZ];simp only[BT,Qf (show(0:Int)<((m+1:Nat):Int)by omega),e1,e2,e3,Qc,Qa,show QV (((m+1:Nat):Int)-1)=(m:Int)from by rw[Vt]<;>omega]
   exact r1
 obtain⟨c1,x1,e1,k1,l1,u1⟩:=Vp c 6 h;have u1:=u1 (by omega)
 obtain⟨k,rfl⟩:∃k:Nat,x1=(k:Int):=⟨x1.toNat,by omega⟩
 obtain⟨c2,l,r2,k2,n2⟩:=key k c1 [] k1 (by simp;omega)
 exact⟨c2,l,by unfold GX;simp only[e1,Qa];rw[r2];rfl,k2,n2⟩
def nT(c:l1Cur)(a:Int)(h:IX c):∃c' x,HH c a=some (c',x)∧IX c'∧x.Marks.length≤100:=by
 obtain⟨c1,l,e1,k1,n1⟩:=iD c h;obtain⟨c2,x2,e2,k2,_⟩:=Vp c1 9 k1;obtain⟨c3,x3,e3,k3,_⟩:=Vp c2 99 k2;obtain⟨c4,x4,e4,k4,_⟩:=Vp c1 99 k1;unfold HH;simp only[e1,e2,e3,e4,Qa];cases decide (ln l=0)with
 |true=>exact⟨_,_,rfl,k3,by simp⟩
 |false=>exact⟨_,_,rfl,k4,n1⟩
def ji(l:List Qr):Prop:=l.length≤8∧∀i (h:i<l.length),l[i].Id=(i:Int)+1∧1≤l[i].Size∧l[i].Size≤50∧l[i].Qo=0
def iq(c:l1Cur)(h:IX c):∃c' l,Cv c=some (c',l)∧IX c'∧ji l:=by
 have key:∀(m:Nat) (c:l1Cur) (l:List Qr) (i:Int),IX c→i+(m:Int)=8→i=(l.length:Int)+1→ji l→∃c' l',run JE (c,l,i)=some (c',l')∧IX c'∧ji l':=by
  intro m
  induction m with
  |zero =>
   intro c l i hc hi hl hg;obtain⟨c1,x1,e1,k1,l1,u1⟩:=Vp c 5 hc;have u1:=u1 (by omega)
   refine⟨c1,l,?_,k1,hg⟩;rw[QZ];simp only[JE,e1,Qa,show QV (3+x1)=3+x1 from Vt (by omega) (by omega),Qe (show ¬i≤3+x1 by omega),Qb]
  |succ m ih =>
   intro c l i hc hi hl hg;obtain⟨c1,x1,e1,k1,l1,u1⟩:=Vp c 5 hc;have u1:=u1 (by omega)
   obtain⟨c2,x2,e2,k2,l2,u2⟩:=Vp c1 4 k1;have u2:=u2 (by omega)
   rw[QZ];simp only[JE,e1,e2,Qa,show QV (3+x1)=3+x1 from Vt (by omega) (by omega),VT (show l.length+1≤2000000 by omega) (show 24≤1024 by omega),QL,show QV (i+1)=i+1 from Vt (by omega) (by omega),show QV (5*x2)=5*x2 from Vt (by omega) (by omega),show QV (10+5*x2)=10+5*x2 from Vt (by omega) (by omega)]
   by_cases hd:i≤3+x1
   ·rw[Qf hd]
    refine ih c2 _ (i+1) k2 (by omega) (by simp;omega) ⟨by simp;omega,λj hj=>?_⟩
    by_cases hjl:j<l.length
    ·rw[List.getElem_append_left hjl];exact hg.2 j hjl
    ·have:j=l.length:=by simp at hj;omega
     subst this;simp only[List.getElem_append_right (Qg _),Nat.sub_self,List.getElem_cons_zero];exact⟨hl,by omega,by omega,trivial⟩
   ·rw[Qe hd]
    exact⟨c1,l,rfl,k1,hg⟩
 obtain⟨c',l',r1,r2,r3⟩:=key 7 c [] 1 h (by omega) (by simp) ⟨by simp,λi h=>by simp at h⟩
 exact⟨c',l',by unfold Cv;rw[r1];rfl,r2,r3⟩
def it(l:List Qr)(hg:ji l):Jb l=some true:=by
 obtain⟨hl,hg⟩:=hg;have inner:∀i (hi:i<l.length),run (V7 l (i:Int)) 0=some (.brk ()):=by
  intro i hi;have key:∀(m j:Nat),j+m=i→run (V7 l (i:Int)) (j:Int)=some (.brk ()):=by
   intro m
   induction m with
   |zero=>intro j hj;rw[QZ];simp only[V7,Qe (show ¬(j:Int)<(i:Int)by omega),Qb,Qa]
   |succ m ih =>
    intro j hj;rw[QZ];simp only[V7,Qf (show(j:Int)<(i:Int)by omega),QR hi,Q2 hi,(hg i hi).2.2.2,decide_true,Qh,Qc,Qb,QL,Qa,Q3 (show(j:Int)<9223372036854775807 by omega)]
    exact ih (j+1) (by omega)
  exact key i 0 (by omega)
 have key:∀(m i:Nat),i+m=l.length→run (VC l) (i:Int)=some (.brk ()):=by
  intro m
  induction m with
  |zero =>
   intro i hi;have:i=l.length:=by omega
   subst this;rw[QZ];simp only[VC,Q6 (Qg _),Qb,Qa]
  |succ m ih =>
   intro i hi;have hlt:i<l.length:=by omega
   obtain⟨g1,g2,g3,g4⟩:=hg i hlt;rw[QZ];simp only[VC,QY hlt,QR hlt,Q2 hlt,QO,Qc,QL,Qa,g1,g4,Qf (show(1:Int)≤(i:Int)+1 by omega),Qf (show(i:Int)+1≤99 by omega),Qf g2,Qf g3,show decide ((0:Int)≤0)=true from rfl,show decide ((0:Int)≤999)=true from rfl,Bool.and_self,Qh,Qb,inner i hlt,Zy,Q3 (show(i:Int)<9223372036854775807 by omega)]
   by_cases h0:0<i
   ·obtain⟨p1,_⟩:=hg (i-1) (by omega)
    simp only[Qf (show(0:Int)<(i:Int)by omega),By h0 (by omega),QR (show i-1<l.length by omega),Q2 (show i-1<l.length by omega),p1,Qe (show ¬(i:Int)+1≤((i-1:Nat):Int)+1 by omega),Qc,Qb,QL,Qa]
    exact ih (i+1) (by omega)
   ·simp only[Qe (show ¬(0:Int)<(i:Int)by omega),Qb,Qa]
    exact ih (i+1) (by omega)
 unfold Jb;rw[show run (VC l) 0=some (.brk ())from key l.length 0 (by omega)]
 simp only[Qa,Zy];rw[Qf (show ln l≤30 by rw[Vq];omega)]
def oW(l:List Qr)(hg:ji l):Bw l=some (l.length:Int):=by
 have key:∀(m i:Nat),i+m=l.length→run (XA l) ((i:Int),(i:Int))=some (l.length:Int):=by
  intro m
  induction m with
  |zero =>
   intro i hi;have:i=l.length:=by omega
   subst this;rw[QZ];simp only[XA,Q6 (Qg _),Qb,Qa]
  |succ m ih =>
   intro i hi;have hlt:i<l.length:=by omega
   have:=hg.1;rw[QZ];simp only[XA,QY hlt,QR hlt,Q2 hlt,(hg.2 i hlt).2.2.2,decide_true,Qc,QL,Qa,Q3 (show(i:Int)<9223372036854775807 by omega)]
   exact ih (i+1) (by omega)
 unfold Bw;rw[show run (XA l) (0,0)=some (l.length:Int)from key l.length 0 (by omega)];rfl
def fm(no:Int)(l:List Qr)(h1:1≤no)(h2:no≤9)(hg:ji l):Vv ⟨no,[],[],l,[],[],[],[],0⟩=some true:=by
 have e1:X9 []=some true:=by unfold X9;rw[QZ];rfl
 have e2:J8 []=some true:=by unfold J8;rw[QZ];rfl
 have e3:VM []=some true:=by unfold VM;rw[QZ];rfl
 have e4:Xu []=some true:=by unfold Xu;rw[QZ];rfl
 have e5:VR []=some true:=by unfold VR;rw[QZ];rfl
 have e6:∀n,Cj [] n=some []:=λn=>by unfold Cj;rw[QZ];rfl
 have e7:Ak ⟨no,[],[],l,[],[],[],[],0⟩=some true:=by unfold Ak;rw[QZ];rfl
 have e8:run (XG ⟨no,[],[],l,[],[],[],[],0⟩) 0=some (.brk ()):=by
  have key:∀(m i:Nat),i+m=l.length→run (XG ⟨no,[],[],l,[],[],[],[],0⟩) (i:Int)=some (.brk ()):=by
   intro m
   induction m with
   |zero =>
    intro i hi;have:i=l.length:=by omega
    subst this;rw[QZ];simp only[XG,Q6 (Qg _),Qb,Qa]
   |succ m ih =>
    intro i hi;have hlt:i<l.length:=by omega
    have:=hg.1;rw[QZ];simp only[XG,QY hlt,QR hlt,Q2 hlt,(hg.2 i hlt).2.2.2,decide_true,Qh,Qc,Qb,QL,Qa,Q3 (show(i:Int)<9223372036854775807 by omega)]
    exact ih (i+1) (by omega)
  exact key l.length 0 (by omega)
 have e9:Af ⟨no,[],[],l,[],[],[],[],0⟩=some true:=by
  unfold Af;simp only[decide_true,Qh,Qb,e6,Qa];rw[QZ];simp only[ZD,show decide ((0:Int)<ln ([]:List Int))=false from rfl,Qb,Qa,Zy];rw[QZ];simp only[Zd,show decide ((0:Int)<ln ([]:List QB))=false from rfl,Qb,Qa,Zy];rw[e8];rfl
 unfold Vv;simp only[QO,Qf h1,Qf h2,Bool.and_self,Qh,Qb,e1,e2,e3,e4,e5,e7,e9,it l hg,Qa,show decide ((0:Int)≤0)=true from rfl,show decide ((0:Int)≤100000)=true from rfl,show decide ((0:Int)<ln ([]:List Hand))=false from rfl,show decide ((0:Int)<ln ([]:List Entry))=false from rfl,Qc]
def n9(no:Int)(l:List Qr)(h1:1≤no)(h2:no≤9)(hg:ji l):XU no l=some (⟨no,[],[],l,[],[],[],[],0⟩,true):=by
 have hl:=hg.1;have hm:QS ⟨no,[],[],l,[],[],[],[],0⟩:=⟨by simp,⟨by simp,by simp⟩,by simp only;omega,by simp,by simp,by simp,by simp⟩
 have hv:=fm no l h1 h2 hg;unfold XU;rw[JQ _ hm];simp only[Qa,hv,oW l hg,Vq,decide_true,Qh,Qb]
def qO(h:Ql)(c:Int)(hl:h.Qq.length≤1048576):∃r,AW h c=some r:=by
 have hs:=JG h.Qq (λx=>decide (x.Qu=c)) (λi=>(h.Qq.getD i default,true)) (step:=J4 c h (⟨0,0,0,0⟩:Qp))
  (λi hi=>by
   simp only[J4,QY hi,QR hi,Q2 hi,Q3 (show(i:Int)<9223372036854775807 by omega),Qc,QL,List.getD_eq_getElem?_getD,List.getElem?_eq_getElem hi,Option.getD_some]
   cases decide (h.Qq[i].Qu=c)<;>rfl)
  (by simp only[J4,Q6 (Qg _),Qb])
 unfold AW;rw[hs]
 split<;>exact⟨_,rfl⟩
def jT(a:Ql)(c:Int)(hm:QS a):∃r,E9 a c=some r:=by
 obtain⟨m1,⟨m2,m2'⟩,m3,m4,m5,m6,m7⟩:=hm;obtain⟨r2,e2⟩:=qO a c m5;unfold E9;rw[(Ed a.Qv c m4).1,e2];simp only[Qa];by_cases hb:(decide (BE a.Qv c<0)||!r2.2)=true
 ·rw[hb];exact⟨_,rfl⟩
 ·have hb':(decide (BE a.Qv c<0)||!r2.2)=false:=by simpa using hb
  rw[hb'];simp only[Bool.or_eq_false_iff,decide_eq_false_iff_not]at hb';have hin:Q0 a.Qv (BE a.Qv c)=true:=by
   rcases Ho a.Qv c with h|⟨k,hk,h,_⟩
   ·omega
   ·rw[h];exact QR hk
  obtain⟨m,e3,_,n3⟩:=PT a.Qn (gt a.Qv (BE a.Qv c)).Qo m2 m2';obtain⟨q,e4,_⟩:=L8 m r2.1 n3;obtain⟨v,e5,_⟩:=ey m q n3;exact⟨v,by simp only[hin,e3,e4,e5,Qb,QL,Qa]⟩
def MH(c:l1Cur)(a:Ql)(i:Int)(h:IX c)(hm:QS a):∃c' x,ZW c a i=some (c',x)∧IX c'∧QS x:=by
 obtain⟨c1,x1,e1,k1⟩:=o8 c i h;obtain⟨c2,x2,e2,k2,_⟩:=Vp c1 15 k1;obtain⟨x3,e3⟩:∃x,GV x1.At a.Now=some x:=by unfold GV;cases decide (a.Now<x1.At)<;>exact⟨_,rfl⟩
 obtain⟨c4,x4,e4,k4,_⟩:=eu c2 [0,900,5000,5001,60000] k2 (by simp)
 obtain⟨c5,x5,e5,k5,n5⟩:=nT c4 i k4;obtain⟨c6,x6,e6,k6,_⟩:=Vp c5 50 k5;obtain⟨r,e7,_,s7⟩:=fN a (⟨⟨x1.Qo.Id,x1.Qo.Kind,x1.Qo.Colour,QV (1+x2),x4⟩,x1.Place,x3,x1.Qz⟩:QB) x5.Marks x6 hm (by omega)
 exact⟨c6,r.1,by unfold ZW;simp only[e1,e2,e3,e4,e5,e6,e7,Qa],k6,s7⟩
def NG(c:l1Cur)(a:Int)(h:IX c):∃c' b,Ci c a=some (c',b)∧IX c':=by
 obtain⟨c1,x1,e1,k1,_⟩:=Vp c a h;exact⟨c1,_,by unfold Ci;rw[e1];rfl,k1⟩
def pL(c:l1Cur)(h:IX c):∀(m:Nat) (c:l1Cur) (a:Ql) (i:Int),IX c→QS a→i+(m:Int)=4→0≤i→∃c' x,run J2 (c,a,i)=some (c',x)∧IX c'∧QS x:=by
 intro m
 induction m with
 |zero =>
  intro c a i hc ha hi h0;obtain⟨c1,x1,e1,k1,l1,u1⟩:=Vp c 3 hc;have u1:=u1 (by omega)
  refine⟨c1,a,?_,k1,ha⟩;rw[QZ];simp only[J2,e1,Qa,show QV (1+x1)=1+x1 from Vt (by omega) (by omega),Qe (show ¬i≤1+x1 by omega),Qb]
 |succ m ih =>
  intro c a i hc ha hi h0;obtain⟨c1,x1,e1,k1,l1,u1⟩:=Vp c 3 hc;obtain⟨c2,x2,e2,k2,s2⟩:=MH c1 a (QV (2*i)) k1 ha;rw[QZ];simp only[J2,e1,e2,Qa,show QV (i+1)=i+1 from Vt (by omega) (by omega)]
  cases decide (i≤QV (1+x1))with
  |true=>exact ih c2 x2 (i+1) k2 s2 (by omega) (by omega)
  |false=>exact⟨c1,a,rfl,k1,ha⟩
def p9:∀(m:Nat) (c:l1Cur) (a:Ql),m≤1000→IX c→QS a→∃c' x,run Zb (c,a,(m:Int))=some (c',x)∧IX c'∧QS x:=by
 intro m
 induction m with
 |zero =>
  intro c a hm hc ha;exact⟨c,a,by rw[QZ];simp only[Zb,show decide ((0:Int)<((0:Nat):Int))=false from rfl,Qb,Qa],hc,ha⟩
 |succ m ih =>
  intro c a hm hc ha;obtain⟨c1,x1,e1,k1,_⟩:=Vp c 5 hc;obtain⟨c2,x2,e2,k2,_⟩:=Vp c1 8 k1;obtain⟨c3,x3,e3,k3,_⟩:=Vp c2 6 k2;obtain⟨c4,x4,e4,k4,_⟩:=Vp c3 3 k3;obtain⟨r5,e5,_,s5⟩:=Ts a (QV (1+x1)) (QV (1+x3)) (QV (2*(QV (1+x4)))) ha;obtain⟨c6,x6,e6,k6,_⟩:=eu c2 [1,24,100,2160,4320] k2 (by simp)
  obtain⟨r7,e7,_,s7⟩:=Wv a x6 ha;obtain⟨c8,x8,e8,k8,_⟩:=Vp c2 3 k2;obtain⟨r9,e9,_,s9⟩:=Tg a (QV (2*(QV (1+x8)))) ha;obtain⟨x10,e10⟩:=jT a (QV (1+x1)) ha;obtain⟨c11,x11,e11,k11⟩:=NG c2 5 k2;obtain⟨c12,x12,e12,k12,_⟩:=Vp c11 9 k11;obtain⟨r13,e13,_,s13⟩:=LS a (QV (1+x1)) x12 ha;obtain⟨r14,e14,_,s14⟩:=LS a (QV (1+x1)) x10 ha;have ew:QV (((m+1:Nat):Int)-1)=(m:Int):=by rw[Vt]<;>omega
  rw[QZ];simp only[Zb,Qf (show(0:Int)<((m+1:Nat):Int)by omega),e1,e2,e3,e4,e5,e6,e7,e8,e9,e10,e11,e12,e13,e14,ew,Qc,Qa]
  cases decide (x2=0)with
  |true=>exact ih _ _ (by omega) k4 s5
  |false =>
  cases decide (x2=1)with
  |true=>exact ih _ _ (by omega) k4 s5
  |false =>
  cases decide (x2=2)with
  |true=>exact ih _ _ (by omega) k6 s7
  |false =>
  cases decide (x2=3)with
  |true=>exact ih _ _ (by omega) k8 s9
  |false =>
  cases x11 with
  |true=>exact ih _ _ (by omega) k12 s13
  |false=>exact ih _ _ (by omega) k11 s14
def ig(c:l1Cur)(h:IX c):∃c' a,Ds c=some (c',a)∧IX c'∧QS a:=by
 obtain⟨c1,x1,e1,k1,l1,u1⟩:=Vp c 3 h;have u1:=u1 (by omega)
 obtain⟨c2,l,e2,k2,hg⟩:=iq c1 k1;have hl:=hg.1;have ew:QV (1+x1)=1+x1:=Vt (by omega) (by omega)
 obtain⟨c3,x3,e3,k3,s3⟩:=pL c2 k2 3 c2 ⟨1+x1,[],[],l,[],[],[],[],20⟩ 1 k2 ⟨by simp,⟨by simp,by simp⟩,by simp only;omega,by simp,by simp,by simp,by simp⟩ (by omega) (by omega)
 obtain⟨c4,x4,e4,k4,l4,u4⟩:=Vp c3 9 k3;have u4:=u4 (by omega)
 obtain⟨k,rfl⟩:∃k:Nat,x4=(k:Int):=⟨x4.toNat,by omega⟩
 obtain⟨c5,x5,e5,k5,s5⟩:=p9 k c4 x3 (by omega) k4 s3
 refine⟨c5,x5,?_,k5,s5⟩;unfold Ds;simp only[e1,e2,ew,n9 (1+x1) l (by omega) (by omega) hg,e3,e4,e5,Qa]
def uB(x y:Int):QV (QV x+y)=QV (x+y):=by unfold QV;omega
def zK(x y:Int):QV (QV x-QV y)=QV (x-y):=by unfold QV;omega
def He(l:List Entry)(a:Int):Int:=(l.map λx=>if x.To=a then x.Qy else 0).sum
def CZ(l:List Entry)(a:Int):Int:=(l.map λx=>if x.From=a then x.Qy else 0).sum
def gT(l:List Entry)(a:Int)(i:Nat)(h:i<l.length):He (l.take (i+1)) a=He (l.take i) a+(if l[i].To=a then l[i].Qy else 0):=by
 unfold He;rw[List.take_succ_eq_append_getElem h,List.map_append,List.sum_append];rw[List.map_cons,List.map_nil,List.sum_cons,List.sum_nil,Int.add_zero]
def ah(l:List Entry)(a:Int)(i:Nat)(h:i<l.length):CZ (l.take (i+1)) a=CZ (l.take i) a+(if l[i].From=a then l[i].Qy else 0):=by
 unfold CZ;rw[List.take_succ_eq_append_getElem h,List.map_append,List.sum_append];rw[List.map_cons,List.map_nil,List.sum_cons,List.sum_nil,Int.add_zero]
def nH{β:Type}{step:Int→Option (Int⊕(Fl β Unit))}{n:Nat}(h1:∀i:Nat,i<n→∀o,step (i:Int)=some (.inl o)→o=((i+1:Nat):Int))(h2:∀i:Nat,i<n→step (i:Int)≠some (.inr (.brk ())))(h:run step 0=some (.brk ())):∀i:Nat,i<n→step (i:Int)=some (.inl ((i+1:Nat):Int)):=by
 have key:∀(m i:Nat),i+m=n→run step (i:Int)=some (.brk ())→∀j,i≤j→j<n→step (j:Int)=some (.inl ((j+1:Nat):Int)):=by
  intro m
  induction m with
  |zero=>intro i hi _ j h3 h4;omega
  |succ m ih =>
   intro i hi hr j h3 h4;rw[QZ]at hr;obtain⟨o,ho,hr⟩:=Option.bind_eq_some_iff.1 hr;cases o with
   |inl s =>
    have:=h1 i (by omega) s ho
    subst this;by_cases hij:j=i
    ·subst hij;exact ho
    ·exact ih (i+1) (by omega) hr j (by omega) h4
   |inr r =>
    injection hr with hr
    subst hr;exact absurd ho (h2 i (by omega))
 exact λi hi=>key n 0 (by omega) h i (by omega) hi
def xk{x:Option (Fl Bool Unit)}{q:Bool}(h:x.bind (Zy (λr=>some r) λ_=>some q)=some true)(hx:∀r,x=some (.ret r)→r=false):x=some (.brk ()):=by
 obtain⟨o,ho,h⟩:=Option.bind_eq_some_iff.1 h;cases o with
 |ret r =>
  have:=hx r ho;subst this;cases h
 |brk u=>exact ho
def OJ(l:List Entry)(hl:l.length≤1048576)(h:VR l=some true):∀x∈l,1≤x.Qy∧x.Qy≤10000000:=by
 have cases3:∀i:Nat,i<l.length→VO l (i:Int)=some (.inr (.ret false))∨(VO l (i:Int)=some (.inl ((i+1:Nat):Int))∧∀hi:i<l.length,1≤l[i].Qy∧l[i].Qy≤10000000):=λi hi=>by
  have hw:=Q3 (show(i:Int)<9223372036854775807 by omega)
  simp only[VO,QO,QY hi,QR hi,Q2 hi,Qc,QL,Qa,hw];by_cases hc:1≤l[i].Qy∧l[i].Qy≤10000000
  ·have hp:(bif decide (0<(i:Int))then nd (Q0 l (QV ((i:Int)-1)))<|some (decide (l[i].At<(gt l (QV ((i:Int)-1))).At))else some false)=some true∨(bif decide (0<(i:Int))then nd (Q0 l (QV ((i:Int)-1)))<|some (decide (l[i].At<(gt l (QV ((i:Int)-1))).At))else some false)=some false:=by
    by_cases h0:0<i
    ·rw[Qf (show(0:Int)<(i:Int)by omega),By h0 (by omega),QR (show i-1<l.length by omega)]
     cases decide (l[i].At<(gt l ((i-1:Nat):Int)).At)<;>first|exact .inl rfl|exact .inr rfl
    ·rw[Qe (show ¬(0:Int)<(i:Int)by omega)];exact .inr rfl
   rcases hp with hp|hp<;>rw[hp] <;>
    cases (decide (0≤l[i].From)&&decide (l[i].From≤999))<;>cases (decide (0≤l[i].To)&&decide (l[i].To≤999))<;>cases decide (l[i].From=l[i].To)<;>cases (decide (1≤l[i].Qy)&&decide (l[i].Qy≤10000000))<;>cases (decide (0≤l[i].At)&&decide (l[i].At≤100000))<;>first|exact .inl rfl|exact .inr ⟨rfl,λ_=>hc⟩
  ·rw[show(decide (1≤l[i].Qy)&&decide (l[i].Qy≤10000000))=false by rw[Bool.eq_false_iff];simpa using λh=>by omega]
   left;cases (decide (0≤l[i].From)&&decide (l[i].From≤999))<;>cases (decide (0≤l[i].To)&&decide (l[i].To≤999))<;>cases decide (l[i].From=l[i].To)<;>rfl
 unfold VR at h;have hb:=xk h λr hr=>by
  obtain⟨q,hq⟩:∃q,r=q:=⟨r,rfl⟩;exact YC (step:=VO l) (λs=>0≤s∧s≤(l.length:Int)) (λo=>∀r,o=.ret r→r=false)
   (λs s' hs e=>by
    obtain⟨k,rfl⟩:∃k:Nat,s=(k:Int):=⟨s.toNat,by omega⟩
    by_cases hk:k<l.length
    ·rcases cases3 k hk with h|⟨h,_⟩
     ·rw[h]at e;cases e
     ·rw[h]at e;injection e with e;injection e with e;omega
    ·simp only[VO,Q6 (show l.length≤k by omega),Qb]at e;cases e)
   (λs o hs e=>by
    obtain⟨k,rfl⟩:∃k:Nat,s=(k:Int):=⟨s.toNat,by omega⟩
    by_cases hk:k<l.length
    ·rcases cases3 k hk with h|⟨h,_⟩
     ·rw[h]at e;injection e with e;injection e with e;subst e;intro r hr;injection hr with hr;exact hr.symm
     ·rw[h]at e;cases e
    ·simp only[VO,Q6 (show l.length≤k by omega),Qb]at e
     injection e with e;injection e with e;subst e;intro r hr;cases hr)
   (s:=0) ⟨by omega,by omega⟩ hr r rfl
 have hall:=nH (n:=l.length) (λi hi o ho=>by
   rcases cases3 i hi with h|⟨h,_⟩
   ·rw[h]at ho;cases ho
   ·rw[h]at ho;injection ho with ho;injection ho with ho;exact ho.symm)
  (λi hi ho=>by
   rcases cases3 i hi with h|⟨h,_⟩
   ·rw[h]at ho;cases ho
   ·rw[h]at ho;cases ho) hb
 intro x hx;obtain⟨k,hk,rfl⟩:=List.getElem_of_mem hx
 rcases cases3 k hk with h|⟨_,h⟩
 ·rw[hall k hk]at h;cases h
 ·exact h hk
def de(a:Int):∀(l:List Entry),(∀x∈l,1≤x.Qy∧x.Qy≤10000000)→(0≤He l a∧He l a≤10000000*(l.length:Int))∧0≤CZ l a∧CZ l a≤10000000*(l.length:Int)
 |[],_=>by simp[He,CZ]
 |x::l,h=>by
  obtain⟨⟨h1,h2⟩,h3,h4⟩:=de a l λy hy=>h y (by simp[hy])
  have hx:=h x (by simp)
  unfold He CZ at *;simp only[List.map_cons,List.sum_cons,List.length_cons];refine⟨⟨?_,?_⟩,?_,?_⟩<;>split<;>omega
def rx(l:List Entry)(a:Int)(hl:l.length≤1048576)(hv:VR l=some true):JD l a=some (He l a-CZ l a):=by
 obtain⟨b,e1,e2,e3⟩:=Gi l hl;rw[hv]at e1;injection e1 with e1
 subst e1;have hn:=(e3 rfl).1;obtain⟨⟨b1,b2⟩,b3,b4⟩:=de a l (OJ l hl hv);have key:JD l a=some (QV (He l a-CZ l a)):=by
  unfold JD GT E5;have h1:run (X7 a l (ln l)) (0,0)=some (QV (He l a)):=by
   have:=Xe (step:=X7 a l (ln l)) (λi=>(QV (He (l.take i) a),(i:Int))) (r:=QV (He l a)) l.length (λi hi=>by
     simp only[X7,QY hi,QR hi,Q2 hi,Qc,QL,Q3 (show(i:Int)<9223372036854775807 by omega),gT l a i hi]
     by_cases h1:l[i].To=a
     ·rw[Qf h1,if_pos h1,Qc,uB]
     ·rw[Qe h1,if_neg h1,Qb,Int.add_zero])
    (by simp only[X7,Q6 (Qg _),Qb,List.take_length])
   simpa[He,QV]using this
  have h2:run (Xx a l (ln l)) (0,0)=some (QV (CZ l a)):=by
   have:=Xe (step:=Xx a l (ln l)) (λi=>(QV (CZ (l.take i) a),(i:Int))) (r:=QV (CZ l a)) l.length (λi hi=>by
     simp only[Xx,QY hi,QR hi,Q2 hi,Qc,QL,Q3 (show(i:Int)<9223372036854775807 by omega),ah l a i hi]
     by_cases h1:l[i].From=a
     ·rw[Qf h1,if_pos h1,Qc,uB]
     ·rw[Qe h1,if_neg h1,Qb,Int.add_zero])
    (by simp only[Xx,Q6 (Qg _),Qb,List.take_length])
   simpa[CZ,QV]using this
  simp only[e2,h1,h2,Qa,Qh,Qb,zK]
 rw[key,Vt (by omega) (by omega)]
end Go.Proofs.YtfhnbabcbhgffaaGreatDoor
