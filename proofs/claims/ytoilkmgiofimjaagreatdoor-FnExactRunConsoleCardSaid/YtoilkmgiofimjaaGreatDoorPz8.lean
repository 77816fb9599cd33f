import Derived.Test.YtoilkmgiofimjaaGreatDoorPz7
namespace Go.Proofs.YtoilkmgiofimjaaGreatDoor
open Go
set_option linter.unusedVariables false
set_option linter.unusedSimpArgs false
theorem sC(a:House)(n:List Int)(hm:Qu a):Nc a VK n=some (a,FD):=by
 have he:Xp VK n=some noEv:=by
  unfold Xp;rw[show decide (VK=[99,108,97,105,109])=false from rfl,show decide (VK=[97,110,115,119,101,114])=false from rfl,show decide (VK=[115,101,114,118,101])=false from rfl,show decide (VK=[99,108,101,97,114])=false from rfl,show decide (VK=[115,101,108,108])=false from rfl,show decide (VK=[116,105,99,107])=false from rfl];simp only[Bool.and_false,Qb];rfl
 rw[I8 a VK n hm (by rw[show decide (VK=[110,101,119])=false from rfl];rfl) he]
 rw[show JH a VK=some FD from rfl];by_cases z0:ln n=0
 ·rw[Qf z0];rfl
 by_cases z1:ln n=1
 ·rw[Qe z0,Qf z1]
  have:inb n 0=true:=by rw[B3];rw[Q5]at z1;omega
  rw[this];rfl
 ·rw[Qe z0,Qe z1];rfl
theorem gA(b c d e f g h i j k:List UInt8)(hc:kO c=0):Jc [VK,b,c,d,e,f,g,h,i,j,k]=some noEv:=by
 unfold Jc;have:BF c=some 0:=by rw[gL,(Y9 c).1,hc]
 simp only[show decide (ln [VK,b,c,d,e,f,g,h,i,j,k]=11)=true from rfl,Qh,Qb,show inb [VK,b,c,d,e,f,g,h,i,j,k] 0=true from rfl,show inb [VK,b,c,d,e,f,g,h,i,j,k] 2=true from rfl,Qn,show decide (gt [VK,b,c,d,e,f,g,h,i,j,k] 0=[102,105,110,100])=true from rfl,show gt [VK,b,c,d,e,f,g,h,i,j,k] 2=c from rfl,this,Qa];rfl
theorem nx(b c d e f g h i j k:List UInt8)(hc:kO c≠0):Jc [VK,b,c,d,e,f,g,h,i,j,k]=(Zr [b,d,e,f,g,h,i,j,k]).bind λr2=>(bif (!r2.2)then some noEv else nd (inb r2.1 0)<|nd (inb r2.1 1)<|nd (inb r2.1 2)<|nd (inb r2.1 3)<|nd (inb r2.1 4)<|nd (inb r2.1 5)<|nd (inb r2.1 6)<|nd (inb r2.1 7)<|nd (inb r2.1 8)<|some (⟨1,⟨⟨gt r2.1 0,kO c,gt r2.1 1,gt r2.1 2,gt r2.1 3⟩,gt r2.1 4,gt r2.1 5,gt r2.1 6⟩,[(⟨1,gt r2.1 7⟩:Mark),(⟨2,gt r2.1 8⟩:Mark)],0,0,0,[]⟩:Event)):=by
 unfold Jc;have:BF c=some (kO c):=by rw[gL,(Y9 c).1]
 simp only[show decide (ln [VK,b,c,d,e,f,g,h,i,j,k]=11)=true from rfl,Qh,Qb,show inb [VK,b,c,d,e,f,g,h,i,j,k] 0=true from rfl,show inb [VK,b,c,d,e,f,g,h,i,j,k] 1=true from rfl,show inb [VK,b,c,d,e,f,g,h,i,j,k] 2=true from rfl,Qn,show decide (gt [VK,b,c,d,e,f,g,h,i,j,k] 0=[102,105,110,100])=true from rfl,show gt [VK,b,c,d,e,f,g,h,i,j,k] 2=c from rfl,show gt [VK,b,c,d,e,f,g,h,i,j,k] 1=b from rfl,this,Qa,Qe hc,
  show slB 3 (ln [VK,b,c,d,e,f,g,h,i,j,k]) (ln [VK,b,c,d,e,f,g,h,i,j,k])=true from rfl,show cut [VK,b,c,d,e,f,g,h,i,j,k] 3 (ln [VK,b,c,d,e,f,g,h,i,j,k])=[d,e,f,g,h,i,j,k]from rfl,show rm (1+[d,e,f,g,h,i,j,k].length) 16=true from rfl,List.singleton_append]
 rfl
theorem oA(a:House)(l:List UInt8)(ws:List (List UInt8))(hm:Qu a)(hl:l.length≤200)(hw:wds l=VK::ws)(h10:ws.length=10):∃r,P4 a VK ws=some r∧Vy a l=some r∧Kp a r.1:=by
 obtain⟨b,c,d,e,f,g,h,i,j,k,rfl⟩:=Qbv h10;have hself:Kp a a:=⟨hm,.inl rfl⟩;have hn6:¬(([b,c,d,e,f,g,h,i,j,k]:List (List UInt8)).length=6∧VK=A6):=by rintro⟨q,_⟩;simp at q
 have hI:P4 a VK [b,c,d,e,f,g,h,i,j,k]=(bif (VN b).2&&(decide (0<kO c)&&[d,e,f,g,h,i,j,k].all λx=>(VN x).2)then SR a VK ((VN b).1::kO c::[d,e,f,g,h,i,j,k].map λx=>(VN x).1)else some (a,FD)):=by
  unfold P4;rw[show decide (arT VK=(([b,c,d,e,f,g,h,i,j,k]:List (List UInt8)).length:Int))=true from rfl,show decide (VK=A6)=false from rfl,sq];simp only[Qh,Qb,Qa];cases ((VN b).2&&(decide (0<kO c)&&[d,e,f,g,h,i,j,k].all λx=>(VN x).2))<;>rfl
 have hno:Jc (VK::[b,c,d,e,f,g,h,i,j,k])=some noEv→Vy a l=some (a,FD):=λhf=>by
  rw[WH hm hl hw hf hn6]
  rcases Uc [b,c,d,e,f,g,h,i,j,k] (by simp)with⟨_,q⟩|⟨_,o,q⟩
  ·rw[q];exact(show _=Nc a VK ([b,c,d,e,f,g,h,i,j,k].map λx=>(VN x).1)from rfl).trans (sC a _ hm)
  ·rw[q];rfl
 rw[hI];by_cases hc:kO c=0
 ·refine⟨(a,FD),?_,hno (gA b c d e f g h i j k hc),hself⟩
  rw[Qe (show ¬0<kO c by omega),Bool.false_and,Bool.and_false]
  rfl
 have hfk:=nx b c d e f g h i j k hc;have h0:=(Y9 c).2.1;rw[Qf (show 0<kO c by omega),Bool.true_and]
 rcases Uc [b,d,e,f,g,h,i,j,k] (by simp)with⟨q1,q⟩|⟨q1,o,q⟩
 ·rw[List.all_cons]at q1
  rw[q1,Qc];rw[q]at hfk;obtain⟨r,r1,r2,r3⟩:=qV a ⟨⟨(VN b).1,kO c,(VN d).1,(VN e).1,(VN f).1⟩,(VN g).1,(VN h).1,(VN i).1⟩ [(⟨1,(VN j).1⟩:Mark),(⟨2,(VN k).1⟩:Mark)] 0 hm (by simp)
  refine⟨Re a r,Fw a _ _ hm r ?_,?_,HD hm r3 λz=>((nf a _ _ _ hm _ r1).1 z).2⟩
  ·show(DA a ⟨⟨(VN b).1,kO c,(VN d).1,(VN e).1,(VN f).1⟩,(VN g).1,(VN h).1,(VN i).1⟩ [(⟨1,(VN j).1⟩:Mark),(⟨2,(VN k).1⟩:Mark)] 0).bind _=_
   rw[r2];rfl
  ·exact ie hm hl hw rfl hfk rfl (by rcases Uc [b,c,d,e,f,g,h,i,j,k] (by simp)with⟨_,p⟩|⟨_,o,p⟩<;>exact⟨_,p⟩) (Fo r1)
 ·rw[List.all_cons]at q1
  rw[q1,Qb];rw[q]at hfk;exact⟨(a,FD),rfl,hno hfk,hself⟩
theorem d6(a:House)(l:List UInt8)(hm:Qu a)(hk:Lk a)(hl:l.length≤1048576):∃r,AK a l=some r∧Vy a l=some r∧Kp a r.1:=by
 have hself:Kp a a:=⟨hm,.inl rfl⟩;rw[n8 a l hm hl];by_cases h200:200<l.length
 ·rw[if_pos h200]
  exact⟨_,rfl,aj a l hm hl (.inl h200),hself⟩
 rw[if_neg h200];cases hw:wds l with
 |nil=>exact⟨_,rfl,aj a l hm hl (.inr hw),hself⟩
 |cons w ws =>
  have hlen:=jT l;rw[hw]at hlen;simp only[List.length_cons]at hlen;show ∃r,P4 a w ws=some r∧_;by_cases hM:ws.length=6∧w=A6
  ·obtain⟨h6,rfl⟩:=hM
   obtain⟨s,s1,s2⟩:=je a l ws hm hk (by omega) hw h6
   exact⟨(a,s),s1,s2,hself⟩
  by_cases hF:w=VK∧ws.length=10
  ·obtain⟨rfl,h10⟩:=hF
   exact oA a l ws hm (by omega) hw h10
  have hS:=WH hm (show l.length≤200 by omega) hw (dJ w ws hF) hM
  unfold P4;by_cases hA:arT w=(ws.length:Int)
  ·have h6:w≠A6:=λe=>hM ⟨by subst e;have:(6:Int)=(ws.length:Int):=hA;omega,e⟩
   have h10:w≠VK:=λe=>hF ⟨e,by subst e;have:(10:Int)=(ws.length:Int):=hA;omega⟩
   rw[Qf hA,Qe h6,tQ w ws (by omega) h10,hS]
   rcases Uc ws (by omega)with⟨q1,q⟩|⟨q1,o,q⟩
   ·rw[if_pos q1,q]
    exact QqJ a w (ws.map λx=>(VN x).1) hm hk (by rw[Q5,List.length_map];exact hA) h6 h10
   ·rw[if_neg (by rw[q1];decide),q]
    exact⟨(a,FD),rfl,rfl,hself⟩
  ·rw[Qe hA,hS]
   refine⟨(a,FD),rfl,?_,hself⟩
   rcases Uc ws (by omega)with⟨q1,q⟩|⟨q1,o,q⟩
   ·rw[q]
    exact nO a w (ws.map λx=>(VN x).1) hm (by rw[Q5,List.length_map];exact hA)
   ·rw[q];rfl
theorem QbU(s:List UInt8)(hl:s.length≤1048576):∀(m a i:Nat) (o:List (List UInt8)),i+m=s.length→a≤i→o.length≤i →
  run (V2 s) (o,(a:Int),(i:Int))=some (o++tr (hd1 (cut s (a:Int) (i:Int)) (spl 10 (s.drop i)))):=by
 intro m
 induction m with
 |zero =>
  intro a i o hi ha ho;have e:i=s.length:=by omega
  subst e;by_cases hal:a=s.length
  ·subst hal
   rw[rR (r:=o) (by
    simp only[V2,Nt (Qg s.length),iF,Qc,Bool.and_self])]
   rw[IF];simp[spl,hd1,tr]
  ·have hlt:a<s.length:=by omega
   rw[rI (s':=(o++[cut s (a:Int) (s.length:Int)],((s.length+1:Nat):Int),((s.length+1:Nat):Int))) (by
    simp only[V2,Nt (Qg s.length),iF,i8 hlt,Bool.and_false,Qb,Qc,Qa,QM (show(s.length:Int)<9223372036854775807 by omega),
     RU (l:=s) ha (Qg _),bS (show o.length+1≤2000000 by omega),Qn])]
   rw[rR (r:=o++[cut s (a:Int) (s.length:Int)]) (by
    simp only[V2,iK (Nat.lt_succ_self s.length),Qb])]
   have hne:cut s (a:Int) (s.length:Int)≠[]:=by
    unfold cut;simp only[Int.toNat_natCast,List.take_length];intro h;rw[List.drop_eq_nil_iff]at h;omega
   simp only[List.drop_length,spl,hd1,List.append_nil,tr];rw[if_neg hne]
 |succ m ih =>
  intro a i o hi ha ho;have hlt:i<s.length:=by omega
  have hd:s.drop i=s[i]::s.drop (i+1):=List.drop_eq_getElem_cons hlt;have hstep:V2 s (o,(a:Int),(i:Int))=(bif decide (s[i]=10)then some (.inl (o++[cut s (a:Int) (i:Int)],((i+1:Nat):Int),((i+1:Nat):Int)))else some (.inl (o,(a:Int),((i+1:Nat):Int)))):=by
   simp only[V2,Nt (Nat.le_of_lt hlt),i8 hlt,Bool.false_and,Qs hlt,QC hlt,Qc,Qb,Qn,Qa,show decide (((s[i].toNat:Nat):Int)=10)=decide (s[i]=10)from bK s[i] 10,
    QM (show(i:Int)<9223372036854775807 by omega),RU (l:=s) ha (Nat.le_of_lt hlt),bS (show o.length+1≤2000000 by omega)]
  rw[hd,spl];by_cases hc:s[i]=10
  ·rw[Qf hc,Qc]at hstep
   rw[rI hstep,ih (i+1) (i+1) _ (by omega) (by omega) (by simp;omega),if_pos hc,IF,Mf (D4 10 _)]
   simp only[hd1,List.append_nil];rw[cl _ (D4 10 _)];simp
  ·rw[Qe hc,Qb]at hstep
   rw[rI hstep,ih a (i+1) _ (by omega) (by omega) (by omega),if_neg hc,T6 s a i hlt ha,bm _ _ (D4 10 _)]
def lns(s:List UInt8):List (List UInt8):=tr (spl 10 s)
theorem vf(s:List UInt8)(hl:s.length≤1048576):run (V2 s) ([],0,0)=some (lns s):=by
 rw[show(([]:List (List UInt8)),(0:Int),(0:Int))=([],((0:Nat):Int),((0:Nat):Int))from rfl,QbU s hl s.length 0 0 [] (by omega) (by omega) (by simp),IF,List.drop_zero,Mf (D4 10 _)]
 rfl
theorem Lk.zero:Lk ⟨0,[],[],[],[],[],[],[],0⟩:=⟨cn,cn,by simp,by simp,by simp,by simp⟩
theorem QcV:Qu ⟨0,[],[],[],[],[],[],[],0⟩:=⟨by simp,⟨by simp,by simp⟩,by simp,by simp,by simp,by simp,by simp⟩
theorem Lk.kp{a x:House}(hk:Lk a)(h:Kp a x):Lk x:=by
 obtain⟨hm,rfl|hv⟩:=h
 ·exact hk
 ·obtain⟨b,b1,b2⟩:=TU x hm
  rw[hv]at b1;injection b1 with b1
  subst b1;exact Lk.of_valid hm (bT x hm b2) (WO x hm hv).2.1
theorem nK(L:List (List UInt8))(hL:L.length≤1000)(hx:∀x∈L,x.length≤1048576):∀(m i:Nat) (a:House) (o:List (List UInt8)),i+m=L.length→Qu a→Lk a→o.length=i →
  ∃o',run (V4 L (ln L)) (a,o,(i:Int))=some o'∧run (V7 L) (a,o,(i:Int))=some o'∧o'.length=L.length:=by
 intro m
 induction m with
 |zero =>
  intro i a o hi hm hk ho;have e:i=L.length:=by omega
  subst e;exact⟨o,rR (by simp only[V4,QP (Qg _),Qb]),rR (by simp only[V7,QP (Qg _),Qb]),ho⟩
 |succ m ih =>
  intro i a o hi hm hk ho;have hlt:i<L.length:=by omega
  obtain⟨r,r1,r2,r3⟩:=d6 a L[i] hm hk (hx _ (List.getElem_mem hlt));have h1:V4 L (ln L) (a,o,(i:Int))=some (.inl (r.1,o++[r.2],((i+1:Nat):Int))):=by
   simp only[V4,Qy hlt,Qs hlt,QC hlt,Qc,Qn,r1,Qa,bS (show o.length+1≤2000000 by omega),QM (show(i:Int)<9223372036854775807 by omega)]
  have h2:V7 L (a,o,(i:Int))=some (.inl (r.1,o++[r.2],((i+1:Nat):Int))):=by
   simp only[V7,Qy hlt,Qs hlt,QC hlt,Qc,Qn,r2,Qa,bS (show o.length+1≤2000000 by omega),QM (show(i:Int)<9223372036854775807 by omega)]
  obtain⟨o',q1,q2,q3⟩:=ih (i+1) r.1 (o++[r.2]) (by omega) r3.1 (hk.kp r3) (by simp;omega)
  exact⟨o',by rw[rI h1];exact q1,by rw[rI h2];exact q2,q3⟩
theorem gI(s:List UInt8)(hl:s.length≤1048576):∃r,Z9 s=some r∧Bv s=some r∧r.1.length≤60∧(r=([],false)∧60<(lns s).length∨r.2=true∧r.1.length=(lns s).length):=by
 have hp:=Ki 10 s;have hmem:∀x∈lns s,x.length≤1048576:=λx hx=>Nat.le_trans (TN 10 s x (rr _ x hx)).1 hl
 obtain⟨x0,l0,hne⟩:=D4 10 s;have hne':spl 10 s≠[]:=by rw[hne];simp
 have hpos:0<(spl 10 s).length:=List.length_pos_iff.2 hne';have hI:Z9 s=(bif decide (60<ln (lns s))then some ([],false)else(run (V4 (lns s) (ln (lns s))) ((⟨0,[],[],[],[],[],[],[],0⟩:House),[],0)).bind λb=>some (b,true)):=by
  unfold Z9 lns;rw[bf s 10 (by omega),Qa]
  have e1:w64 (ln (spl 10 s)-1)=(((spl 10 s).length-1:Nat):Int):=by rw[Q5,VA (by omega) (by omega)];omega
  have hlt:(spl 10 s).length-1<(spl 10 s).length:=by omega
  have e2:(spl 10 s)[(spl 10 s).length-1]=(spl 10 s).getLast hne':=(List.getLast_eq_getElem hne').symm;rw[e1,Qs hlt,QC hlt,e2,j8 _ hne'];simp only[Qn];by_cases h:(spl 10 s).getLast hne'=[]
  ·rw[Qf h,Qc,if_pos h]
   have e3:cut (spl 10 s) 0 (((spl 10 s).length-1:Nat):Int)=(spl 10 s).dropLast:=by
    unfold cut;rw[Int.toNat_natCast,List.dropLast_eq_take];rfl
   have e4:slB 0 (((spl 10 s).length-1:Nat):Int) (ln (spl 10 s))=true:=RU (a:=0) (by omega) (by omega)
   rw[e3,e4];rfl
  ·rw[Qe h,Qb,if_neg h]
 have hS:Bv s=(bif decide (60<ln (lns s))then some ([],false)else(run (V7 (lns s)) ((⟨0,[],[],[],[],[],[],[],0⟩:House),[],0)).bind λb=>some (b,true)):=by
  unfold Bv;rw[vf s hl,Qa]
 rw[hI,hS];by_cases h60:60<(lns s).length
 ·rw[Qf (show(60:Int)<ln (lns s)by rw[Q5];omega)]
  exact⟨_,rfl,rfl,by simp,.inl ⟨rfl,h60⟩⟩
 ·rw[Qe (show ¬(60:Int)<ln (lns s)by rw[Q5];omega)]
  obtain⟨o,o1,o2,o3⟩:=nK (lns s) (by omega) hmem (lns s).length 0 _ [] (by omega) QcV Lk.zero rfl
  have o1':run (V4 (lns s) (ln (lns s))) ((⟨0,[],[],[],[],[],[],[],0⟩:House),[],0)=some o:=o1;have o2':run (V7 (lns s)) ((⟨0,[],[],[],[],[],[],[],0⟩:House),[],0)=some o:=o2;rw[o1',o2'];exact⟨(o,true),rfl,rfl,by simp only;omega,.inr ⟨rfl,o3⟩⟩
end Go.Proofs.YtoilkmgiofimjaaGreatDoor
