import Derived.Test.YtfhnbabcbhgffaaGreatDoorPz6
set_option linter.unusedVariables false
set_option linter.unusedSimpArgs false
set_option linter.defProp false
noncomputable section
namespace Go.Proofs.YtfhnbabcbhgffaaGreatDoor
open Go
def RQ(L:List (List UInt8)){R:Type}(z:List Int→R){step:(List Int×Int)→Option ((List Int×Int)⊕(Fl R (List Int)))}
  (h1:∀(i:Nat) (o:List Int) (h:i<L.length),o.length≤i→step (o,(i:Int))=some (bif (Xl L[i]).2 then .inl (o++[(Xl L[i]).1],((i+1:Nat):Int))else .inr (.ret (z o))))
  (h2:∀o,step (o,(L.length:Int))=some (.inr (.brk o))) :
  (L.all (λx=>(Xl x).2)=true∧run step ([],0)=some (.brk (L.map λx=>(Xl x).1)))∨(L.all (λx=>(Xl x).2)=false∧∃o,run step ([],0)=some (.ret (z o))):=by
 have key:∀(m i:Nat),i+m=L.length→((L.drop i).all (λx=>(Xl x).2)=true∧run step ((L.take i).map (λx=>(Xl x).1),(i:Int))=some (.brk (L.map λx=>(Xl x).1)))∨((L.drop i).all (λx=>(Xl x).2)=false∧∃o,run step ((L.take i).map (λx=>(Xl x).1),(i:Int))=some (.ret (z o))):=by
  intro m
  induction m with
  |zero =>
   intro i hi;have e:i=L.length:=by omega
   subst e;left;rw[List.drop_length,List.take_length];exact⟨rfl,rR (h2 _)⟩
  |succ m ih =>
   intro i hi;have hlt:i<L.length:=by omega
   have hs:=h1 i ((L.take i).map (λx=>(Xl x).1)) hlt (by simp;omega)
   rw[List.drop_eq_getElem_cons hlt,List.all_cons];cases hc:(Xl L[i]).2 with
   |false =>
    rw[hc,Qb]at hs;right;exact⟨rfl,_,rR hs⟩
   |true =>
    rw[hc,Qc]at hs;rw[rI hs,Bool.true_and];have:=ih (i+1) (by omega)
    rw[List.take_succ_eq_append_getElem hlt,List.map_append]at this;exact this
 simpa using key L.length 0 (by omega)
def EM(s:List UInt8):List Int×Bool:=if s=[45]then([],true)else if(De 44 s).all (λx=>(Xl x).2)=true then((De 44 s).map λx=>(Xl x).1,true)else([],false)
def bV(s:List UInt8):∀x∈(EM s).1,i64 x:=by
 intro x hx;unfold EM at hx
 split at hx
 ·cases hx
 ·split at hx
  ·obtain⟨y,_,rfl⟩:=List.mem_map.1 hx
   exact Nh y
  ·cases hx
def a8(s:List UInt8):(EM s).1.length≤s.length+1:=by
 unfold EM
 split
 ·simp
 ·split
  ·rw[List.length_map];exact L2 44 s
  ·simp
def U8(s:List UInt8)(hl:s.length≤1048576):Da s=some (EM s):=by
 unfold Da EM;by_cases h:s=[45]
 ·rw[Qf h,if_pos h];rfl
 have hp:=L2 44 s;rw[Qe h,if_neg h,Qb,cK s 44 (by omega),Qa]
 rcases RQ (De 44 s) (λ_=>([],false)) (step:=Ar (De 44 s) (ln (De 44 s))) (λi o hi ho=>by
   simp only[Ar,QY hi,QR hi,Q2 hi,Q3 (show(i:Int)<9223372036854775807 by omega),VT (show o.length+1≤2000000 by omega) (show 8≤1024 by omega),Qc,QL,SA,Qa]
   cases (Xl (De 44 s)[i]).2<;>rfl)
  (λo=>by simp only[Ar,Q6 (Qg _),Qb])with⟨h1,h2⟩|⟨h1,o,h2⟩
 ·rw[h2,if_pos h1];rfl
 ·rw[h2,if_neg (by rw[h1];decide)];rfl
def DZ(s:List UInt8):Int×Int×Bool:=((Xl (Lib.cut s [45]).1).1,(Xl (Lib.cut s [45]).2.1).1,(Xl (Lib.cut s [45]).1).2&&(Xl (Lib.cut s [45]).2.1).2)
def pJ(s:List UInt8)(hl:s.length≤1048576):CT s=some (DZ s):=by
 unfold CT strings_Cut DZ;rw[Qf (show s.length<4294967281 by omega)]
 simp only[QL,Qa,SA];cases (Xl (Lib.cut s [45]).1).2<;>rfl
def NH(s:List UInt8):i64 (DZ s).1∧i64 (DZ s).2.1:=⟨Nh _,Nh _⟩
def kO(s:List UInt8):Int:=(AZ s).getD 0
def bc(s:List UInt8):AZ s=some (kO s)∧0≤kO s∧kO s≤8:=by
 obtain⟨r,h,h0,h8⟩:=QeL s;unfold kO;rw[h];exact⟨rfl,h0,h8⟩
def rD(a b c d e f:List UInt8):Report:=⟨(Xl a).1,kO b,(EM c).1,(DZ d).1,(DZ d).2.1,(EM e).1,⟨(DZ f).1,(DZ f).2.1⟩⟩
def WR(a b c d e f:List UInt8)(hc:c.length≤1206)(he:e.length≤1206):yE (rD a b c d e f):=by
 have h1:=a8 c;have h2:=a8 e;exact⟨⟨by simp only[rD];omega,by simp only[rD];omega⟩,bV c,bV e,Nh a,(NH d).1,(NH d).2,(NH f).1,(NH f).2⟩
def zz(a c d e f:List UInt8):Bool:=(Xl a).2&&((EM c).2&&((DZ d).2.2&&((EM e).2&&(DZ f).2.2)))
def mF:Report:=⟨0,0,[],0,0,[],⟨0,0⟩⟩
def ut{α:Type}{l:List α}(h:l.length=6):∃a b c d e f,l=[a,b,c,d,e,f]:=by
 match l,h with
 |[a,b,c,d,e,f],_=>exact⟨a,b,c,d,e,f,rfl⟩
def nj(s:List UInt8)(hl:s.length≤1206)(hR:∀r,yE r→∃b,Zv r=some b) :
  (¬(De 32 s).length=6∧Zp s=some (mF,false))∨∃a b c d e f,De 32 s=[a,b,c,d,e,f]∧(∀x∈[a,b,c,d,e,f],x.length≤1206) ∧
   ∃B,Zv (rD a b c d e f)=some B∧Zp s=some (bif zz a c d e f&&decide ((if B=true then fZ (rD a b c d e f)else[])=s)then(rD a b c d e f,true)else(mF,false)):=by
 unfold Zp;rw[cK s 32 (by omega),Qa]
 by_cases h:(De 32 s).length=6
 ·right
  obtain⟨a,b,c,d,e,f,hw⟩:=ut h;have hx:∀x∈[a,b,c,d,e,f],x.length≤1206:=λx hx=>by
   rw[←hw]at hx;exact Nat.le_trans (UD 32 s x hx).1 hl
  have hc:=hx c (by simp)
  have hd:=hx d (by simp)
  have he:=hx e (by simp)
  have hf:=hx f (by simp)
  obtain⟨B,hB⟩:=hR _ (WR a b c d e f hc he);refine⟨a,b,c,d,e,f,hw,hx,B,hB,?_⟩;have hT:=QiX _ (WR a b c d e f hc he) B hB;rw[hw];have h6:((⟨(Xl a).1,kO b,(EM c).1,(DZ d).1,(DZ d).2.1,(EM e).1,⟨(DZ f).1,(DZ f).2.1⟩⟩:Report))=rD a b c d e f:=rfl;simp only[show decide (ln [a,b,c,d,e,f]=6)=true from rfl,Qh,Qb,show Q0 [a,b,c,d,e,f] 0=true from rfl,show Q0 [a,b,c,d,e,f] 1=true from rfl,show Q0 [a,b,c,d,e,f] 2=true from rfl,show Q0 [a,b,c,d,e,f] 3=true from rfl,
   show Q0 [a,b,c,d,e,f] 4=true from rfl,show Q0 [a,b,c,d,e,f] 5=true from rfl,QL,show gt [a,b,c,d,e,f] 0=a from rfl,show gt [a,b,c,d,e,f] 1=b from rfl,show gt [a,b,c,d,e,f] 2=c from rfl,show gt [a,b,c,d,e,f] 3=d from rfl,
   show gt [a,b,c,d,e,f] 4=e from rfl,show gt [a,b,c,d,e,f] 5=f from rfl,SA,U8 c (by omega),U8 e (by omega),pJ d (by omega),pJ f (by omega),(bc b).1,Qa,h6,hT,zz]
  generalize (decide ((if B=true then fZ (rD a b c d e f)else[])=s))=t
  cases (Xl a).2<;>cases (EM c).2<;>cases (DZ d).2.2<;>cases (EM e).2<;>cases (DZ f).2.2<;>cases t<;>rfl
 ·left
  have:decide (ln (De 32 s)=6)=false:=Qe (by rw[Vq];omega)
  rw[this];exact⟨h,rfl⟩
def TU:∀(u:Nat) (t:List UInt8),Lib.decDigits u=48::t→u=0∧t=[]
 |u,t,h=>by
  by_cases hu:u<10
  ·rw[Lib.decDigits_one hu]at h
   injection h with h1 h2
   refine⟨?_,h2.symm⟩;have:=congrArg UInt8.toNat h1;rw[UInt8.toNat_ofNat']at this;have h8:(48:UInt8).toNat=48:=rfl;omega
  ·rw[Lib.decDigits,dif_neg hu]at h
   cases hd:Lib.decDigits (u / 10)with
   |nil =>
    have:=Lib.decDigits_length (u / 10);have:=Lib.nDigits_pos (u / 10);rw[hd]at *;simp at *;omega
   |cons x t' =>
    rw[hd,List.cons_append]at h;injection h with h1 h2
    subst h1;have:=TU (u / 10) t' hd;omega
def dM(s:List UInt8):Cs s=some (Xl s):=by
 unfold Cs Xl fT QO;rw[Vq];by_cases h0:s.length=0
 ·simp[h0]
 by_cases h13:13<s.length
 ·simp[h13,Qe (show ¬(s.length:Int)≤13 by omega)]
 have hrun:=vT s (by omega) (step:=Fu s) (λa i hi ha0 ha=>by
   have hx:(s[i].toNat:Int)<256:=by have:=s[i].toNat_lt;omega
   simp only[Fu,QO,QY hi,QR hi,Q2 hi,Qc,QL,Qa,Q3 (show(i:Int)<9223372036854775807 by omega),UR,Vt (n:=(s[i].toNat:Int)) (by omega) (by omega)]
   by_cases c1:48≤s[i].toNat
   ·by_cases c2:s[i].toNat≤57
    ·rw[Qf (show(48:Int)≤(s[i].toNat:Int)by omega),Qf (show(s[i].toNat:Int)≤57 by omega),Qf c1,Qf c2,u8w (by omega) (by omega),Vt (n:=10*a) (by omega) (by omega),Vt (n:=(s[i].toNat:Int)-48) (by omega) (by omega),Vt (by omega) (by omega)]
     simp only[Qh,Qb,Bool.and_self,Qc];rw[show 10*a+((s[i].toNat:Int)-48)=10*a+(s[i].toNat:Int)-48 by omega]
    ·rw[Qe (show ¬(s[i].toNat:Int)≤57 by omega),Qe c2]
     simp
   ·rw[Qe (show ¬(48:Int)≤(s[i].toNat:Int)by omega),Qe c1]
    simp) (λa=>by simp only[Fu,Q6 (Qg _),Qb])
 rw[hrun,Qf (show(1:Int)≤(s.length:Int)by omega),Qf (show(s.length:Int)≤13 by omega),Qe h0,Qe h13]
 simp only[Qa,Bool.and_self,Qh,Qb,Qi,Bool.true_and];cases hd:s.all UR with
 |false=>simp[Zy]
 |true =>
  have hlt:=cC _ s rfl hd;have hb2:10^s.length≤10^13:=Nat.pow_le_pow_right (by omega) (by omega)
  simp only[Qc,Zy,Bool.true_and];rw[Zz _ (by unfold i64;omega)]
  by_cases hn:1000000000000<GF s
  ·rw[Qf (show(1000000000000:Int)<(GF s:Int)by omega),Qf hn];simp
  rw[Qe (show ¬(1000000000000:Int)<(GF s:Int)by omega),Qe hn]
  have hi:Lib.itoa (GF s:Int)=Lib.decDigits (GF s):=by
   unfold Lib.itoa;rw[if_neg (by omega),Int.toNat_natCast]
  simp only[Qb,Qa,hi,Qi,Bool.and_true];by_cases hz:1<s.length∧s.head?=some 48
  ·rw[Qf hz.1,Qf hz.2]
   have hne:¬Lib.decDigits (GF s)=s:=λe=>by
    cases s with
    |nil=>simp at h0
    |cons x t =>
     have hx:x=48:=by simpa using hz.2
     subst hx;have:=(TU _ _ e).2;subst this;simp at hz
   rw[Qe hne];simp
  ·have hor:s.length-1=0∨s.head?≠some 48:=by
    by_cases h1:1<s.length
    ·exact .inr λe=>hz ⟨h1,e⟩
    ·exact .inl (by omega)
   have he:=(IB (s.length-1) s (by omega) hd hor).1
   rw[Qf he];have:(decide (1<s.length)&&decide (s.head?=some 48))=false:=by
    rw[Bool.eq_false_iff];intro h;simp only[Bool.and_eq_true,decide_eq_true_eq]at h;exact hz h
   rw[this];simp
def wg(k:Int):Hx k=some (kT k):=by
 unfold Hx QO kT;by_cases h:1≤k∧k≤8
 ·rw[if_pos h]
  rcases(by omega:k=1∨k=2∨k=3∨k=4∨k=5∨k=6∨k=7∨k=8)with rfl|rfl|rfl|rfl|rfl|rfl|rfl|rfl<;>rfl
 ·rw[if_neg h]
  have:(decide (1≤k)&&decide (k≤8))=false:=by
   rw[Bool.eq_false_iff];simpa using h
  rw[this];rfl
def jc(s:List UInt8):EV s=AZ s:=by
 unfold EV AZ;have:Iu s=JY s:=by
  funext k;simp only[Iu,JY,ja,wg]
 rw[this]
def jX(l:List Int)(hl:l.length≤1048576)(hx:∀x∈l,i64 x):Ei l=some (Mj l):=by
 have hsh:=W3 l hl hx;have hr:=bj 44 (l.map Lib.itoa) hsh (step:=Fd l) (λi s hi hs=>by
   have hi':i<l.length:=by simpa using hi
   have hm:=hx _ (List.getElem_mem hi');have h1:=VS _ hm;have e2:(QP s [44]).length≤1000000000000:=by rw[Zo];simp only[List.length_cons,List.length_nil];omega
   rw[List.getElem_map];simp only[Fd,QY hi',QR hi',Q2 hi',Q3 (show(i:Int)<9223372036854775807 by omega),Qc,QL,Zz _ hm,Qa,
    BF (x:=s) (y:=[44]) (by omega) (by simp),BF (x:=QP s [44]) (y:=Lib.itoa l[i]) e2 (by omega),BF (x:=s) (y:=Lib.itoa l[i]) (by omega) (by omega)]
   by_cases h0:0<i
   ·rw[Qf (show(0:Int)<i by omega),if_pos h0];rfl
   ·rw[Qe (show ¬(0:Int)<i by omega),if_neg h0];rfl)
  (λs=>by
   rw[List.length_map];simp only[Fd,Q6 (Qg _),Qb])
 unfold Ei Mj;rw[hr,Qa];by_cases h0:l=[]
 ·subst h0;rfl
 ·rw[if_neg h0,QaI h0];rfl
def Qiq(r:Report)(h:yE r)(b:Bool)(hb:Ee r=some b):HU r=some (if b=true then fZ r else[]):=by
 obtain⟨⟨l1,l2⟩,h1,h2,h3,h4,h5,h6,h7⟩:=h;unfold HU;rw[hb];cases b with
 |false=>rfl
 |true =>
  have q1:=VS _ h3;have q2:=vA r.Kind;have q3:=NL _ h1;have q4:=NL _ h2;have q5:=VS _ h4;have q6:=VS _ h5;have q7:=VS _ h6;have q8:=VS _ h7;have f:∀{x y:List UInt8},x.length≤100000000000→y.length≤1000000→VK x y=true:=λhx hy=>BF (by omega) (by omega)
  simp only[Qa,Qh,Qb,Zz _ h3,Zz _ h4,Zz _ h5,Zz _ h6,Zz _ h7,wg,jX _ (show r.Colours.length≤1048576 by omega) h1,jX _ (show r.Places.length≤1048576 by omega) h2,QP]
  have g:∀{x y:List UInt8} {q r:Option (List UInt8)},q=r→x.length≤100000000000→y.length≤1000000→(nd (VK x y)<|q)=r:=λh hx hy=>by rw[f hx hy];exact h
  repeat refine g ?_ (by first|omega|(simp only[List.length_append,List.length_cons,List.length_nil];omega)) (by first|omega|(simp only[List.length_cons,List.length_nil];omega))
  simp[fZ,Rw]
def Wg(s:List UInt8)(hl:s.length≤1206):GW s=some (EM s):=by
 unfold GW EM;by_cases h:s=[45]
 ·rw[Qf h,if_pos h];rfl
 have hp:=L2 44 s;have h44:A9 s 44=some (De 44 s):=Wn s 44 (by omega)
 rw[Qe h,if_neg h,Qb,h44,Qa]
 rcases RQ (De 44 s) (λ_=>([],false)) (step:=EE s (De 44 s)) (λi o hi ho=>by
   simp only[EE,QY hi,QR hi,Q2 hi,Q3 (show(i:Int)<9223372036854775807 by omega),VT (show o.length+1≤2000000 by omega) (show 8≤1024 by omega),Qc,QL,dM,Qa]
   cases (Xl (De 44 s)[i]).2<;>rfl)
  (λo=>by simp only[EE,Q6 (Qg _),Qb])with⟨h1,h2⟩|⟨h1,o,h2⟩
 ·have ht:Mj ((De 44 s).map λx=>(Xl x).1)=s:=by
   obtain⟨x,l,e⟩:=Ev 44 s;unfold Mj;rw[if_neg (by rw[e];simp),List.map_map]
   have:(De 44 s).map (Lib.itoa ∘ λx=>(Xl x).1)=(De 44 s).map id:=List.map_congr_left λy hy=>(mW (List.all_eq_true.1 h1 y hy)).2.2.2
   rw[this,List.map_id,eQ]
  rw[h2,if_pos h1];show(Ei ((De 44 s).map λx=>(Xl x).1)).bind _=_
  rw[jX _ (by rw[List.length_map];omega) (λx hx=>by obtain⟨y,_,rfl⟩:=List.mem_map.1 hx;exact Nh y),ht]
  simp
 ·rw[h2,if_neg (by rw[h1];decide)];rfl
def QkY(s:List UInt8)(hl:s.length≤1206):∃r,Kq s=some r∧r.2.2=(DZ s).2.2∧(r.2.2=true→r=DZ s):=by
 have h45:A9 s 45=some (De 45 s):=Wn s 45 (by omega)
 unfold Kq;rw[h45,Qa];have hcut:=Qm7 s 45 (by omega)
 unfold strings_Cut at hcut;rw[Qf (show s.length<4294967281 by omega)]at hcut
 unfold DZ
 rcases hcut with⟨hn,hc⟩|⟨a,t,rfl,ha,hc⟩
 ·have hc':Lib.cut s [45]=(s,[],false):=Option.some.inj hc
  rw[WB 45 s hn,hc'];refine⟨(0,0,false),rfl,?_,λh=>by cases h⟩
  have:(Xl []).2=false:=rfl;simp only[this,Bool.and_false]
 ·have hc':Lib.cut (a++45::t) [45]=(a,t,true):=Option.some.inj hc
  rw[ip 45 a t ha,hc'];by_cases ht:(45:UInt8)∈t
  ·have hlen:¬(De 45 t).length=1:=by
    have hcut2:=Qm7 t 45 (by simp at hl;omega)
    rcases hcut2 with⟨hn,_⟩|⟨a2,t2,rfl,ha2,_⟩
    ·exact absurd ht hn
    ·rw[ip 45 a2 t2 ha2]
     obtain⟨x,l,e⟩:=Ev 45 t2;rw[e];simp
   have h2:decide (ln (a::De 45 t)=2)=false:=Qe (by rw[Vq];simp;omega)
   rw[h2];refine⟨(0,0,false),rfl,?_,λh=>by cases h⟩
   simp only[wJ ht (by decide),Bool.and_false]
  ·rw[WB 45 t ht]
   simp only[show decide (ln [a,t]=2)=true from rfl,Qh,Qb,show Q0 [a,t] 0=true from rfl,show Q0 [a,t] 1=true from rfl,show gt [a,t] 0=a from rfl,show gt [a,t] 1=t from rfl,QL,dM,Qa];cases hq:(Xl a).2 with
   |true=>exact⟨_,rfl,rfl,λ_=>rfl⟩
   |false=>exact⟨_,rfl,rfl,λh=>by cases h⟩
def vO(s:List UInt8)(hl:s.length≤1206)(hR:∀r,yE r→∃b,Zv r=some b∧Ee r=some b) :
  ∃r,Zp s=some r∧Fy s=some r∧yE r.1:=by
 have h32:A9 s 32=some (De 32 s):=Wn s 32 (by omega)
 rcases nj s hl (λr h=>let⟨b,h1,_⟩:=hR r h;⟨b,h1⟩)with⟨h6,h⟩|⟨a,b,c,d,e,f,hw,hx,B,hB,h⟩
 ·refine⟨_,h,?_,by simp[mF,yE,i64]⟩
  unfold Fy;rw[h32,Qa,show decide (ln (De 32 s)=6)=false from Qe (by rw[Vq];omega)]
  rfl
 ·refine⟨_,h,?_,?_⟩
  ·have hc:=hx c (by simp)
   have hd:=hx d (by simp)
   have he:=hx e (by simp)
   have hf:=hx f (by simp)
   obtain⟨B',q1,q2⟩:=hR _ (WR a b c d e f hc he);have:B'=B:=Option.some.inj (q1.symm.trans hB);subst this;have hT:=Qiq _ (WR a b c d e f hc he) B' q2;obtain⟨rd,d1,d2,d3⟩:=QkY d hd;obtain⟨rf,f1,f2,f3⟩:=QkY f hf;have hs:¬s=[]:=λh0=>by rw[h0]at hw;simp[De]at hw
   unfold Fy;rw[h32,Qa,hw];simp only[show decide (ln [a,b,c,d,e,f]=6)=true from rfl,Qh,Qb,show Q0 [a,b,c,d,e,f] 0=true from rfl,show Q0 [a,b,c,d,e,f] 1=true from rfl,show Q0 [a,b,c,d,e,f] 2=true from rfl,show Q0 [a,b,c,d,e,f] 3=true from rfl,
    show Q0 [a,b,c,d,e,f] 4=true from rfl,show Q0 [a,b,c,d,e,f] 5=true from rfl,QL,show gt [a,b,c,d,e,f] 0=a from rfl,show gt [a,b,c,d,e,f] 1=b from rfl,show gt [a,b,c,d,e,f] 2=c from rfl,show gt [a,b,c,d,e,f] 3=d from rfl,
    show gt [a,b,c,d,e,f] 4=e from rfl,show gt [a,b,c,d,e,f] 5=f from rfl,dM,Wg c hc,Wg e he,d1,f1,jc,(bc b).1,Qa,zz,Qe hs,Bool.or_false]
   cases hd2:(DZ d).2.2 with
   |false=>rw[hd2]at d2;rw[d2];cases (Xl a).2<;>cases (EM c).2<;>rfl
   |true =>
   rw[hd2]at d2;have ed:=d3 d2;subst ed;cases hf2:(DZ f).2.2 with
   |false=>rw[hf2]at f2;rw[f2,d2];cases (Xl a).2<;>cases (EM c).2<;>cases (EM e).2<;>rfl
   |true =>
   rw[hf2]at f2;have ef:=f3 f2;subst ef;have h6:((⟨(Xl a).1,kO b,(EM c).1,(DZ d).1,(DZ d).2.1,(EM e).1,⟨(DZ f).1,(DZ f).2.1⟩⟩:Report))=rD a b c d e f:=rfl;simp only[h6,hT,d2,f2,Qa];generalize (decide ((if B'=true then fZ (rD a b c d e f)else[])=s))=t
   cases (Xl a).2<;>cases (EM c).2<;>cases (EM e).2<;>cases t<;>rfl
  ·cases (zz a c d e f&&decide ((if B=true then fZ (rD a b c d e f)else[])=s))with
   |false=>simp[mF,yE,i64]
   |true=>exact WR a b c d e f (hx c (by simp)) (hx e (by simp))
def sY(l:List Int)(x y:Int)(hl:l.length≤1048576):∃b,Bq l x y=some b∧LY l x y=some b:=by
 obtain⟨b,h1,h2,_⟩:=FT (n:=l.length) (r:=false) (s1:=ZI l x y l (ln l)) (s2:=Hr l x y) (λi hi _=>by
   simp only[ZI,Hr,QM,QO,QY hi,QR hi,Q2 hi,Q3 (show(i:Int)<9223372036854775807 by omega),Qc,QL,Qa]
   by_cases h0:0<i
   ·simp only[show decide (0<(i:Int))=true from Qf (by omega),By h0 (by omega),QR (show i-1<l.length by omega),Qc,QL]
    cases (decide (x≤l[i])&&decide (l[i]≤y))<;>cases decide (l[i]≤gt l ((i-1:Nat):Int))<;>first|exact⟨true,rfl,rfl⟩|exact⟨false,rfl,rfl⟩
   ·simp only[show decide (0<(i:Int))=false from Qe (by omega),Qb]
    cases (decide (x≤l[i])&&decide (l[i]≤y))<;>first|exact⟨true,rfl,rfl⟩|exact⟨false,rfl,rfl⟩)
  (by simp only[ZI,Q6 (Qg _),Qb]) (by simp only[Hr,Q6 (Qg _),Qb])
 unfold Bq LY;rw[h1,h2];cases b with
 |true=>exact⟨true,rfl,rfl⟩
 |false=>exact⟨false,rfl,rfl⟩
def aZ(r:Report)(h1:r.Colours.length≤1048576)(h2:r.Places.length≤1048576):∃b,Zv r=some b∧Ee r=some b:=by
 obtain⟨p,p1,p2⟩:=sY r.Colours 0 7 h1;obtain⟨q,q1,q2⟩:=sY r.Places 1 30 h2;unfold Zv Ee Ke TV QM QO;simp only[p1,p2,q1,q2,Qa];cases (decide (1≤r.Id)&&decide (r.Id≤999))<;>try exact⟨false,rfl,rfl⟩
 cases (decide (1≤r.Kind)&&decide (r.Kind≤8))<;>try exact⟨false,rfl,rfl⟩
 cases p<;>try exact⟨false,rfl,rfl⟩
 cases decide (1≤r.SizeLow)<;>try exact⟨false,rfl,rfl⟩
 cases decide (r.SizeLow≤r.SizeHigh)<;>try exact⟨false,rfl,rfl⟩
 cases decide (r.SizeHigh≤50)<;>try exact⟨false,rfl,rfl⟩
 cases q<;>try exact⟨false,rfl,rfl⟩
 cases decide (ln r.Places≤10)<;>try exact⟨false,rfl,rfl⟩
 cases (decide (0≤r.Span.From)&&decide (r.Span.From≤100000))<;>exact⟨_,rfl,rfl⟩
def li(l:List Int)(a:Int)(hl:l.length≤1048576):∃b,Gv l a=some b∧(bif decide (0<ln l)then(Dx l a).bind λr=>some (!r)else some false)=some (!b):=by
 unfold Gv;rw[Qgx l a hl,Qfw l a hl,Vq];by_cases h:l.length=0
 ·rw[Qf (show(l.length:Int)=0 by omega),Qe (show ¬(0:Int)<(l.length:Int)by omega)]
  exact⟨true,rfl,rfl⟩
 ·rw[Qe (show ¬(l.length:Int)=0 by omega),Qf (show(0:Int)<(l.length:Int)by omega)]
  exact⟨decide (a∈l),rfl,rfl⟩
def wB(r:Report)(f:QB)(h1:r.Colours.length≤1048576)(h2:r.Places.length≤1048576):∃w,HB r f=some w∧Nc r f=some w:=by
 obtain⟨p,p1,p2⟩:=aZ r h1 h2;obtain⟨q,q1,q2,_⟩:=N1 f;obtain⟨u,u1,u2⟩:=li r.Colours f.Qo.Colour h1;obtain⟨v,v1,v2⟩:=li r.Places f.Place h2;unfold HB Nc;simp only[p1,p2,q1,q2,u1,u2,v1,v2,QM,QO,Qa];cases p<;>try exact⟨_,rfl,rfl⟩
 cases q<;>try exact⟨_,rfl,rfl⟩
 simp only[Qh,Qb];cases decide (r.Kind=f.Qo.Kind)<;>try exact⟨_,rfl,rfl⟩
 cases u<;>try exact⟨_,rfl,rfl⟩
 cases (decide (r.SizeLow≤f.Qo.Size)&&decide (f.Qo.Size≤r.SizeHigh))<;>try exact⟨_,rfl,rfl⟩
 cases v<;>try exact⟨_,rfl,rfl⟩
 cases decide (f.At<r.Span.From)<;>exact⟨_,rfl,rfl⟩
def Qf9(r:Report)(f:QB)(h1:r.Colours.length≤1048576)(h2:r.Places.length≤1048576):∃b,Cu r f=some b∧IK r f=some b:=by
 obtain⟨w,w1,w2⟩:=wB r f h1 h2;unfold Cu IK;rw[w1,w2];exact⟨_,rfl,rfl⟩
def jY(r:Report)(l:List QB)(h1:r.Colours.length≤1048576)(h2:r.Places.length≤1048576)(hl:l.length≤1048576)(hi:∀x∈l,i64 x.Qo.Id) :
  ∃o,BS r l=some o∧F3 r l=some o∧o.length≤1048576∧∀x∈o,i64 x:=by
 obtain⟨b,b1,b2,_⟩:=M4 l hl;have hp:∀f,∃b,Cu r f=some b∧IK r f=some b:=λf=>Qf9 r f h1 h2
 let p:QB→Bool:=λf=>(Cu r f).getD false
 have hpI:∀f,Cu r f=some (p f):=λf=>by obtain⟨b,e,_⟩:=hp f;show _=some ((Cu r f).getD false);rw[e];rfl
 have hpS:∀f,IK r f=some (p f):=λf=>by obtain⟨b,e,e2⟩:=hp f;show _=some ((Cu r f).getD false);rw[e,e2];rfl
 unfold BS;rw[b2];cases b with
 |false =>
  refine⟨[],rfl,?_,by simp,by simp⟩
  unfold F3;rw[rR (r:=[]) (by
   simp only[BB,b1,Qa];cases decide ((0:Int)<ln l)<;>rfl)]
  rfl
 |true =>
  have hI:=ES l p (λf=>f.Qo.Id) (step:=ZV r l (ln l)) (λi o hi' ho=>by
    simp only[ZV,QY hi',QR hi',Q2 hi',Q3 (show(i:Int)<9223372036854775807 by omega),VT (show o.length+1≤2000000 by omega) (show 8≤1024 by omega),Qc,QL,hpI,Qa]
    cases p l[i]<;>rfl)
   (λo=>by simp only[ZV,Q6 (Qg _),Qb])
  have hS:=ES l p (λf=>f.Qo.Id) (step:=BB l r) (λi o hi' ho=>by
    simp only[BB,QY hi',QR hi',Q2 hi',Q3 (show(i:Int)<9223372036854775807 by omega),VT (show o.length+1≤2000000 by omega) (show 8≤1024 by omega),Qc,QL,b1,hpS,Qa]
    cases p l[i]<;>rfl)
   (λo=>by simp only[BB,Q6 (Qg _),Qb,Qa])
  refine⟨(l.filter p).map λf=>f.Qo.Id,?_,?_,?_,?_⟩
  ·simp only[Qa,Qh,Qb,hI]
  ·unfold F3;rw[hS];rfl
  ·rw[List.length_map];exact Nat.le_trans (List.length_filter_le _ _) hl
  ·intro x hx
   obtain⟨f,hf,rfl⟩:=List.mem_map.1 hx;exact hi f (List.mem_filter.1 hf).1
def yt(l:List UInt8):∀x∈jr l,x.length≤l.length∧x≠[]:=λx hx=>by
 obtain⟨h1,h2⟩:=List.mem_filter.1 hx;exact⟨(UD 32 l x h1).1,by simpa using h2⟩
def mK(l:List UInt8):(jr l).length≤l.length+1:=Nat.le_trans (List.length_filter_le _ _) (L2 32 l)
def nh(a:Ql)(l:List UInt8)(hl:l.length≤1048576):run (JJ l a (De 32 l) (ln (De 32 l))) ([],0)=some (jr l):=by
 have hp:=L2 32 l;have:=ES (De 32 l) (λx=>!decide (x=[])) id (step:=JJ l a (De 32 l) (ln (De 32 l))) (λi o hi ho=>by
   simp only[JJ,QY hi,QR hi,Q2 hi,Q3 (show(i:Int)<9223372036854775807 by omega),d5 (show o.length+1≤2000000 by omega),Qc,QL,id]
   cases decide ((De 32 l)[i]=[])<;>rfl)
  (λo=>by simp only[JJ,Q6 (Qg _),Qb])
 rw[this,List.map_id];rfl
def Re(a:Ql)(w:List UInt8)(ws:List (List UInt8)):Option (Ql×List UInt8) :=
 bif !decide (fU w=(ws.length:Int))then some (a,FH)else bif decide (w=Bz)then(strings_Join ws [32]).bind λr4=>(Zp r4).bind λr5=>(bif !r5.2 then some (a,FH)else(BS r5.1 a.Qt).bind λr8=>(Jt r8).bind λr9=>some (a,r9))else(Ad (w::ws)).bind λr10=>(bif !r10.2 then some (a,FH)else T5 a w r10.1)
def Nr{α:Type}(w:α)(ws:List α):cut (w::ws) 1 (ln (w::ws))=ws:=by
 unfold cut ln;simp
def Nt{α:Type}(w:α)(ws:List α):Cy 1 (ln (w::ws)) (ln (w::ws))=true:=by
 unfold Cy ln;simp;omega
def oq(a:Ql)(l:List UInt8)(hm:QS a)(hl:l.length≤1048576):Zk a l=if 200<l.length then some (a,FH)else match jr l with|[]=>some (a,FH)|w::ws=>Re a w ws:=by
 unfold Zk;rw[cK l 32 (by omega),Qa,nh a l hl,Qa]
 by_cases h:200<l.length
 ·rw[if_pos h,Qf (show(200:Int)<ln l by rw[Vq];omega)]
  show(Vb a).bind _=_;rw[Js a hm];rfl
 rw[if_neg h,Qe (show ¬(200:Int)<ln l by rw[Vq];omega),Qb]
 cases hw:jr l with
 |nil =>
  show(Vb a).bind _=_;rw[Js a hm];rfl
 |cons w ws =>
  have hlen:=mK l;rw[hw]at hlen;simp only[List.length_cons]at hlen;have e1:decide (ln (w::ws)=0)=false:=Qe (by rw[Vq];simp;omega)
  have e2:Q0 (w::ws) 0=true:=by rw[AA];simp
  have e3:gt (w::ws) 0=w:=rfl;have e4:QV (ln (w::ws)-1)=(ws.length:Int):=by rw[Vq,List.length_cons,Vt (by omega) (by omega)];omega
  simp only[e1,e2,e3,e4,Qb,QL,Qif,Qa,Nt,Nr,Js a hm];unfold Re T5;cases decide (fU w=(ws.length:Int))with
  |false=>rfl
  |true =>
   simp only[Qh,Qb,Js a hm,Qa];rfl
def fK(w:List UInt8)(ws:List (List UInt8))(h:¬(w=Xg∧ws.length=10)):Z7 (w::ws)=some noEv:=by
 unfold Z7;have e2:Q0 (w::ws) 0=true:=by rw[AA];simp
 rw[e2,show gt (w::ws) 0=w from rfl];by_cases hl:ws.length=10
 ·have hw:¬w=[102,105,110,100]:=λe=>h ⟨e,hl⟩
  rw[Qf (show ln (w::ws)=11 by rw[Vq];simp;omega),Qe hw]
  rfl
 ·rw[Qe (show ¬ln (w::ws)=11 by rw[Vq];simp;omega)]
  rfl
def bt(a:Ql)(l:List UInt8)(hm:QS a)(hl:l.length≤1048576)(h:200<l.length∨jr l=[]):Xj a l=some (a,FH):=by
 unfold Xj;rw[Rz l hl,Qa];have:(decide (ln (jr l)=0)||decide (200<ln l))=true:=by
  rcases h with h|h
  ·rw[Qf (show(200:Int)<ln l by rw[Vq];omega)];simp
  ·rw[h];rfl
 rw[this];show(Vk a).bind _=_;rw[JQ a hm];rfl
section
variable{a:Ql}{l w:List UInt8}{ws:List (List UInt8)}(hm:QS a)(hl:l.length≤200)(hw:jr l=w::ws)
include hm hl hw
def Yz(hf:Z7 (w::ws)=some noEv)(hn:¬(ws.length=6∧w=Bz)):Xj a l=(Cn ws).bind λr9=>bif !r9.2 then some (a,FH)else OK a w r9.1:=by
 unfold Xj OK;have e0:(decide (ln (w::ws)=0)||decide (200<ln l))=false:=by
  rw[Qe (show ¬ln (w::ws)=0 by rw[Vq];simp;omega),Qe (show ¬(200:Int)<ln l by rw[Vq];omega)];rfl
 have e2:Q0 (w::ws) 0=true:=by rw[AA];simp
 have e7:(bif decide (ln (w::ws)=7)then some (decide (w=[109,97,116,99,104]))else some false)=some false:=by
  by_cases h7:ws.length=6
  ·rw[Qf (show ln (w::ws)=7 by rw[Vq];simp;omega),Qe (show ¬w=[109,97,116,99,104]from λe=>hn ⟨h7,e⟩)];rfl
  ·rw[Qe (show ¬ln (w::ws)=7 by rw[Vq];simp;omega)];rfl
 rw[Rz l (by omega),Qa,hw]
 simp only[e0,Qb,hf,Qa,e2,show gt (w::ws) 0=w from rfl,QL,e7,Nt,Nr,show decide (noEv.Kind=0)=true from rfl,Bool.and_true,JQ a hm,Qc];rfl
def jg(hf1:w=Xg){e:Event}(hf:Z7 (w::ws)=some e)(hk:e.Kind=1)(hn:∃q,Cn ws=some q){r:Ql×Bool}(hr:D2 a e=some r):Xj a l=some (Rr a r):=by
 obtain⟨q,hq⟩:=hn;unfold Xj;have e0:(decide (ln (w::ws)=0)||decide (200<ln l))=false:=by
  rw[Qe (show ¬ln (w::ws)=0 by rw[Vq];simp;omega),Qe (show ¬(200:Int)<ln l by rw[Vq];omega)];rfl
 have e2:Q0 (w::ws) 0=true:=by rw[AA];simp
 subst hf1;have e7:(bif decide (ln (Xg::ws)=7)then some (decide (Xg=[109,97,116,99,104]))else some false)=some false:=by
  cases decide (ln (Xg::ws)=7)<;>rfl
 rw[Rz l (by omega),Qa,hw]
 simp only[e0,Qb,hf,Qa,e2,show gt (Xg::ws) 0=Xg from rfl,QL,e7,Nt,Nr,hq,hk,show decide ((1:Int)=0)=false from rfl,Bool.and_false,show decide (Xg=[110,101,119])=false from rfl,Bool.false_and,show decide ((0:Int)<1)=true from rfl,Qc,hr];exact Pg a hm r
end
def Wf(ws:List (List UInt8))(hl:ws.length≤1048576):(ws.all (λx=>(Xl x).2)=true∧Cn ws=some (ws.map (λx=>(Xl x).1),true))∨(ws.all (λx=>(Xl x).2)=false∧∃o,Cn ws=some (o,false)):=by
 unfold Cn
 rcases RQ ws (λo=>(o,false)) (step:=F5 ws) (λi o hi ho=>by
   simp only[F5,QY hi,QR hi,Q2 hi,Q3 (show(i:Int)<9223372036854775807 by omega),VT (show o.length+1≤2000000 by omega) (show 8≤1024 by omega),Qc,QL,dM,Qa]
   cases (Xl ws[i]).2<;>rfl)
  (λo=>by simp only[F5,Q6 (Qg _),Qb])with⟨h1,h2⟩|⟨h1,o,h2⟩
 ·left
  exact⟨h1,by rw[h2];rfl⟩
 ·right
  exact⟨h1,o,by rw[h2];rfl⟩
def sk(w:List UInt8)(ws:List (List UInt8))(hl:ws.length≤1048576)(hw:w≠Xg):Ad (w::ws)=some (if ws.all (λx=>(Xl x).2)=true then(ws.map (λx=>(Xl x).1),true)else([],false)):=by
 unfold Ad;have hw':decide (w=[102,105,110,100])=false:=Qe hw;have e2:Q0 (w::ws) 0=true:=by rw[AA];simp
 rw[Nt,Nr]
 rcases RQ ws (λ_=>(([]:List Int),false)) (step:=Xw (w::ws) ws (ln ws)) (λi o hi ho=>by
   simp only[Xw,QY hi,QR hi,Q2 hi,Q3 (show(i:Int)<9223372036854775807 by omega),VT (show o.length+1≤2000000 by omega) (show 8≤1024 by omega),Qc,Qb,QL,SA,Qa,e2,show gt (w::ws) 0=w from rfl,hw',Bool.false_and]
   cases (Xl ws[i]).2<;>rfl)
  (λo=>by simp only[Xw,Q6 (Qg _),Qb])with⟨h1,h2⟩|⟨h1,o,h2⟩
 ·rw[h2,if_pos h1];rfl
 ·rw[h2,if_neg (by rw[h1];decide)];rfl
def n8(a:Ql)(w b c d e f g:List UInt8)(hx:∀x∈[b,c,d,e,f,g],x.length≤200):run (CI a [w,b,c,d,e,f,g]) (b,2)=some (Lib.join [b,c,d,e,f,g] [32]):=by
 have hb:=hx b (by simp)
 have hc:=hx c (by simp)
 have hd:=hx d (by simp)
 have he:=hx e (by simp)
 have hf:=hx f (by simp)
 have hg:=hx g (by simp)
 have st:∀(s:List UInt8) (i:Int) (x:List UInt8),s.length≤2000→x.length≤200→0≤i→i<7→Q0 [w,b,c,d,e,f,g] i=true→gt [w,b,c,d,e,f,g] i=x→CI a [w,b,c,d,e,f,g] (s,i)=some (.inl (s++[32]++x,i+1)):=λs i x h1 h2 h3 h4 h5 h6=>by
  simp only[CI,Qf h4,Qc,h5,h6,QL,BF (x:=s) (y:=[32]) (by omega) (by simp),BF (x:=QP s [32]) (y:=x) (by rw[Zo];simp;omega) (by omega),Vt (n:=i+1) (by omega) (by omega)]
  rfl
 rw[rI (st b 2 c (by omega) hc (by omega) (by omega) rfl rfl),rI (st _ (2+1) d (by simp;omega) hd (by omega) (by omega) rfl rfl),rI (st _ (2+1+1) e (by simp;omega) he (by omega) (by omega) rfl rfl),rI (st _ (2+1+1+1) f (by simp;omega) hf (by omega) (by omega) rfl rfl),rI (st _ (2+1+1+1+1) g (by simp;omega) hg (by omega) (by omega) rfl rfl)]
 rw[rR (r:=b++[32]++c++[32]++d++[32]++e++[32]++f++[32]++g) rfl];simp[Lib.join,Lib.joinTail]
def UW{r:Report}(h:yE r):r.Colours.length≤1048576∧r.Places.length≤1048576:=by
 have:=h.1;omega
def ij(a:Ql)(l:List UInt8)(ws:List (List UInt8))(hm:QS a)(hk:Lk a)(hl:l.length≤200)(hw:jr l=Bz::ws)(h6:ws.length=6):∃s,Re a Bz ws=some (a,s)∧Xj a l=some (a,s)∧s≠[]:=by
 obtain⟨b,c,d,e,f,g,rfl⟩:=ut h6;have hx:∀x∈[b,c,d,e,f,g],x.length≤200:=λx hx=>Nat.le_trans (yt l x (by rw[hw];exact List.mem_cons_of_mem _ hx)).1 hl
 have hj:(Lib.join [b,c,d,e,f,g] [32]).length≤1206:=by
  have hb:=hx b (by simp)
  have hc:=hx c (by simp)
  have hd:=hx d (by simp)
  have he:=hx e (by simp)
  have hf:=hx f (by simp)
  have hg:=hx g (by simp)
  simp[Lib.join,Lib.joinTail];omega
 obtain⟨r,r1,r2,r3⟩:=vO _ hj (λr h=>aZ r (UW h).1 (UW h).2)
 obtain⟨o,o1,o2,o3,o4⟩:=jY r.1 a.Qt (UW r3).1 (UW r3).2 hm.1 hk.finds;obtain⟨s1,s2⟩:=IT o o3 o4;have s3:=Yp o;generalize Dy (o.map Lib.itoa)=s at s1 s2 s3;refine⟨bif !r.2 then FH else s,?_,?_,by
  cases r.2 with
  |true=>exact s3
  |false=>exact List.cons_ne_nil _ _⟩
 ·unfold Re
  rw[show decide (fU Bz=(([b,c,d,e,f,g]:List (List UInt8)).length:Int))=true from rfl,show decide (Bz=Bz)=true from rfl];simp only[Qh,Qb,Qc,S0 _ ⟨by simp,hx⟩,Qa,r1,o1,s2]
  cases r.2<;>rfl
 ·unfold Xj
  have e0:(decide (ln (Bz::[b,c,d,e,f,g])=0)||decide (200<ln l))=false:=by
   rw[Qe (show ¬(200:Int)<ln l by rw[Vq];omega)];rfl
  rw[Rz l (by omega),Qa,hw]
  simp only[e0,Qb,fK Bz [b,c,d,e,f,g] (by rintro⟨h,_⟩;revert h;decide),Qa,show decide (ln (Bz::[b,c,d,e,f,g])=7)=true from rfl,Qc,show Q0 (Bz::[b,c,d,e,f,g]) 0=true from rfl,show Q0 (Bz::[b,c,d,e,f,g]) 1=true from rfl,QL,
   show decide (gt (Bz::[b,c,d,e,f,g]) 0=[109,97,116,99,104])=true from rfl,show gt (Bz::[b,c,d,e,f,g]) 1=b from rfl,n8 a Bz b c d e f g hx,r2,o2,s1,JQ a hm]
  cases r.2<;>rfl
def QfZ{α:Type}{l:List α}(h:l.length=10):∃a b c d e f g i j k,l=[a,b,c,d,e,f,g,i,j,k]:=by
 match l,h with
 |[a,b,c,d,e,f,g,i,j,k],_=>exact⟨a,b,c,d,e,f,g,i,j,k,rfl⟩
def ru(b c d e f g h i j k:List UInt8) :
  Ad [Xg,b,c,d,e,f,g,h,i,j,k]=some (bif (Xl b).2&&(decide (0<kO c)&&[d,e,f,g,h,i,j,k].all λx=>(Xl x).2)then((Xl b).1::kO c::[d,e,f,g,h,i,j,k].map λx=>(Xl x).1,true)else([],false)):=by
 have hn:∀(o:List Int) (q:Nat) (x:List UInt8),o.length≤10→q≠1→q<10→gt [b,c,d,e,f,g,h,i,j,k] (q:Int)=x→Q0 [b,c,d,e,f,g,h,i,j,k] (q:Int)=true→Xw [Xg,b,c,d,e,f,g,h,i,j,k] [b,c,d,e,f,g,h,i,j,k] 10 (o,(q:Int))=(bif (Xl x).2 then some (.inl (o++[(Xl x).1],((q+1:Nat):Int)))else some (.inr (.ret ([],false)))):=λo q x h1 h2 h3 h4 h5=>by
  simp only[Xw,Qf (show(q:Int)<10 by omega),Qc,h5,h4,QL,SA,Qa,show Q0 [Xg,b,c,d,e,f,g,h,i,j,k] 0=true from rfl,show decide (gt [Xg,b,c,d,e,f,g,h,i,j,k] 0=[102,105,110,100])=true from rfl,Qe (show ¬(q:Int)=1 by omega),Bool.and_false,Qb,VT (show o.length+1≤2000000 by omega) (show 8≤1024 by omega),Q3 (show(q:Int)<9223372036854775807 by omega)]
  cases (Xl x).2<;>rfl
 have h1:∀(o:List Int),o.length≤10→Xw [Xg,b,c,d,e,f,g,h,i,j,k] [b,c,d,e,f,g,h,i,j,k] 10 (o,((1:Nat):Int))=(bif decide (0<kO c)then some (.inl (o++[kO c],((2:Nat):Int)))else some (.inr (.ret ([],false)))):=λo ho=>by
  simp only[Xw,show decide (((1:Nat):Int)<10)=true from rfl,Qc,show Q0 [b,c,d,e,f,g,h,i,j,k] ((1:Nat):Int)=true from rfl,show gt [b,c,d,e,f,g,h,i,j,k] ((1:Nat):Int)=c from rfl,QL,SA,Qa,show Q0 [Xg,b,c,d,e,f,g,h,i,j,k] 0=true from rfl,show decide (gt [Xg,b,c,d,e,f,g,h,i,j,k] 0=[102,105,110,100])=true from rfl,show decide (((1:Nat):Int)=1)=true from rfl,Bool.and_true,(bc c).1,VT (show o.length+1≤2000000 by omega) (show 8≤1024 by omega),Q3 (show((1:Nat):Int)<9223372036854775807 by omega)]
  cases decide (0<kO c)<;>rfl
 have hend:∀o:List Int,Xw [Xg,b,c,d,e,f,g,h,i,j,k] [b,c,d,e,f,g,h,i,j,k] 10 (o,((10:Nat):Int))=some (.inr (.brk o)):=λo=>rfl
 unfold Ad;rw[show ln [Xg,b,c,d,e,f,g,h,i,j,k]=ln (Xg::[b,c,d,e,f,g,h,i,j,k])from rfl,Nt Xg [b,c,d,e,f,g,h,i,j,k],Nr Xg [b,c,d,e,f,g,h,i,j,k],show ln [b,c,d,e,f,g,h,i,j,k]=10 from rfl,show(([]:List Int),(0:Int))=([],((0:Nat):Int))from rfl];simp only[QL];cases hb:(Xl b).2 with
 |false=>rw[rR (by rw[hn [] 0 b (by simp) (by omega) (by omega) rfl rfl,hb];rfl)];rfl
 |true =>
 rw[rI (by rw[hn [] 0 b (by simp) (by omega) (by omega) rfl rfl,hb];rfl)]
 cases hc:decide (0<kO c)with
 |false=>rw[rR (by rw[h1 _ (by simp),hc];rfl)];rfl
 |true =>
 rw[rI (by rw[h1 _ (by simp),hc];rfl)]
 cases hd:(Xl d).2 with
 |false=>rw[rR (by rw[hn _ 2 d (by simp) (by omega) (by omega) rfl rfl,hd];rfl)];simp[hd,Zy]
 |true =>
 rw[rI (by rw[hn _ 2 d (by simp) (by omega) (by omega) rfl rfl,hd];rfl)]
 cases he:(Xl e).2 with
 |false=>rw[rR (by rw[hn _ 3 e (by simp) (by omega) (by omega) rfl rfl,he];rfl)];simp[hd,he,Zy]
 |true =>
 rw[rI (by rw[hn _ 3 e (by simp) (by omega) (by omega) rfl rfl,he];rfl)]
 cases hf:(Xl f).2 with
 |false=>rw[rR (by rw[hn _ 4 f (by simp) (by omega) (by omega) rfl rfl,hf];rfl)];simp[hd,he,hf,Zy]
 |true =>
 rw[rI (by rw[hn _ 4 f (by simp) (by omega) (by omega) rfl rfl,hf];rfl)]
 cases hg:(Xl g).2 with
 |false=>rw[rR (by rw[hn _ 5 g (by simp) (by omega) (by omega) rfl rfl,hg];rfl)];simp[hd,he,hf,hg,Zy]
 |true =>
 rw[rI (by rw[hn _ 5 g (by simp) (by omega) (by omega) rfl rfl,hg];rfl)]
 cases hh:(Xl h).2 with
 |false=>rw[rR (by rw[hn _ 6 h (by simp) (by omega) (by omega) rfl rfl,hh];rfl)];simp[hd,he,hf,hg,hh,Zy]
 |true =>
 rw[rI (by rw[hn _ 6 h (by simp) (by omega) (by omega) rfl rfl,hh];rfl)]
 cases hi:(Xl i).2 with
 |false=>rw[rR (by rw[hn _ 7 i (by simp) (by omega) (by omega) rfl rfl,hi];rfl)];simp[hd,he,hf,hg,hh,hi,Zy]
 |true =>
 rw[rI (by rw[hn _ 7 i (by simp) (by omega) (by omega) rfl rfl,hi];rfl)]
 cases hj:(Xl j).2 with
 |false=>rw[rR (by rw[hn _ 8 j (by simp) (by omega) (by omega) rfl rfl,hj];rfl)];simp[hd,he,hf,hg,hh,hi,hj,Zy]
 |true =>
 rw[rI (by rw[hn _ 8 j (by simp) (by omega) (by omega) rfl rfl,hj];rfl)]
 cases hk:(Xl k).2 with
 |false=>rw[rR (by rw[hn _ 9 k (by simp) (by omega) (by omega) rfl rfl,hk];rfl)];simp[hd,he,hf,hg,hh,hi,hj,hk,Zy]
 |true =>
 rw[rI (by rw[hn _ 9 k (by simp) (by omega) (by omega) rfl rfl,hk];rfl),rR (hend _)]
 simp[hd,he,hf,hg,hh,hi,hj,hk,Zy]
end Go.Proofs.YtfhnbabcbhgffaaGreatDoor
