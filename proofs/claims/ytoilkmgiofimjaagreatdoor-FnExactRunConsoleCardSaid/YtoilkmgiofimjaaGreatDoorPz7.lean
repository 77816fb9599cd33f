import Derived.Test.YtoilkmgiofimjaaGreatDoorPz6
noncomputable section
namespace Go.Proofs.YtoilkmgiofimjaaGreatDoor
open Go
set_option linter.unusedVariables false
set_option linter.unusedSimpArgs false
theorem PB(L:List (List UInt8)){R:Type}(z:List Int→R){step:(List Int×Int)→Option ((List Int×Int)⊕(Fl R (List Int)))}
  (h1:∀(i:Nat) (o:List Int) (h:i<L.length),o.length≤i→step (o,(i:Int))=some (bif (VN L[i]).2 then .inl (o++[(VN L[i]).1],((i+1:Nat):Int))else .inr (.ret (z o))))
  (h2:∀o,step (o,(L.length:Int))=some (.inr (.brk o))) :
  (L.all (λx=>(VN x).2)=true∧run step ([],0)=some (.brk (L.map λx=>(VN x).1)))∨(L.all (λx=>(VN x).2)=false∧∃o,run step ([],0)=some (.ret (z o))):=by
 have key:∀(m i:Nat),i+m=L.length→((L.drop i).all (λx=>(VN x).2)=true∧run step ((L.take i).map (λx=>(VN x).1),(i:Int))=some (.brk (L.map λx=>(VN x).1)))∨((L.drop i).all (λx=>(VN x).2)=false∧∃o,run step ((L.take i).map (λx=>(VN x).1),(i:Int))=some (.ret (z o))):=by
  intro m
  induction m with
  |zero =>
   intro i hi;have e:i=L.length:=by omega
   subst e;left;rw[List.drop_length,List.take_length];exact⟨rfl,rR (h2 _)⟩
  |succ m ih =>
   intro i hi;have hlt:i<L.length:=by omega
   have hs:=h1 i ((L.take i).map (λx=>(VN x).1)) hlt (by simp;omega)
   rw[List.drop_eq_getElem_cons hlt,List.all_cons];cases hc:(VN L[i]).2 with
   |false =>
    rw[hc,Qb]at hs;right;exact⟨rfl,_,rR hs⟩
   |true =>
    rw[hc,Qc]at hs;rw[rI hs,Bool.true_and];have:=ih (i+1) (by omega)
    rw[List.take_succ_eq_append_getElem hlt,List.map_append]at this;exact this
 simpa using key L.length 0 (by omega)
def Ei(s:List UInt8):List Int×Bool:=if s=[45]then([],true)else if(spl 44 s).all (λx=>(VN x).2)=true then((spl 44 s).map λx=>(VN x).1,true)else([],false)
theorem YV(s:List UInt8):∀x∈(Ei s).1,i64 x:=by
 intro x hx;unfold Ei at hx
 split at hx
 ·cases hx
 ·split at hx
  ·obtain⟨y,_,rfl⟩:=List.mem_map.1 hx
   exact Lq y
  ·cases hx
theorem YI(s:List UInt8):(Ei s).1.length≤s.length+1:=by
 unfold Ei
 split
 ·simp
 ·split
  ·rw[List.length_map];exact Ki 44 s
  ·simp
theorem UP(s:List UInt8)(hl:s.length≤1048576):Cd s=some (Ei s):=by
 unfold Cd Ei;by_cases h:s=[45]
 ·rw[Qf h,if_pos h];rfl
 have hp:=Ki 44 s;rw[Qe h,if_neg h,Qb,bf s 44 (by omega),Qa]
 rcases PB (spl 44 s) (λ_=>([],false)) (step:=ZW (spl 44 s) (ln (spl 44 s))) (λi o hi ho=>by
   simp only[ZW,Qy hi,Qs hi,QC hi,QM (show(i:Int)<9223372036854775807 by omega),Vp (show o.length+1≤2000000 by omega) (show 8≤1024 by omega),Qc,Qn,Se,Qa]
   cases (VN (spl 44 s)[i]).2<;>rfl)
  (λo=>by simp only[ZW,QP (Qg _),Qb])with⟨h1,h2⟩|⟨h1,o,h2⟩
 ·rw[h2,if_pos h1];rfl
 ·rw[h2,if_neg (by rw[h1];decide)];rfl
def Dj(s:List UInt8):Int×Int×Bool:=((VN (Lib.cut s [45]).1).1,(VN (Lib.cut s [45]).2.1).1,(VN (Lib.cut s [45]).1).2&&(VN (Lib.cut s [45]).2.1).2)
theorem qc(s:List UInt8)(hl:s.length≤1048576):Ce s=some (Dj s):=by
 unfold Ce strings_Cut Dj;rw[Qf (show s.length<4294967281 by omega)]
 simp only[Qn,Qa,Se];cases (VN (Lib.cut s [45]).1).2<;>rfl
theorem Md(s:List UInt8):i64 (Dj s).1∧i64 (Dj s).2.1:=⟨Lq _,Lq _⟩
def kO(s:List UInt8):Int:=(AE s).getD 0
theorem Y9(s:List UInt8):AE s=some (kO s)∧0≤kO s∧kO s≤8:=by
 obtain⟨r,h,h0,h8⟩:=Qeb s;unfold kO;rw[h];exact⟨rfl,h0,h8⟩
def six(a b c d e f:List UInt8):Report:=⟨(VN a).1,kO b,(Ei c).1,(Dj d).1,(Dj d).2.1,(Ei e).1,⟨(Dj f).1,(Dj f).2.1⟩⟩
theorem W5(a b c d e f:List UInt8)(hc:c.length≤1206)(he:e.length≤1206):okR (six a b c d e f):=by
 have h1:=YI c;have h2:=YI e;exact⟨⟨by simp only[six];omega,by simp only[six];omega⟩,YV c,YV e,Lq a,(Md d).1,(Md d).2,(Md f).1,(Md f).2⟩
def wQ(a c d e f:List UInt8):Bool:=(VN a).2&&((Ei c).2&&((Dj d).2.2&&((Ei e).2&&(Dj f).2.2)))
def mr:Report:=⟨0,0,[],0,0,[],⟨0,0⟩⟩
theorem un{α:Type}{l:List α}(h:l.length=6):∃a b c d e f,l=[a,b,c,d,e,f]:=by
 match l,h with
 |[a,b,c,d,e,f],_=>exact⟨a,b,c,d,e,f,rfl⟩
theorem oB(s:List UInt8)(hl:s.length≤1206)(hR:∀r,okR r→∃b,JE r=some b) :
  (¬(spl 32 s).length=6∧Jt s=some (mr,false))∨∃a b c d e f,spl 32 s=[a,b,c,d,e,f]∧(∀x∈[a,b,c,d,e,f],x.length≤1206) ∧
   ∃B,JE (six a b c d e f)=some B∧Jt s=some (bif wQ a c d e f&&decide ((if B=true then dq (six a b c d e f)else[])=s)then(six a b c d e f,true)else(mr,false)):=by
 unfold Jt;rw[bf s 32 (by omega),Qa]
 by_cases h:(spl 32 s).length=6
 ·right
  obtain⟨a,b,c,d,e,f,hw⟩:=un h;have hx:∀x∈[a,b,c,d,e,f],x.length≤1206:=λx hx=>by
   rw[←hw]at hx;exact Nat.le_trans (TN 32 s x hx).1 hl
  have hc:=hx c (by simp)
  have hd:=hx d (by simp)
  have he:=hx e (by simp)
  have hf:=hx f (by simp)
  obtain⟨B,hB⟩:=hR _ (W5 a b c d e f hc he);refine⟨a,b,c,d,e,f,hw,hx,B,hB,?_⟩;have hT:=QjV _ (W5 a b c d e f hc he) B hB;rw[hw];have h6:((⟨(VN a).1,kO b,(Ei c).1,(Dj d).1,(Dj d).2.1,(Ei e).1,⟨(Dj f).1,(Dj f).2.1⟩⟩:Report))=six a b c d e f:=rfl;simp only[show decide (ln [a,b,c,d,e,f]=6)=true from rfl,Qh,Qb,show inb [a,b,c,d,e,f] 0=true from rfl,show inb [a,b,c,d,e,f] 1=true from rfl,show inb [a,b,c,d,e,f] 2=true from rfl,show inb [a,b,c,d,e,f] 3=true from rfl,
   show inb [a,b,c,d,e,f] 4=true from rfl,show inb [a,b,c,d,e,f] 5=true from rfl,Qn,show gt [a,b,c,d,e,f] 0=a from rfl,show gt [a,b,c,d,e,f] 1=b from rfl,show gt [a,b,c,d,e,f] 2=c from rfl,show gt [a,b,c,d,e,f] 3=d from rfl,
   show gt [a,b,c,d,e,f] 4=e from rfl,show gt [a,b,c,d,e,f] 5=f from rfl,Se,UP c (by omega),UP e (by omega),qc d (by omega),qc f (by omega),(Y9 b).1,Qa,h6,hT,wQ]
  generalize (decide ((if B=true then dq (six a b c d e f)else[])=s))=t
  cases (VN a).2<;>cases (Ei c).2<;>cases (Dj d).2.2<;>cases (Ei e).2<;>cases (Dj f).2.2<;>cases t<;>rfl
 ·left
  have:decide (ln (spl 32 s)=6)=false:=Qe (by rw[Q5];omega)
  rw[this];exact⟨h,rfl⟩
theorem SJ:∀(u:Nat) (t:List UInt8),Lib.decDigits u=48::t→u=0∧t=[]
 |u,t,h=>by
  by_cases hu:u<10
  ·rw[Lib.decDigits_one hu]at h
   injection h with h1 h2
   refine⟨?_,h2.symm⟩;have:=congrArg UInt8.toNat h1;rw[UInt8.toNat_ofNat']at this;have h8:(48:UInt8).toNat=48:=rfl;omega
  ·rw[Lib.decDigits,dif_neg hu]at h
   cases hd:Lib.decDigits (u / 10)with
   |nil =>
    have:=Lib.decDigits_length (u / 10);have:=Lib.nDigits_pos (u / 10);rw[hd]at *;simp at *;omega
   |cons x t' =>
    rw[hd,List.cons_append]at h;injection h with h1 h2
    subst h1;have:=SJ (u / 10) t' hd;omega
theorem aO(s:List UInt8):Zw s=some (VN s):=by
 unfold Zw VN fu Qq;rw[Q5];by_cases h0:s.length=0
 ·simp[h0]
 by_cases h13:13<s.length
 ·simp[h13,Qe (show ¬(s.length:Int)≤13 by omega)]
 have hrun:=su s (by omega) (step:=AJ s) (λa i hi ha0 ha=>by
   have hx:(s[i].toNat:Int)<256:=by have:=s[i].toNat_lt;omega
   simp only[AJ,Qq,Qy hi,Qs hi,QC hi,Qc,Qn,Qa,QM (show(i:Int)<9223372036854775807 by omega),dgB,VA (n:=(s[i].toNat:Int)) (by omega) (by omega)]
   by_cases c1:48≤s[i].toNat
   ·by_cases c2:s[i].toNat≤57
    ·rw[Qf (show(48:Int)≤(s[i].toNat:Int)by omega),Qf (show(s[i].toNat:Int)≤57 by omega),Qf c1,Qf c2,u8w (by omega) (by omega),VA (n:=10*a) (by omega) (by omega),VA (n:=(s[i].toNat:Int)-48) (by omega) (by omega),VA (by omega) (by omega)]
     simp only[Qh,Qb,Bool.and_self,Qc];rw[show 10*a+((s[i].toNat:Int)-48)=10*a+(s[i].toNat:Int)-48 by omega]
    ·rw[Qe (show ¬(s[i].toNat:Int)≤57 by omega),Qe c2]
     simp
   ·rw[Qe (show ¬(48:Int)≤(s[i].toNat:Int)by omega),Qe c1]
    simp) (λa=>by simp only[AJ,QP (Qg _),Qb])
 rw[hrun,Qf (show(1:Int)≤(s.length:Int)by omega),Qf (show(s.length:Int)≤13 by omega),Qe h0,Qe h13]
 simp only[Qa,Bool.and_self,Qh,Qb,Qi,Bool.true_and];cases hd:s.all dgB with
 |false=>simp[evO]
 |true =>
  have hlt:=bW _ s rfl hd;have hb2:10^s.length≤10^13:=Nat.pow_le_pow_right (by omega) (by omega)
  simp only[Qc,evO,Bool.true_and];rw[JQ _ (by unfold i64;omega)]
  by_cases hn:1000000000000<F3 s
  ·rw[Qf (show(1000000000000:Int)<(F3 s:Int)by omega),Qf hn];simp
  rw[Qe (show ¬(1000000000000:Int)<(F3 s:Int)by omega),Qe hn]
  have hi:Lib.itoa (F3 s:Int)=Lib.decDigits (F3 s):=by
   unfold Lib.itoa;rw[if_neg (by omega),Int.toNat_natCast]
  simp only[Qb,Qa,hi,Qi,Bool.and_true];by_cases hz:1<s.length∧s.head?=some 48
  ·rw[Qf hz.1,Qf hz.2]
   have hne:¬Lib.decDigits (F3 s)=s:=λe=>by
    cases s with
    |nil=>simp at h0
    |cons x t =>
     have hx:x=48:=by simpa using hz.2
     subst hx;have:=(SJ _ _ e).2;subst this;simp at hz
   rw[Qe hne];simp
  ·have hor:s.length-1=0∨s.head?≠some 48:=by
    by_cases h1:1<s.length
    ·exact .inr λe=>hz ⟨h1,e⟩
    ·exact .inl (by omega)
   have he:=(Hq (s.length-1) s (by omega) hd hor).1
   rw[Qf he];have:(decide (1<s.length)&&decide (s.head?=some 48))=false:=by
    rw[Bool.eq_false_iff];intro h;simp only[Bool.and_eq_true,decide_eq_true_eq]at h;exact hz h
   rw[this];simp
theorem pW(k:Int):Dx k=some (kT k):=by
 unfold Dx Qq kT;by_cases h:1≤k∧k≤8
 ·rw[if_pos h]
  rcases(by omega:k=1∨k=2∨k=3∨k=4∨k=5∨k=6∨k=7∨k=8)with rfl|rfl|rfl|rfl|rfl|rfl|rfl|rfl<;>rfl
 ·rw[if_neg h]
  have:(decide (1≤k)&&decide (k≤8))=false:=by
   rw[Bool.eq_false_iff];simpa using h
  rw[this];rfl
theorem gL(s:List UInt8):BF s=AE s:=by
 unfold BF AE;have:D3 s=X4 s:=by
  funext k;simp only[D3,X4,iG,pW]
 rw[this]
theorem iE(l:List Int)(hl:l.length≤1048576)(hx:∀x∈l,i64 x):Ar l=some (KA l):=by
 have hsh:=U3 l hl hx;have hr:=YO 44 (l.map Lib.itoa) hsh (step:=AI l) (λi s hi hs=>by
   have hi':i<l.length:=by simpa using hi
   have hm:=hx _ (List.getElem_mem hi');have h1:=Vf _ hm;have e2:(Qr s [44]).length≤1000000000000:=by rw[Ak];simp only[List.length_cons,List.length_nil];omega
   rw[List.getElem_map];simp only[AI,Qy hi',Qs hi',QC hi',QM (show(i:Int)<9223372036854775807 by omega),Qc,Qn,JQ _ hm,Qa,
    BO (x:=s) (y:=[44]) (by omega) (by simp),BO (x:=Qr s [44]) (y:=Lib.itoa l[i]) e2 (by omega),BO (x:=s) (y:=Lib.itoa l[i]) (by omega) (by omega)]
   by_cases h0:0<i
   ·rw[Qf (show(0:Int)<i by omega),if_pos h0];rfl
   ·rw[Qe (show ¬(0:Int)<i by omega),if_neg h0];rfl)
  (λs=>by
   rw[List.length_map];simp only[AI,QP (Qg _),Qb])
 unfold Ar KA;rw[hr,Qa];by_cases h0:l=[]
 ·subst h0;rfl
 ·rw[if_neg h0,zz h0];rfl
theorem QmZ(r:Report)(h:okR r)(b:Bool)(hb:Ax r=some b):Dn r=some (if b=true then dq r else[]):=by
 obtain⟨⟨l1,l2⟩,h1,h2,h3,h4,h5,h6,h7⟩:=h;unfold Dn;rw[hb];cases b with
 |false=>rfl
 |true =>
  have q1:=Vf _ h3;have q2:=pV r.Kind;have q3:=L9 _ h1;have q4:=L9 _ h2;have q5:=Vf _ h4;have q6:=Vf _ h5;have q7:=Vf _ h6;have q8:=Vf _ h7;have f:∀{x y:List UInt8},x.length≤100000000000→y.length≤1000000→Vb x y=true:=λhx hy=>BO (by omega) (by omega)
  simp only[Qa,Qh,Qb,JQ _ h3,JQ _ h4,JQ _ h5,JQ _ h6,JQ _ h7,pW,iE _ (show r.Colours.length≤1048576 by omega) h1,iE _ (show r.Places.length≤1048576 by omega) h2,Qr]
  have g:∀{x y:List UInt8} {q r:Option (List UInt8)},q=r→x.length≤100000000000→y.length≤1000000→(nd (Vb x y)<|q)=r:=λh hx hy=>by rw[f hx hy];exact h
  repeat refine g ?_ (by first|omega|(simp only[List.length_append,List.length_cons,List.length_nil];omega)) (by first|omega|(simp only[List.length_cons,List.length_nil];omega))
  simp[dq,OI]
theorem WW(s:List UInt8)(hl:s.length≤1206):Cf s=some (Ei s):=by
 unfold Cf Ei;by_cases h:s=[45]
 ·rw[Qf h,if_pos h];rfl
 have hp:=Ki 44 s;have h44:JD s 44=some (spl 44 s):=Us s 44 (by omega)
 rw[Qe h,if_neg h,Qb,h44,Qa]
 rcases PB (spl 44 s) (λ_=>([],false)) (step:=ZU s (spl 44 s)) (λi o hi ho=>by
   simp only[ZU,Qy hi,Qs hi,QC hi,QM (show(i:Int)<9223372036854775807 by omega),Vp (show o.length+1≤2000000 by omega) (show 8≤1024 by omega),Qc,Qn,aO,Qa]
   cases (VN (spl 44 s)[i]).2<;>rfl)
  (λo=>by simp only[ZU,QP (Qg _),Qb])with⟨h1,h2⟩|⟨h1,o,h2⟩
 ·have ht:KA ((spl 44 s).map λx=>(VN x).1)=s:=by
   obtain⟨x,l,e⟩:=D4 44 s;unfold KA;rw[if_neg (by rw[e];simp),List.map_map]
   have:(spl 44 s).map (Lib.itoa ∘ λx=>(VN x).1)=(spl 44 s).map id:=List.map_congr_left λy hy=>(jy (List.all_eq_true.1 h1 y hy)).2.2.2
   rw[this,List.map_id,gx]
  rw[h2,if_pos h1];show(Ar ((spl 44 s).map λx=>(VN x).1)).bind _=_
  rw[iE _ (by rw[List.length_map];omega) (λx hx=>by obtain⟨y,_,rfl⟩:=List.mem_map.1 hx;exact Lq y),ht]
  simp
 ·rw[h2,if_neg (by rw[h1];decide)];rfl
theorem QhR(s:List UInt8)(hl:s.length≤1206):∃r,FE s=some r∧r.2.2=(Dj s).2.2∧(r.2.2=true→r=Dj s):=by
 have h45:JD s 45=some (spl 45 s):=Us s 45 (by omega)
 unfold FE;rw[h45,Qa];have hcut:=Qk3 s 45 (by omega)
 unfold strings_Cut at hcut;rw[Qf (show s.length<4294967281 by omega)]at hcut
 unfold Dj
 rcases hcut with⟨hn,hc⟩|⟨a,t,rfl,ha,hc⟩
 ·have hc':Lib.cut s [45]=(s,[],false):=Option.some.inj hc
  rw[Wp 45 s hn,hc'];refine⟨(0,0,false),rfl,?_,λh=>by cases h⟩
  have:(VN []).2=false:=rfl;simp only[this,Bool.and_false]
 ·have hc':Lib.cut (a++45::t) [45]=(a,t,true):=Option.some.inj hc
  rw[gO 45 a t ha,hc'];by_cases ht:(45:UInt8)∈t
  ·have hlen:¬(spl 45 t).length=1:=by
    have hcut2:=Qk3 t 45 (by simp at hl;omega)
    rcases hcut2 with⟨hn,_⟩|⟨a2,t2,rfl,ha2,_⟩
    ·exact absurd ht hn
    ·rw[gO 45 a2 t2 ha2]
     obtain⟨x,l,e⟩:=D4 45 t2;rw[e];simp
   have h2:decide (ln (a::spl 45 t)=2)=false:=Qe (by rw[Q5];simp;omega)
   rw[h2];refine⟨(0,0,false),rfl,?_,λh=>by cases h⟩
   simp only[wb ht (by decide),Bool.and_false]
  ·rw[Wp 45 t ht]
   simp only[show decide (ln [a,t]=2)=true from rfl,Qh,Qb,show inb [a,t] 0=true from rfl,show inb [a,t] 1=true from rfl,show gt [a,t] 0=a from rfl,show gt [a,t] 1=t from rfl,Qn,aO,Qa];cases hq:(VN a).2 with
   |true=>exact⟨_,rfl,rfl,λ_=>rfl⟩
   |false=>exact⟨_,rfl,rfl,λh=>by cases h⟩
theorem qo(s:List UInt8)(hl:s.length≤1206)(hR:∀r,okR r→∃b,JE r=some b∧Ax r=some b) :
  ∃r,Jt s=some r∧AZ s=some r∧okR r.1:=by
 have h32:JD s 32=some (spl 32 s):=Us s 32 (by omega)
 rcases oB s hl (λr h=>let⟨b,h1,_⟩:=hR r h;⟨b,h1⟩)with⟨h6,h⟩|⟨a,b,c,d,e,f,hw,hx,B,hB,h⟩
 ·refine⟨_,h,?_,by simp[mr,okR,i64]⟩
  unfold AZ;rw[h32,Qa,show decide (ln (spl 32 s)=6)=false from Qe (by rw[Q5];omega)]
  rfl
 ·refine⟨_,h,?_,?_⟩
  ·have hc:=hx c (by simp)
   have hd:=hx d (by simp)
   have he:=hx e (by simp)
   have hf:=hx f (by simp)
   obtain⟨B',q1,q2⟩:=hR _ (W5 a b c d e f hc he);have:B'=B:=Option.some.inj (q1.symm.trans hB);subst this;have hT:=QmZ _ (W5 a b c d e f hc he) B' q2;obtain⟨rd,d1,d2,d3⟩:=QhR d hd;obtain⟨rf,f1,f2,f3⟩:=QhR f hf;have hs:¬s=[]:=λh0=>by rw[h0]at hw;simp[spl]at hw
   unfold AZ;rw[h32,Qa,hw];simp only[show decide (ln [a,b,c,d,e,f]=6)=true from rfl,Qh,Qb,show inb [a,b,c,d,e,f] 0=true from rfl,show inb [a,b,c,d,e,f] 1=true from rfl,show inb [a,b,c,d,e,f] 2=true from rfl,show inb [a,b,c,d,e,f] 3=true from rfl,
    show inb [a,b,c,d,e,f] 4=true from rfl,show inb [a,b,c,d,e,f] 5=true from rfl,Qn,show gt [a,b,c,d,e,f] 0=a from rfl,show gt [a,b,c,d,e,f] 1=b from rfl,show gt [a,b,c,d,e,f] 2=c from rfl,show gt [a,b,c,d,e,f] 3=d from rfl,
    show gt [a,b,c,d,e,f] 4=e from rfl,show gt [a,b,c,d,e,f] 5=f from rfl,aO,WW c hc,WW e he,d1,f1,gL,(Y9 b).1,Qa,wQ,Qe hs,Bool.or_false]
   cases hd2:(Dj d).2.2 with
   |false=>rw[hd2]at d2;rw[d2];cases (VN a).2<;>cases (Ei c).2<;>rfl
   |true =>
   rw[hd2]at d2;have ed:=d3 d2;subst ed;cases hf2:(Dj f).2.2 with
   |false=>rw[hf2]at f2;rw[f2,d2];cases (VN a).2<;>cases (Ei c).2<;>cases (Ei e).2<;>rfl
   |true =>
   rw[hf2]at f2;have ef:=f3 f2;subst ef;have h6:((⟨(VN a).1,kO b,(Ei c).1,(Dj d).1,(Dj d).2.1,(Ei e).1,⟨(Dj f).1,(Dj f).2.1⟩⟩:Report))=six a b c d e f:=rfl;simp only[h6,hT,d2,f2,Qa];generalize (decide ((if B'=true then dq (six a b c d e f)else[])=s))=t
   cases (VN a).2<;>cases (Ei c).2<;>cases (Ei e).2<;>cases t<;>rfl
  ·cases (wQ a c d e f&&decide ((if B=true then dq (six a b c d e f)else[])=s))with
   |false=>simp[mr,okR,i64]
   |true=>exact W5 a b c d e f (hx c (by simp)) (hx e (by simp))
theorem tZ(l:List Int)(x y:Int)(hl:l.length≤1048576):∃b,AP l x y=some b∧Gd l x y=some b:=by
 obtain⟨b,h1,h2,_⟩:=EZ (n:=l.length) (r:=false) (s1:=JW l x y l (ln l)) (s2:=DI l x y) (λi hi _=>by
   simp only[JW,DI,Qo,Qq,Qy hi,Qs hi,QC hi,QM (show(i:Int)<9223372036854775807 by omega),Qc,Qn,Qa]
   by_cases h0:0<i
   ·simp only[show decide (0<(i:Int))=true from Qf (by omega),CF h0 (by omega),Qs (show i-1<l.length by omega),Qc,Qn]
    cases (decide (x≤l[i])&&decide (l[i]≤y))<;>cases decide (l[i]≤gt l ((i-1:Nat):Int))<;>first|exact⟨true,rfl,rfl⟩|exact⟨false,rfl,rfl⟩
   ·simp only[show decide (0<(i:Int))=false from Qe (by omega),Qb]
    cases (decide (x≤l[i])&&decide (l[i]≤y))<;>first|exact⟨true,rfl,rfl⟩|exact⟨false,rfl,rfl⟩)
  (by simp only[JW,QP (Qg _),Qb]) (by simp only[DI,QP (Qg _),Qb])
 unfold AP Gd;rw[h1,h2];cases b with
 |true=>exact⟨true,rfl,rfl⟩
 |false=>exact⟨false,rfl,rfl⟩
theorem ax(r:Report)(h1:r.Colours.length≤1048576)(h2:r.Places.length≤1048576):∃b,JE r=some b∧Ax r=some b:=by
 obtain⟨p,p1,p2⟩:=tZ r.Colours 0 7 h1;obtain⟨q,q1,q2⟩:=tZ r.Places 1 30 h2;unfold JE Ax HA HG Qo Qq;simp only[p1,p2,q1,q2,Qa];cases (decide (1≤r.Id)&&decide (r.Id≤999))<;>try exact⟨false,rfl,rfl⟩
 cases (decide (1≤r.Kind)&&decide (r.Kind≤8))<;>try exact⟨false,rfl,rfl⟩
 cases p<;>try exact⟨false,rfl,rfl⟩
 cases decide (1≤r.SizeLow)<;>try exact⟨false,rfl,rfl⟩
 cases decide (r.SizeLow≤r.SizeHigh)<;>try exact⟨false,rfl,rfl⟩
 cases decide (r.SizeHigh≤50)<;>try exact⟨false,rfl,rfl⟩
 cases q<;>try exact⟨false,rfl,rfl⟩
 cases decide (ln r.Places≤10)<;>try exact⟨false,rfl,rfl⟩
 cases (decide (0≤r.Span.From)&&decide (r.Span.From≤100000))<;>exact⟨_,rfl,rfl⟩
theorem l8(l:List Int)(a:Int)(hl:l.length≤1048576):∃b,Fx l a=some b∧(bif decide (0<ln l)then(C0 l a).bind λr=>some (!r)else some false)=some (!b):=by
 unfold Fx;rw[QcQ l a hl,Qbi l a hl,Q5];by_cases h:l.length=0
 ·rw[Qf (show(l.length:Int)=0 by omega),Qe (show ¬(0:Int)<(l.length:Int)by omega)]
  exact⟨true,rfl,rfl⟩
 ·rw[Qe (show ¬(l.length:Int)=0 by omega),Qf (show(0:Int)<(l.length:Int)by omega)]
  exact⟨decide (a∈l),rfl,rfl⟩
theorem xw(r:Report)(f:Find)(h1:r.Colours.length≤1048576)(h2:r.Places.length≤1048576):∃w,GC r f=some w∧Gw r f=some w:=by
 obtain⟨p,p1,p2⟩:=ax r h1 h2;obtain⟨q,q1,q2,_⟩:=Mj f;obtain⟨u,u1,u2⟩:=l8 r.Colours f.Thing.Colour h1;obtain⟨v,v1,v2⟩:=l8 r.Places f.Place h2;unfold GC Gw;simp only[p1,p2,q1,q2,u1,u2,v1,v2,Qo,Qq,Qa];cases p<;>try exact⟨_,rfl,rfl⟩
 cases q<;>try exact⟨_,rfl,rfl⟩
 simp only[Qh,Qb];cases decide (r.Kind=f.Thing.Kind)<;>try exact⟨_,rfl,rfl⟩
 cases u<;>try exact⟨_,rfl,rfl⟩
 cases (decide (r.SizeLow≤f.Thing.Size)&&decide (f.Thing.Size≤r.SizeHigh))<;>try exact⟨_,rfl,rfl⟩
 cases v<;>try exact⟨_,rfl,rfl⟩
 cases decide (f.At<r.Span.From)<;>exact⟨_,rfl,rfl⟩
theorem Qen(r:Report)(f:Find)(h1:r.Colours.length≤1048576)(h2:r.Places.length≤1048576):∃b,BS r f=some b∧Fq r f=some b:=by
 obtain⟨w,w1,w2⟩:=xw r f h1 h2;unfold BS Fq;rw[w1,w2];exact⟨_,rfl,rfl⟩
theorem iq(r:Report)(l:List Find)(h1:r.Colours.length≤1048576)(h2:r.Places.length≤1048576)(hl:l.length≤1048576)(hi:∀x∈l,i64 x.Thing.Id) :
  ∃o,Bm r l=some o∧Br r l=some o∧o.length≤1048576∧∀x∈o,i64 x:=by
 obtain⟨b,b1,b2,_⟩:=PD l hl;have hp:∀f,∃b,BS r f=some b∧Fq r f=some b:=λf=>Qen r f h1 h2
 let p:Find→Bool:=λf=>(BS r f).getD false
 have hpI:∀f,BS r f=some (p f):=λf=>by obtain⟨b,e,_⟩:=hp f;show _=some ((BS r f).getD false);rw[e];rfl
 have hpS:∀f,Fq r f=some (p f):=λf=>by obtain⟨b,e,e2⟩:=hp f;show _=some ((BS r f).getD false);rw[e,e2];rfl
 unfold Bm;rw[b2];cases b with
 |false =>
  refine⟨[],rfl,?_,by simp,by simp⟩
  unfold Br;rw[rR (r:=[]) (by
   simp only[Jm,b1,Qa];cases decide ((0:Int)<ln l)<;>rfl)]
  rfl
 |true =>
  have hI:=D2 l p (λf=>f.Thing.Id) (step:=Zi r l (ln l)) (λi o hi' ho=>by
    simp only[Zi,Qy hi',Qs hi',QC hi',QM (show(i:Int)<9223372036854775807 by omega),Vp (show o.length+1≤2000000 by omega) (show 8≤1024 by omega),Qc,Qn,hpI,Qa]
    cases p l[i]<;>rfl)
   (λo=>by simp only[Zi,QP (Qg _),Qb])
  have hS:=D2 l p (λf=>f.Thing.Id) (step:=Jm l r) (λi o hi' ho=>by
    simp only[Jm,Qy hi',Qs hi',QC hi',QM (show(i:Int)<9223372036854775807 by omega),Vp (show o.length+1≤2000000 by omega) (show 8≤1024 by omega),Qc,Qn,b1,hpS,Qa]
    cases p l[i]<;>rfl)
   (λo=>by simp only[Jm,QP (Qg _),Qb,Qa])
  refine⟨(l.filter p).map λf=>f.Thing.Id,?_,?_,?_,?_⟩
  ·simp only[Qa,Qh,Qb,hI]
  ·unfold Br;rw[hS];rfl
  ·rw[List.length_map];exact Nat.le_trans (List.length_filter_le _ _) hl
  ·intro x hx
   obtain⟨f,hf,rfl⟩:=List.mem_map.1 hx;exact hi f (List.mem_filter.1 hf).1
theorem xe(l:List UInt8):∀x∈wds l,x.length≤l.length∧x≠[]:=λx hx=>by
 obtain⟨h1,h2⟩:=List.mem_filter.1 hx;exact⟨(TN 32 l x h1).1,by simpa using h2⟩
theorem jT(l:List UInt8):(wds l).length≤l.length+1:=Nat.le_trans (List.length_filter_le _ _) (Ki 32 l)
theorem mY(a:House)(l:List UInt8)(hl:l.length≤1048576):run (XT l a (spl 32 l) (ln (spl 32 l))) ([],0)=some (wds l):=by
 have hp:=Ki 32 l;have:=D2 (spl 32 l) (λx=>!decide (x=[])) id (step:=XT l a (spl 32 l) (ln (spl 32 l))) (λi o hi ho=>by
   simp only[XT,Qy hi,Qs hi,QC hi,QM (show(i:Int)<9223372036854775807 by omega),bS (show o.length+1≤2000000 by omega),Qc,Qn,id]
   cases decide ((spl 32 l)[i]=[])<;>rfl)
  (λo=>by simp only[XT,QP (Qg _),Qb])
 rw[this,List.map_id];rfl
def P4(a:House)(w:List UInt8)(ws:List (List UInt8)):Option (House×List UInt8) :=
 bif !decide (arT w=(ws.length:Int))then some (a,FD)else bif decide (w=A6)then(strings_Join ws [32]).bind λr4=>(Jt r4).bind λr5=>(bif (!r5.2)then some (a,FD)else(Bm r5.1 a.Finds).bind λr8=>(Xl r8).bind λr9=>some (a,r9))else(ZI (w::ws)).bind λr10=>(bif (!r10.2)then some (a,FD)else SR a w r10.1)
theorem Lm{α:Type}(w:α)(ws:List α):cut (w::ws) 1 (ln (w::ws))=ws:=by
 unfold cut ln;simp
theorem LC{α:Type}(w:α)(ws:List α):slB 1 (ln (w::ws)) (ln (w::ws))=true:=by
 unfold slB ln;simp;omega
theorem n8(a:House)(l:List UInt8)(hm:Qu a)(hl:l.length≤1048576):AK a l=if 200<l.length then some (a,FD)else match wds l with|[]=>some (a,FD)|w::ws=>P4 a w ws:=by
 unfold AK;rw[bf l 32 (by omega),Qa,mY a l hl,Qa]
 by_cases h:200<l.length
 ·rw[if_pos h,Qf (show(200:Int)<ln l by rw[Q5];omega)]
  show(QG a).bind _=_;rw[XD a hm];rfl
 rw[if_neg h,Qe (show ¬(200:Int)<ln l by rw[Q5];omega),Qb]
 cases hw:wds l with
 |nil =>
  show(QG a).bind _=_;rw[XD a hm];rfl
 |cons w ws =>
  have hlen:=jT l;rw[hw]at hlen;simp only[List.length_cons]at hlen;have e1:decide (ln (w::ws)=0)=false:=Qe (by rw[Q5];simp;omega)
  have e2:inb (w::ws) 0=true:=by rw[B3];simp
  have e3:gt (w::ws) 0=w:=rfl;have e4:w64 (ln (w::ws)-1)=(ws.length:Int):=by rw[Q5,List.length_cons,VA (by omega) (by omega)];omega
  simp only[e1,e2,e3,e4,Qb,Qn,Qfe,Qa,LC,Lm,XD a hm];unfold P4 SR;cases decide (arT w=(ws.length:Int))with
  |false=>rfl
  |true =>
   simp only[Qh,Qb,XD a hm,Qa];rfl
theorem dJ(w:List UInt8)(ws:List (List UInt8))(h:¬(w=VK∧ws.length=10)):Jc (w::ws)=some noEv:=by
 unfold Jc;have e2:inb (w::ws) 0=true:=by rw[B3];simp
 rw[e2,show gt (w::ws) 0=w from rfl];by_cases hl:ws.length=10
 ·have hw:¬w=[102,105,110,100]:=λe=>h ⟨e,hl⟩
  rw[Qf (show ln (w::ws)=11 by rw[Q5];simp;omega),Qe hw]
  rfl
 ·rw[Qe (show ¬ln (w::ws)=11 by rw[Q5];simp;omega)]
  rfl
theorem aj(a:House)(l:List UInt8)(hm:Qu a)(hl:l.length≤1048576)(h:200<l.length∨wds l=[]):Vy a l=some (a,FD):=by
 unfold Vy;rw[PV l hl,Qa];have:(decide (ln (wds l)=0)||decide (200<ln l))=true:=by
  rcases h with h|h
  ·rw[Qf (show(200:Int)<ln l by rw[Q5];omega)];simp
  ·rw[h];rfl
 rw[this];show(QU a).bind _=_;rw[X8 a hm];rfl
section
variable{a:House}{l w:List UInt8}{ws:List (List UInt8)}(hm:Qu a)(hl:l.length≤200)(hw:wds l=w::ws)
include hm hl hw
theorem WH(hf:Jc (w::ws)=some noEv)(hn:¬(ws.length=6∧w=A6)):Vy a l=(Zr ws).bind λr9=>bif !r9.2 then some (a,FD)else Nc a w r9.1:=by
 unfold Vy Nc;have e0:(decide (ln (w::ws)=0)||decide (200<ln l))=false:=by
  rw[Qe (show ¬ln (w::ws)=0 by rw[Q5];simp;omega),Qe (show ¬(200:Int)<ln l by rw[Q5];omega)];rfl
 have e2:inb (w::ws) 0=true:=by rw[B3];simp
 have e7:(bif (decide (ln (w::ws)=7))then some (decide (w=[109,97,116,99,104]))else some false)=some false:=by
  by_cases h7:ws.length=6
  ·rw[Qf (show ln (w::ws)=7 by rw[Q5];simp;omega),Qe (show ¬w=[109,97,116,99,104]from λe=>hn ⟨h7,e⟩)];rfl
  ·rw[Qe (show ¬ln (w::ws)=7 by rw[Q5];simp;omega)];rfl
 rw[PV l (by omega),Qa,hw]
 simp only[e0,Qb,hf,Qa,e2,show gt (w::ws) 0=w from rfl,Qn,e7,LC,Lm,show decide (noEv.Kind=0)=true from rfl,Bool.and_true,X8 a hm,Qc];rfl
theorem ie(hf1:w=VK){e:Event}(hf:Jc (w::ws)=some e)(hk:e.Kind=1)(hn:∃q,Zr ws=some q){r:House×Bool}(hr:Z7 a e=some r):Vy a l=some (Re a r):=by
 obtain⟨q,hq⟩:=hn;unfold Vy;have e0:(decide (ln (w::ws)=0)||decide (200<ln l))=false:=by
  rw[Qe (show ¬ln (w::ws)=0 by rw[Q5];simp;omega),Qe (show ¬(200:Int)<ln l by rw[Q5];omega)];rfl
 have e2:inb (w::ws) 0=true:=by rw[B3];simp
 subst hf1;have e7:(bif (decide (ln (VK::ws)=7))then some (decide (VK=[109,97,116,99,104]))else some false)=some false:=by
  cases decide (ln (VK::ws)=7)<;>rfl
 rw[PV l (by omega),Qa,hw]
 simp only[e0,Qb,hf,Qa,e2,show gt (VK::ws) 0=VK from rfl,Qn,e7,LC,Lm,hq,hk,show decide ((1:Int)=0)=false from rfl,Bool.and_false,show decide (VK=[110,101,119])=false from rfl,Bool.false_and,show decide ((0:Int)<1)=true from rfl,Qc,hr];exact NA a hm r
end
theorem Uc(ws:List (List UInt8))(hl:ws.length≤1048576):(ws.all (λx=>(VN x).2)=true∧Zr ws=some (ws.map (λx=>(VN x).1),true))∨(ws.all (λx=>(VN x).2)=false∧∃o,Zr ws=some (o,false)):=by
 unfold Zr
 rcases PB ws (λo=>(o,false)) (step:=BA ws) (λi o hi ho=>by
   simp only[BA,Qy hi,Qs hi,QC hi,QM (show(i:Int)<9223372036854775807 by omega),Vp (show o.length+1≤2000000 by omega) (show 8≤1024 by omega),Qc,Qn,aO,Qa]
   cases (VN ws[i]).2<;>rfl)
  (λo=>by simp only[BA,QP (Qg _),Qb])with⟨h1,h2⟩|⟨h1,o,h2⟩
 ·left
  exact⟨h1,by rw[h2];rfl⟩
 ·right
  exact⟨h1,o,by rw[h2];rfl⟩
theorem tQ(w:List UInt8)(ws:List (List UInt8))(hl:ws.length≤1048576)(hw:w≠VK):ZI (w::ws)=some (if ws.all (λx=>(VN x).2)=true then(ws.map (λx=>(VN x).1),true)else([],false)):=by
 unfold ZI;have hw':decide (w=[102,105,110,100])=false:=Qe hw;have e2:inb (w::ws) 0=true:=by rw[B3];simp
 rw[LC,Lm]
 rcases PB ws (λ_=>(([]:List Int),false)) (step:=V1 (w::ws) ws (ln ws)) (λi o hi ho=>by
   simp only[V1,Qy hi,Qs hi,QC hi,QM (show(i:Int)<9223372036854775807 by omega),Vp (show o.length+1≤2000000 by omega) (show 8≤1024 by omega),Qc,Qb,Qn,Se,Qa,e2,show gt (w::ws) 0=w from rfl,hw',Bool.false_and]
   cases (VN ws[i]).2<;>rfl)
  (λo=>by simp only[V1,QP (Qg _),Qb])with⟨h1,h2⟩|⟨h1,o,h2⟩
 ·rw[h2,if_pos h1];rfl
 ·rw[h2,if_neg (by rw[h1];decide)];rfl
theorem oX(a:House)(w b c d e f g:List UInt8)(hx:∀x∈[b,c,d,e,f,g],x.length≤200):run (J0 a [w,b,c,d,e,f,g]) (b,2)=some (Lib.join [b,c,d,e,f,g] [32]):=by
 have hb:=hx b (by simp)
 have hc:=hx c (by simp)
 have hd:=hx d (by simp)
 have he:=hx e (by simp)
 have hf:=hx f (by simp)
 have hg:=hx g (by simp)
 have st:∀(s:List UInt8) (i:Int) (x:List UInt8),s.length≤2000→x.length≤200→0≤i→i<7→inb [w,b,c,d,e,f,g] i=true→gt [w,b,c,d,e,f,g] i=x→J0 a [w,b,c,d,e,f,g] (s,i)=some (.inl (s++[32]++x,i+1)):=λs i x h1 h2 h3 h4 h5 h6=>by
  simp only[J0,Qf h4,Qc,h5,h6,Qn,BO (x:=s) (y:=[32]) (by omega) (by simp),BO (x:=Qr s [32]) (y:=x) (by rw[Ak];simp;omega) (by omega),VA (n:=i+1) (by omega) (by omega)]
  rfl
 rw[rI (st b 2 c (by omega) hc (by omega) (by omega) rfl rfl),rI (st _ (2+1) d (by simp;omega) hd (by omega) (by omega) rfl rfl),rI (st _ (2+1+1) e (by simp;omega) he (by omega) (by omega) rfl rfl),rI (st _ (2+1+1+1) f (by simp;omega) hf (by omega) (by omega) rfl rfl),rI (st _ (2+1+1+1+1) g (by simp;omega) hg (by omega) (by omega) rfl rfl)]
 rw[rR (r:=b++[32]++c++[32]++d++[32]++e++[32]++f++[32]++g) rfl];simp[Lib.join,Lib.joinTail]
theorem TG{r:Report}(h:okR r):r.Colours.length≤1048576∧r.Places.length≤1048576:=by
 have:=h.1;omega
theorem je(a:House)(l:List UInt8)(ws:List (List UInt8))(hm:Qu a)(hk:Lk a)(hl:l.length≤200)(hw:wds l=A6::ws)(h6:ws.length=6):∃s,P4 a A6 ws=some (a,s)∧Vy a l=some (a,s):=by
 obtain⟨b,c,d,e,f,g,rfl⟩:=un h6;have hx:∀x∈[b,c,d,e,f,g],x.length≤200:=λx hx=>Nat.le_trans (xe l x (by rw[hw];exact List.mem_cons_of_mem _ hx)).1 hl
 have hj:(Lib.join [b,c,d,e,f,g] [32]).length≤1206:=by
  have hb:=hx b (by simp)
  have hc:=hx c (by simp)
  have hd:=hx d (by simp)
  have he:=hx e (by simp)
  have hf:=hx f (by simp)
  have hg:=hx g (by simp)
  simp[Lib.join,Lib.joinTail];omega
 obtain⟨r,r1,r2,r3⟩:=qo _ hj (λr h=>ax r (TG h).1 (TG h).2)
 obtain⟨o,o1,o2,o3,o4⟩:=iq r.1 a.Finds (TG r3).1 (TG r3).2 hm.1 hk.finds;obtain⟨s,s1,s2⟩:=Ib o o3 o4;refine⟨bif !r.2 then FD else s,?_,?_⟩
 ·unfold P4
  rw[show decide (arT A6=(([b,c,d,e,f,g]:List (List UInt8)).length:Int))=true from rfl,show decide (A6=A6)=true from rfl];simp only[Qh,Qb,Qc,RI _ ⟨by simp,hx⟩,Qa,r1,o1,s2]
  cases r.2<;>rfl
 ·unfold Vy
  have e0:(decide (ln (A6::[b,c,d,e,f,g])=0)||decide (200<ln l))=false:=by
   rw[Qe (show ¬(200:Int)<ln l by rw[Q5];omega)];rfl
  rw[PV l (by omega),Qa,hw]
  simp only[e0,Qb,dJ A6 [b,c,d,e,f,g] (by rintro⟨h,_⟩;revert h;decide),Qa,show decide (ln (A6::[b,c,d,e,f,g])=7)=true from rfl,Qc,show inb (A6::[b,c,d,e,f,g]) 0=true from rfl,show inb (A6::[b,c,d,e,f,g]) 1=true from rfl,Qn,
   show decide (gt (A6::[b,c,d,e,f,g]) 0=[109,97,116,99,104])=true from rfl,show gt (A6::[b,c,d,e,f,g]) 1=b from rfl,oX a A6 b c d e f g hx,r2,o2,s1,X8 a hm]
  cases r.2<;>rfl
theorem Qbv{α:Type}{l:List α}(h:l.length=10):∃a b c d e f g i j k,l=[a,b,c,d,e,f,g,i,j,k]:=by
 match l,h with
 |[a,b,c,d,e,f,g,i,j,k],_=>exact⟨a,b,c,d,e,f,g,i,j,k,rfl⟩
theorem sq(b c d e f g h i j k:List UInt8) :
  ZI [VK,b,c,d,e,f,g,h,i,j,k]=some (bif (VN b).2&&(decide (0<kO c)&&[d,e,f,g,h,i,j,k].all λx=>(VN x).2)then((VN b).1::kO c::[d,e,f,g,h,i,j,k].map λx=>(VN x).1,true)else([],false)):=by
 have hn:∀(o:List Int) (q:Nat) (x:List UInt8),o.length≤10→q≠1→q<10→gt [b,c,d,e,f,g,h,i,j,k] (q:Int)=x→inb [b,c,d,e,f,g,h,i,j,k] (q:Int)=true→V1 [VK,b,c,d,e,f,g,h,i,j,k] [b,c,d,e,f,g,h,i,j,k] 10 (o,(q:Int))=(bif (VN x).2 then some (.inl (o++[(VN x).1],((q+1:Nat):Int)))else some (.inr (.ret ([],false)))):=λo q x h1 h2 h3 h4 h5=>by
  simp only[V1,Qf (show(q:Int)<10 by omega),Qc,h5,h4,Qn,Se,Qa,show inb [VK,b,c,d,e,f,g,h,i,j,k] 0=true from rfl,show decide (gt [VK,b,c,d,e,f,g,h,i,j,k] 0=[102,105,110,100])=true from rfl,Qe (show ¬(q:Int)=1 by omega),Bool.and_false,Qb,Vp (show o.length+1≤2000000 by omega) (show 8≤1024 by omega),QM (show(q:Int)<9223372036854775807 by omega)]
  cases (VN x).2<;>rfl
 have h1:∀(o:List Int),o.length≤10→V1 [VK,b,c,d,e,f,g,h,i,j,k] [b,c,d,e,f,g,h,i,j,k] 10 (o,((1:Nat):Int))=(bif decide (0<kO c)then some (.inl (o++[kO c],((2:Nat):Int)))else some (.inr (.ret ([],false)))):=λo ho=>by
  simp only[V1,show decide (((1:Nat):Int)<10)=true from rfl,Qc,show inb [b,c,d,e,f,g,h,i,j,k] ((1:Nat):Int)=true from rfl,show gt [b,c,d,e,f,g,h,i,j,k] ((1:Nat):Int)=c from rfl,Qn,Se,Qa,show inb [VK,b,c,d,e,f,g,h,i,j,k] 0=true from rfl,show decide (gt [VK,b,c,d,e,f,g,h,i,j,k] 0=[102,105,110,100])=true from rfl,show decide (((1:Nat):Int)=1)=true from rfl,Bool.and_true,(Y9 c).1,Vp (show o.length+1≤2000000 by omega) (show 8≤1024 by omega),QM (show((1:Nat):Int)<9223372036854775807 by omega)]
  cases decide (0<kO c)<;>rfl
 have hend:∀o:List Int,V1 [VK,b,c,d,e,f,g,h,i,j,k] [b,c,d,e,f,g,h,i,j,k] 10 (o,((10:Nat):Int))=some (.inr (.brk o)):=λo=>rfl
 unfold ZI;rw[show ln [VK,b,c,d,e,f,g,h,i,j,k]=ln (VK::[b,c,d,e,f,g,h,i,j,k])from rfl,LC VK [b,c,d,e,f,g,h,i,j,k],Lm VK [b,c,d,e,f,g,h,i,j,k],show ln [b,c,d,e,f,g,h,i,j,k]=10 from rfl,show(([]:List Int),(0:Int))=([],((0:Nat):Int))from rfl];simp only[Qn];cases hb:(VN b).2 with
 |false=>rw[rR (by rw[hn [] 0 b (by simp) (by omega) (by omega) rfl rfl,hb];rfl)];rfl
 |true =>
 rw[rI (by rw[hn [] 0 b (by simp) (by omega) (by omega) rfl rfl,hb];rfl)]
 cases hc:decide (0<kO c)with
 |false=>rw[rR (by rw[h1 _ (by simp),hc];rfl)];rfl
 |true =>
 rw[rI (by rw[h1 _ (by simp),hc];rfl)]
 cases hd:(VN d).2 with
 |false=>rw[rR (by rw[hn _ 2 d (by simp) (by omega) (by omega) rfl rfl,hd];rfl)];simp[hd,evO]
 |true =>
 rw[rI (by rw[hn _ 2 d (by simp) (by omega) (by omega) rfl rfl,hd];rfl)]
 cases he:(VN e).2 with
 |false=>rw[rR (by rw[hn _ 3 e (by simp) (by omega) (by omega) rfl rfl,he];rfl)];simp[hd,he,evO]
 |true =>
 rw[rI (by rw[hn _ 3 e (by simp) (by omega) (by omega) rfl rfl,he];rfl)]
 cases hf:(VN f).2 with
 |false=>rw[rR (by rw[hn _ 4 f (by simp) (by omega) (by omega) rfl rfl,hf];rfl)];simp[hd,he,hf,evO]
 |true =>
 rw[rI (by rw[hn _ 4 f (by simp) (by omega) (by omega) rfl rfl,hf];rfl)]
 cases hg:(VN g).2 with
 |false=>rw[rR (by rw[hn _ 5 g (by simp) (by omega) (by omega) rfl rfl,hg];rfl)];simp[hd,he,hf,hg,evO]
 |true =>
 rw[rI (by rw[hn _ 5 g (by simp) (by omega) (by omega) rfl rfl,hg];rfl)]
 cases hh:(VN h).2 with
 |false=>rw[rR (by rw[hn _ 6 h (by simp) (by omega) (by omega) rfl rfl,hh];rfl)];simp[hd,he,hf,hg,hh,evO]
 |true =>
 rw[rI (by rw[hn _ 6 h (by simp) (by omega) (by omega) rfl rfl,hh];rfl)]
 cases hi:(VN i).2 with
 |false=>rw[rR (by rw[hn _ 7 i (by simp) (by omega) (by omega) rfl rfl,hi];rfl)];simp[hd,he,hf,hg,hh,hi,evO]
 |true =>
 rw[rI (by rw[hn _ 7 i (by simp) (by omega) (by omega) rfl rfl,hi];rfl)]
 cases hj:(VN j).2 with
 |false=>rw[rR (by rw[hn _ 8 j (by simp) (by omega) (by omega) rfl rfl,hj];rfl)];simp[hd,he,hf,hg,hh,hi,hj,evO]
 |true =>
 rw[rI (by rw[hn _ 8 j (by simp) (by omega) (by omega) rfl rfl,hj];rfl)]
 cases hk:(VN k).2 with
 |false=>rw[rR (by rw[hn _ 9 k (by simp) (by omega) (by omega) rfl rfl,hk];rfl)];simp[hd,he,hf,hg,hh,hi,hj,hk,evO]
 |true =>
 rw[rI (by rw[hn _ 9 k (by simp) (by omega) (by omega) rfl rfl,hk];rfl),rR (hend _)]
 simp[hd,he,hf,hg,hh,hi,hj,hk,evO]
end Go.Proofs.YtoilkmgiofimjaaGreatDoor
