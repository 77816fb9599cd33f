import Derived.Test.YtfhnbabcbhgffaaGreatDoorPz4
set_option linter.unusedVariables false
set_option linter.unusedSimpArgs false
set_option linter.defProp false
namespace Go.Proofs.YtfhnbabcbhgffaaGreatDoor
open Go
def I2(out:List Bid)(c:Int):Nat→Nat
 |0=>0
 |n+1=>bif decide ((gt out (n:Int)).Qy<c)then I2 out c n else n+1
def cR(out:List Bid)(c:Int):∀n,I2 out c n≤n
 |0=>Qg _
 |n+1=>by
  have:=cR out c n;unfold I2;cases decide ((gt out (n:Int)).Qy<c)<;>simp<;>omega
def Z5(l:List Bid):Nat→List Bid
 |0=>[]
 |i+1=>V5 (Z5 l i) ((I2 (Z5 l i) (gt l (i:Int)).Qy i:Nat):Int) [gt l (i:Int)]
def I3(l:List Bid):∀i,(Z5 l i).length=i
 |0=>rfl
 |i+1=>by
  have h:=I3 l i;unfold Z5;rw[Kb _ _ (by rw[h];exact cR _ _ _),h]
def lQ{i:Nat}(h:(i:Int)<9223372036854775807):QV (((i+1:Nat):Int)-1)=(i:Int):=by rw[Vt]<;>omega
def od(l:List Bid)(hl:l.length≤1048576):IR l=some (Z5 l l.length):=by
 have inner:∀(out:List Bid) (i:Nat) (hi:i<l.length) (ho:out.length≤1048576) (n:Nat),n≤out.length→run (EB l out (i:Int)) (n:Int)=some ((I2 out (gt l (i:Int)).Qy n:Nat):Int):=by
  intro out i hi ho n
  induction n with
  |zero =>
   intro _;rw[QZ];simp only[EB,show decide (0<((0:Nat):Int))=false from rfl,Qb,Qa,I2]
  |succ n ih =>
   intro hn;rw[QZ];simp only[EB,show decide (0<((n+1:Nat):Int))=true from Qf (by omega),Qc,lQ (show(n:Int)<9223372036854775807 by omega),QR (show n<out.length by omega),QR hi,QL,Qa,I2]
   cases decide ((gt out (n:Int)).Qy<(gt l (i:Int)).Qy)with
   |true=>simp only[Qc];exact ih (by omega)
   |false=>rfl
 have hr:=Xe (step:=Cp l) (λi=>(Z5 l i,(i:Int))) (r:=Z5 l l.length) l.length (λi hi=>by
   have hlen:=I3 l i;have hp:=cR (Z5 l i) (gt l (i:Int)).Qy i;have hin:=inner (Z5 l i) i hi (by omega) (Z5 l i).length (Qg _)
   rw[hlen]at hin;have hln:ln (Z5 l i)=((i:Nat):Int):=by rw[Vq,hlen]
   have e1:Cy 0 ((I2 (Z5 l i) (gt l (i:Int)).Qy i:Nat):Int) (i:Int)=true:=LG hp;have e2:Cy ((I2 (Z5 l i) (gt l (i:Int)).Qy i:Nat):Int) (i:Int) (i:Int)=true:=RT hp;have c1:(cut (Z5 l i) 0 ((I2 (Z5 l i) (gt l (i:Int)).Qy i:Nat):Int)).length=I2 (Z5 l i) (gt l (i:Int)).Qy i:=by rw[ZE,List.length_take,hlen];omega
   have c3:(cut (Z5 l i) ((I2 (Z5 l i) (gt l (i:Int)).Qy i:Nat):Int) (i:Int)).length=i-I2 (Z5 l i) (gt l (i:Int)).Qy i:=by rw[←hln,IV,List.length_drop,hlen]
   simp only[Cp,QY hi,Qc,hln,hin,Qa,e1,e2,QL,QR hi,VT (show 0+(cut (Z5 l i) 0 ((I2 (Z5 l i) (gt l (i:Int)).Qy i:Nat):Int)).length≤2000000 by omega) (show 24≤1024 by omega),VT (show(cut (Z5 l i) 0 ((I2 (Z5 l i) (gt l (i:Int)).Qy i:Nat):Int)).length+1≤2000000 by omega) (show 24≤1024 by omega),
    VT (show(cut (Z5 l i) 0 ((I2 (Z5 l i) (gt l (i:Int)).Qy i:Nat):Int)).length+1+(cut (Z5 l i) ((I2 (Z5 l i) (gt l (i:Int)).Qy i:Nat):Int) (i:Int)).length≤2000000 by omega) (show 24≤1024 by omega),Q3 (show(i:Int)<9223372036854775807 by omega)]
   rw[←hln,Rn,hln];rfl)
  (by simp only[Cp,Q6 (Qg _),Qb])
 unfold IR;rw[show run (Cp l) ([],0)=some (Z5 l l.length)from hr];rfl
def tV(x y:Bid):∃c,Cm x y=some c∧decide (c<0)=decide (y.Qy<x.Qy):=by
 unfold Cm F6 FM;simp only[decide_true,Qh,Qa,Qb];by_cases h:y.Qy<x.Qy
 ·rw[Qf h];exact⟨-1,rfl,rfl⟩
 ·rw[Qe h]
  by_cases h':x.Qy<y.Qy
  ·rw[Qf h'];exact⟨1,rfl,rfl⟩
  ·rw[Qe h'];exact⟨0,rfl,rfl⟩
def uF{p q:List Bid}{x:Bid}:gt (p++x::q) (p.length:Int)=x:=by
 rw[Q2 (by simp)];simp
def Qrk(b i:Int)(p q:List Bid)(x:Bid)(hp:p.length≤1048576):∀j,j≤p.length→run (Vj 0 b i) (p.take j++x::(p.drop j++q),(j:Int))=some (V5 p ((I2 p x.Qy j:Nat):Int) [x]++q):=by
 intro j
 induction j with
 |zero =>
  intro _;rw[QZ];simp only[Vj,show decide (0<((0:Nat):Int))=false from rfl,Qb,Qa,I2];simp[V5]
 |succ j ih =>
  intro hj;have hlt:j<p.length:=by omega
  have hl1:(p.take (j+1)).length=j+1:=by rw[List.length_take];omega
  have hs:p.take (j+1)++x::(p.drop (j+1)++q)=p.take j++p[j]::(x::(p.drop (j+1)++q)):=by
   rw[List.take_succ_eq_append_getElem hlt,List.append_assoc];rfl
  have g1:gt (p.take (j+1)++x::(p.drop (j+1)++q)) ((j+1:Nat):Int)=x:=by
   have:=uF (p:=p.take (j+1)) (q:=p.drop (j+1)++q) (x:=x);rw[hl1]at this;exact this
  have hl0:(p.take j).length=j:=by rw[List.length_take];omega
  have g0:gt (p.take (j+1)++x::(p.drop (j+1)++q)) (j:Int)=p[j]:=by
   rw[hs];have:=uF (p:=p.take j) (q:=x::(p.drop (j+1)++q)) (x:=p[j]);rw[hl0]at this;exact this
  have hlen:(p.take (j+1)++x::(p.drop (j+1)++q)).length=p.length+1+q.length:=by simp;omega
  obtain⟨c,c1,c2⟩:=tV x p[j];rw[QZ];simp only[Vj,show decide (0<((j+1:Nat):Int))=true from Qf (by omega),Qc,lQ (show(j:Int)<9223372036854775807 by omega),QR (show j+1<(p.take (j+1)++x::(p.drop (j+1)++q)).length by omega),QR (show j<(p.take (j+1)++x::(p.drop (j+1)++q)).length by omega),QL,g0,g1,c1,Qa,c2,I2,Q2 hlt]
  cases decide (p[j].Qy<x.Qy)with
  |false =>
   simp only[Qb];congr 1;simp[V5]
  |true =>
   simp only[Qc,Int.toNat_natCast];have he:((p.take (j+1)++x::(p.drop (j+1)++q)).set (j+1) p[j]).set j x=p.take j++x::(p.drop j++q):=by
    rw[hs,List.set_append_right _ _ (by omega),List.set_append_right _ _ (by omega),hl0]
    simp only[Nat.add_sub_cancel_left,Nat.sub_self,List.set_cons_succ,List.set_cons_zero];rw[List.drop_eq_getElem_cons hlt];rfl
   rw[he];exact ih (by omega)
def bz(l:List Bid)(hl:l.length≤1048576)(h1:1≤l.length):Q5 l 0 (ln l)=some (Z5 l l.length):=by
 have hr:=Xe (step:=Q8 0 (ln l)) (λi=>(Z5 l (i+1)++l.drop (i+1),((i+1:Nat):Int))) (r:=Z5 l l.length) (l.length-1) (λi hi=>by
   have hlt:i+1<l.length:=by omega
   have hlen:=I3 l (i+1);have hd:l.drop (i+1)=l[i+1]::l.drop (i+1+1):=List.drop_eq_getElem_cons hlt;have hk:=Qrk (ln l) ((i+1:Nat):Int) (Z5 l (i+1)) (l.drop (i+1+1)) l[i+1] (by omega) (i+1) (by omega)
   rw[List.take_of_length_le (by omega),List.drop_of_length_le (show(Z5 l (i+1)).length≤i+1 by omega),List.nil_append]at hk
   simp only[Q8,show decide (((i+1:Nat):Int)<ln l)=true from Qf (by rw[Vq];omega),Qc,hd,hk,Qa,Q3 (show((i+1:Nat):Int)<9223372036854775807 by omega)]
   rw[show Z5 l (i+1+1)=V5 (Z5 l (i+1)) ((I2 (Z5 l (i+1)) (gt l ((i+1:Nat):Int)).Qy (i+1):Nat):Int) [gt l ((i+1:Nat):Int)]from rfl,Q2 hlt])
  (by
   rw[show l.length-1+1=l.length by omega]
   simp only[Q8,show decide (((l.length:Nat):Int)<ln l)=false from Qe (by rw[Vq];omega),Qb,List.drop_length,List.append_nil])
 have h0:Z5 l (0+1)++l.drop (0+1)=l:=by
  cases l with
  |nil=>simp at h1
  |cons x t=>simp[Z5,V5,I2,gt]
 unfold Q5;simp only[h0]at hr;rw[show QV (0+1)=1 from rfl,show run (Q8 0 (ln l)) (l,1)=some (Z5 l l.length)from hr];rfl
def Ws(l:List Bid):Q5 l 20 20=some l:=by
 unfold Q5;rw[QZ];rfl
def jM(l:List Bid)(hl:l.length≤20)(h1:1≤l.length):DO l=some (Z5 l l.length):=by
 have hrm:rm (0+l.length) 24=true:=VT (by omega) (by omega)
 have h7:∀r:List Bid,run (VE r (ln l)) 20=some ():=λr=>by
  rw[QZ];simp only[VE,show decide (20<ln l)=false from Qe (by rw[Vq];omega),Qb,Qa]
 unfold DO Fa V8 Xc;simp only[hrm,QL,Qa];by_cases h20:l.length=20
 ·have hln:ln l=20:=by rw[Vq,h20];rfl
  have hins:=bz l (by omega) h1
  have hr:run (Ve (ln l) 20) (l,0,20)=some (Z5 l l.length,20):=by
   rw[QZ];simp only[Ve,show decide (20≤ln l)=true from Qf (by omega),Qc]
   rw[hln]at hins;rw[hins];simp only[Qa];rw[QZ];simp only[Ve,show decide (QV (20+20)≤ln l)=false from Qe (by rw[show QV (20+20)=40 from rfl,hln];omega),Qb,Qa]
  rw[hr];simp only[Qa];rw[hln,Ws];rw[hln]at h7;simp only[Qa,h7]
 ·have hr:run (Ve (ln l) 20) (l,0,20)=some (l,0):=by
   rw[QZ];simp only[Ve,show decide (20≤ln l)=false from Qe (by rw[Vq];omega),Qb,Qa]
  rw[hr];simp only[Qa,bz l (by omega) h1,h7]
def fw(l:List Entry)(x:Entry)(hl:l.length≤1048576):∃r,Ek l x=some r∧A7 l x=some r∧r.1.length≤1048576:=by
 have hrm:rm (0+l.length) 32=true:=VT (by omega) (by omega)
 have hrm1:rm (l.length+1) 32=true:=VT (by omega) (by omega)
 obtain⟨b,b1,b2,b3⟩:=TQ (l++[x]) (by simp;omega)
 unfold Ek A7 Zc;simp only[hrm,hrm1,QL,Qa,b1,b2];cases b with
 |false=>exact⟨(l,false),rfl,rfl,hl⟩
 |true=>exact⟨_,rfl,rfl,by have:=(b3 rfl).1;show(l++_).length≤_;omega⟩
def sO(x:Bid):∃b,IA x=some b∧((QO x.QA 1 999).bind λr=>(bif !r then some true else(QO x.Qy 1 10000000).bind λr2=>some (!r2)))=some (!b)∧(b=true→1≤x.QA∧1≤x.Qy∧x.Qy≤10000000):=by
 unfold IA QM QO;simp only[Qa];cases h1:(decide (1≤x.QA)&&decide (x.QA≤999))with
 |false=>exact⟨false,rfl,rfl,λh=>by cases h⟩
 |true =>
  cases h2:(decide (1≤x.Qy)&&decide (x.Qy≤10000000))with
  |false=>exact⟨false,rfl,rfl,λh=>by cases h⟩
  |true =>
   simp only[Bool.and_eq_true,decide_eq_true_eq]at h1 h2;exact⟨true,rfl,rfl,λ_=>⟨h1.1,h2.1,h2.2⟩⟩
def Ua(l:List Bid)(i:Nat)(hi:i<l.length)(hl:l.length≤1048576) :
  run (DV l (i:Int)) 0=some (bif (l.take i).any (λy=>decide (y.QA=l[i].QA))then .ret false else .brk ()):=by
 have hlen:(l.take i).length=i:=by simp;omega
 exact LH (l.take i) (λy=>decide (y.QA=l[i].QA)) (r:=false) (step:=DV l (i:Int))
  (λk hk=>by
   rw[hlen]at hk;have hkl:k<l.length:=by omega
   have e:(l.take i)[k]'(by rw[hlen];exact hk)=l[k]:=by simp
   simp only[DV,e,show decide ((k:Int)<(i:Int))=true from Qf (by omega),QR hi,Q2 hi,QR hkl,Q2 hkl,Q3 (show(k:Int)<9223372036854775807 by omega),Qc,QL]
   cases decide (l[k].QA=l[i].QA)<;>rfl)
  (by rw[hlen];simp only[DV,show decide ((i:Int)<(i:Int))=false from Qe (by omega),Qb])
def Uo(p:List Bid)(x:Bid)(hp:p.length≤1048576):V3 p x=some (p.any (λy=>decide (y.QA=x.QA))):=by
 have hi:=JG p (λy=>decide (y.QA=x.QA)) (λi=>(i:Int)) (step:=VG p x (ln p))
  (λi hi=>by
   simp only[VG,G5,QY hi,QR hi,Q2 hi,Q3 (show(i:Int)<9223372036854775807 by omega),Qc,QL,Qa]
   cases decide (p[i].QA=x.QA)<;>rfl)
  (by simp only[VG,Q6 (Qg _),Qb])
 unfold V3 XL;rw[hi];cases hf:p.findIdx? (λy=>decide (y.QA=x.QA))with
 |none =>
  have:p.any (λy=>decide (y.QA=x.QA))=false:=by
   rw[List.any_eq_false];intro y hy;have:=List.findIdx?_eq_none_iff.1 hf y hy;simpa using this
  rw[this];rfl
 |some i =>
  obtain⟨hi',hp'⟩:=CG hf;rw[List.any_eq_true.2 ⟨_,List.getElem_mem hi',hp'⟩];simp only[Qa,Zy,Qf (show(0:Int)≤(i:Int)by omega)]
def yj(l:List Bid)(hl:l.length≤1048576):∃b,RC l=some b∧Ih l=some b∧(b=true→l.length≤20∧∀x∈l,1≤x.QA∧1≤x.Qy∧x.Qy≤10000000):=by
 obtain⟨b,h1,h2,h3⟩:=FT (n:=l.length) (r:=false) (s1:=DT l) (s2:=BQ l l (ln l)) (λi hi _=>by
   obtain⟨b,q1,q2,_⟩:=sO l[i];have hsl:Cy 0 (i:Int) (ln l)=true:=LG (by omega)
   simp only[DT,BQ,QY hi,QR hi,Q2 hi,Q3 (show(i:Int)<9223372036854775807 by omega),Qc,QL,q1,q2,Qa,Ua l i hi hl,ZE,hsl,Uo (l.take i) l[i] (by simp;omega)]
   cases b<;>cases (l.take i).any (λy=>decide (y.QA=l[i].QA))<;>first|exact⟨true,rfl,rfl⟩|exact⟨false,rfl,rfl⟩)
  (by simp only[DT,Q6 (Qg _),Qb]) (by simp only[BQ,Q6 (Qg _),Qb])
 refine⟨b&&decide ((l.length:Int)≤20),(DK _ h1).1,(DK _ h2).2,λhb=>?_⟩
 simp only[Bool.and_eq_true,decide_eq_true_eq]at hb;refine⟨by omega,λx hx=>?_⟩
 obtain⟨i,hi,rfl⟩:=List.getElem_of_mem hx;have hstep:=(h3 hb.1 i hi).1;obtain⟨c,q1,q2,q3⟩:=sO l[i];simp only[DT,QY hi,QR hi,Q2 hi,Qc,QL,q2,Qa]at hstep;cases c with
 |true=>exact q3 rfl
 |false=>simp at hstep
def WF(l:List Bid):∀i,i≤l.length→∀x∈Z5 l i,x∈l
 |0,_,x,hx=>by simp[Z5]at hx
 |i+1,hi,x,hx=>by
  unfold Z5 at hx;simp only[V5,Int.toNat_natCast,List.mem_append,List.mem_singleton]at hx
  rcases hx with h|h|h
  ·exact WF l i (by omega) x (List.mem_of_mem_take h)
  ·subst h;rw[Q2 (show i<l.length by omega)];exact List.getElem_mem _
  ·exact WF l i (by omega) x (List.mem_of_mem_drop h)
def QdN(l:List Bid)(hl:l.length≤1048576):∃r,Ny l=some r∧HA l=some r∧(r=(0,0)∨(1≤r.1∧1≤r.2∧r.2≤10000000)):=by
 obtain⟨b,b1,b2,b3⟩:=yj l hl;unfold Ny HA;rw[b1,b2];simp only[Qa];by_cases h0:ln l=0
 ·rw[Qf h0];exact⟨(0,0),rfl,rfl,.inl rfl⟩
 ·rw[Qe h0]
  have hpos:1≤l.length:=by rw[Vq]at h0;omega
  cases b with
  |false=>exact⟨(0,0),rfl,rfl,.inl rfl⟩
  |true =>
   obtain⟨h20,hall⟩:=b3 rfl;have hlen:=I3 l l.length;have hmem:=WF l l.length (Qg _);have hi0:0<(Z5 l l.length).length:=by omega
   have e0:Q0 (Z5 l l.length) 0=true:=QR hi0;have g0:gt (Z5 l l.length) 0=(Z5 l l.length)[0]:=Q2 hi0;have p0:=hall _ (hmem _ (List.getElem_mem hi0));simp only[Qb,Qh,Qa,od l hl,jM l h20 hpos,e0,QL,g0];by_cases h1:l.length=1
   ·rw[show decide (ln (Z5 l l.length)=1)=true from Qf (by rw[Vq,hlen,h1];rfl)]
    exact⟨_,rfl,rfl,.inr ⟨p0.1,by show(1:Int)≤1;omega,by show(1:Int)≤10000000;omega⟩⟩
   ·have hi1:1<(Z5 l l.length).length:=by omega
    have e1:Q0 (Z5 l l.length) 1=true:=QR hi1;have g1:gt (Z5 l l.length) 1=(Z5 l l.length)[1]:=Q2 hi1;have p1:=hall _ (hmem _ (List.getElem_mem hi1));rw[show decide (ln (Z5 l l.length)=1)=false from Qe (by rw[Vq,hlen];omega),e1,g1]
    exact⟨_,rfl,rfl,.inr ⟨p0.1,p1.2.1,p1.2.2⟩⟩
def gm(c:Int)(h0:0≤c)(h1:c≤10000000):∃a b,a≤c∧HT c [1,9]=some [a,b]∧D3 c [1,9]=some [a,b]:=by
 have t1:(c*1).tdiv 10=c / 10:=by rw[Int.mul_one,Int.tdiv_eq_ediv_of_nonneg h0]
 have t9:(c*9).tdiv 10=c*9 / 10:=Int.tdiv_eq_ediv_of_nonneg (by omega)
 have hb1:=Int.ediv_nonneg h0 (show(0:Int)≤10 by omega)
 have s4:run (DI c [1,9] []) (0,0)=some (.brk 10):=by
  rw[QZ];show run (DI c [1,9] []) (1,1)=_;rw[QZ];show run (DI c [1,9] []) (10,2)=_;rw[QZ];rfl
 have i6:run (ZU c [1,9] [] [1,9] (ln ([1,9]:List Int))) (0,0)=some (.brk 10):=by
  rw[QZ];show run (ZU c [1,9] [] [1,9] (ln ([1,9]:List Int))) (1,1)=_;rw[QZ];show run (ZU c [1,9] [] [1,9] (ln ([1,9]:List Int))) (10,2)=_;rw[QZ];rfl
 have w1:QV ((QV (c*1)).tdiv 10)=c / 10:=by rw[Vt (n:=c*1) (by omega) (by omega),t1,Vt]<;>omega
 have w9:QV ((QV (c*9)).tdiv 10)=c*9 / 10:=by rw[Vt (n:=c*9) (by omega) (by omega),t9,Vt]<;>omega
 have s13:run (AL c [1,9] 10) ([],c,0)=some ([c / 10,c*9 / 10],c-c / 10-c*9 / 10):=by
  rw[QZ];simp only[AL,show decide ((0:Int)<ln ([1,9]:List Int))=true from rfl,show Q0 ([1,9]:List Int) 0=true from rfl,show(!decide ((10:Int)=0))=true from rfl,show gt ([1,9]:List Int) 0=1 from rfl,List.nil_append,w1,Qc,QL,VT (show([]:List Int).length+1≤2000000 by simp) (show 8≤1024 by omega),show Q0 ([c / 10]:List Int) 0=true from rfl,show gt ([c / 10]:List Int) 0=c / 10 from rfl,show QV (0+1)=1 from rfl,Qa]
  rw[QZ];simp only[AL,show decide ((1:Int)<ln ([1,9]:List Int))=true from rfl,show Q0 ([1,9]:List Int) 1=true from rfl,show(!decide ((10:Int)=0))=true from rfl,show gt ([1,9]:List Int) 1=9 from rfl,w9,Qc,QL,VT (show([c / 10]:List Int).length+1≤2000000 by simp) (show 8≤1024 by omega),show([c / 10]++[c*9 / 10]:List Int)=[c / 10,c*9 / 10]from rfl,show Q0 ([c / 10,c*9 / 10]:List Int) 1=true from rfl,show gt ([c / 10,c*9 / 10]:List Int) 1=c*9 / 10 from rfl,show QV (1+1)=2 from rfl,Qa]
  rw[QZ];simp only[AL,show decide ((2:Int)<ln ([1,9]:List Int))=false from rfl,Qb,Qa];rw[Vt (n:=c-c / 10) (by omega) (by omega),Vt (by omega) (by omega)]
 have i16:run (JK c 10 [1,9] (ln ([1,9]:List Int))) ([],c,0)=some ([c / 10,c*9 / 10],c-c / 10-c*9 / 10):=by
  rw[QZ];simp only[JK,show decide ((0:Int)<ln ([1,9]:List Int))=true from rfl,show Q0 ([1,9]:List Int) 0=true from rfl,show(!decide ((10:Int)=0))=true from rfl,show gt ([1,9]:List Int) 0=1 from rfl,List.nil_append,w1,Qc,QL,VT (show([]:List Int).length+1≤2000000 by simp) (show 8≤1024 by omega),show QV (0+1)=1 from rfl,Qa]
  rw[QZ];simp only[JK,show decide ((1:Int)<ln ([1,9]:List Int))=true from rfl,show Q0 ([1,9]:List Int) 1=true from rfl,show(!decide ((10:Int)=0))=true from rfl,show gt ([1,9]:List Int) 1=9 from rfl,w9,Qc,QL,VT (show([c / 10]:List Int).length+1≤2000000 by simp) (show 8≤1024 by omega),show([c / 10]++[c*9 / 10]:List Int)=[c / 10,c*9 / 10]from rfl,show QV (1+1)=2 from rfl,Qa]
  rw[QZ];simp only[JK,show decide ((2:Int)<ln ([1,9]:List Int))=false from rfl,Qb,Qa];rw[Vt (n:=c-c / 10) (by omega) (by omega),Vt (by omega) (by omega)]
 have hin1:(decide (0≤c)&&decide (c≤10000000))=true:=by rw[Qf h0,Qf h1];rfl
 have hleft:c-c / 10-c*9 / 10=0∨c-c / 10-c*9 / 10=1:=by omega
 refine⟨c / 10+(c-c / 10-c*9 / 10),c*9 / 10,by omega,?_,?_⟩
 ·unfold HT QO
  simp only[s4,Zy,Qa,hin1,Qh,Qb,show(decide ((1:Int)≤ln ([1,9]:List Int))&&decide (ln ([1,9]:List Int)≤20))=true from rfl,show decide ((10:Int)=0)=false from rfl,Bool.or_self,s13]
  rcases hleft with h|h
  ·rw[h,QZ]
   simp only[CE,show decide ((0:Int)<0)=false from rfl,Qb,Qa,Int.add_zero]
  ·rw[h,QZ]
   simp only[CE,show decide ((0:Int)<1)=true from rfl,Qc,show Q0 ([c / 10,c*9 / 10]:List Int) 0=true from rfl,QL,show gt ([c / 10,c*9 / 10]:List Int) 0=c / 10 from rfl,Qa,show QV (0+1)=1 from rfl];rw[QZ];simp only[CE,show decide ((1:Int)<1)=false from rfl,Qb,Qa];rw[Vt (by omega) (by omega)];rfl
 ·unfold D3 QM
  simp only[i6,Zy,Qa,hin1,Qh,Qb,show(decide ((1:Int)≤ln ([1,9]:List Int))&&decide (ln ([1,9]:List Int)≤20))=true from rfl,show decide ((10:Int)=0)=false from rfl,i16]
  rcases hleft with h|h
  ·rw[h,QZ]
   simp only[ZH,show decide ((0:Int)<0)=false from rfl,Qb,Qa,Int.add_zero]
  ·rw[h,QZ]
   simp only[ZH,show decide ((0:Int)<1)=true from rfl,Qc,show Q0 ([c / 10,c*9 / 10]:List Int) 0=true from rfl,QL,show gt ([c / 10,c*9 / 10]:List Int) 0=c / 10 from rfl,show(!decide (ln (([c / 10,c*9 / 10]:List Int).set (0:Int).toNat (QV (c / 10+1)))=0))=true from rfl,Qa,show QV (1-1)=0 from rfl];rw[QZ];simp only[ZH,show decide ((0:Int)<0)=false from rfl,Qb,Qa];rw[Vt (by omega) (by omega)];rfl
def sB(p f:Int)(h0:0≤p)(h1:p≤10000000):∃s,Io p f=some s∧Fj p f=some s∧((¬(1≤f∧f≤999)∧s=[⟨0,p⟩])∨(1≤f∧∃a b,a≤p∧s=[⟨f,a⟩,⟨0,b⟩])):=by
 obtain⟨a,b,hab,s1,s2⟩:=gm p h0 h1;unfold Io Fj QO QM;simp only[Qa,Qf h0,Qf h1,Bool.and_self,Qh,Qb,s1,s2,show Q0 ([a,b]:List Int) 0=true from rfl,show Q0 ([a,b]:List Int) 1=true from rfl,QL,show gt ([a,b]:List Int) 0=a from rfl,show gt ([a,b]:List Int) 1=b from rfl];by_cases hf:1≤f∧f≤999
 ·rw[Qf hf.1,Qf hf.2]
  exact⟨_,rfl,rfl,.inr ⟨hf.1,a,b,hab,rfl⟩⟩
 ·rw[show(decide (1≤f)&&decide (f≤999))=false from by rw[Bool.eq_false_iff];simpa using λh=>by omega]
  exact⟨_,rfl,rfl,.inl ⟨hf,rfl⟩⟩
def Qaq(p f:Int)(h0:0≤p)(h1:p≤10000000):∃s,Io p f=some s∧Fj p f=some s∧((¬(1≤f∧f≤999)∧s=[⟨0,p⟩])∨(1≤f∧∃a b,s=[⟨f,a⟩,⟨0,b⟩])):=by
 obtain⟨s,s1,s2,s3⟩:=sB p f h0 h1;refine⟨s,s1,s2,?_⟩
 rcases s3 with h|⟨h,a,b,_,e⟩
 ·exact .inl h
 ·exact .inr ⟨h,a,b,e⟩
def pg(l:List QB)(hl:l.length≤1048576)(h:X9 l=some true):∀i (hi:i<l.length),0≤l[i].Qz∧l[i].Qz≤999:=by
 have hb:∀f:QB,X0 f=some true→0≤f.Qz∧f.Qz≤999:=by
  intro f hf;obtain⟨b,b1,_,_⟩:=RJ f.Qo;unfold X0 QO at hf;rw[b1]at hf;simp only[Qa]at hf;revert hf;cases b<;>cases (decide (1≤f.Place)&&decide (f.Place≤30))<;>cases (decide (0≤f.At)&&decide (f.At≤100000))<;>simp
 intro i hi;obtain⟨b,h1,h2,h3⟩:=FT (n:=l.length) (r:=false) (s1:=VQ l) (s2:=VQ l) (λi hi _=>by
   obtain⟨b,q1,q2,_⟩:=N1 l[i];simp only[VQ,QY hi,QR hi,Q2 hi,Q3 (show(i:Int)<9223372036854775807 by omega),Qc,QL,q1,Qa]
   by_cases h0:0<i
   ·simp only[show decide (0<(i:Int))=true from Qf (by omega),By h0 (by omega),QR (show i-1<l.length by omega),Qc,QL]
    cases b<;>cases decide (l[i].Qo.Id≤(gt l ((i-1:Nat):Int)).Qo.Id)<;>first|exact⟨true,rfl,rfl⟩|exact⟨false,rfl,rfl⟩
   ·simp only[show decide (0<(i:Int))=false from Qe (by omega),Qb]
    cases b<;>first|exact⟨true,rfl,rfl⟩|exact⟨false,rfl,rfl⟩)
  (by simp only[VQ,Q6 (Qg _),Qb]) (by simp only[VQ,Q6 (Qg _),Qb])
 have he:=(DK (n:=l.length) (k:=20) _ h1).1;have hb':b=true:=by
  unfold X9 at h;rw[show(ln l:Int)=(l.length:Int)from rfl]at h;rw[he]at h;simp at h;exact h.1
 have hstep:=(h3 hb' i hi).1;obtain⟨c,q1,q2,q3⟩:=N1 l[i];simp only[VQ,QY hi,QR hi,Q2 hi,Qc,QL,q1,Qa]at hstep;cases c with
 |true=>exact hb _ q1
 |false=>simp at hstep
def pay(h:Ql)(a b c:Int)(hm:QS h):∃r,Ek h.Book ⟨a,b,c,h.Now⟩=some r∧A7 h.Book ⟨a,b,c,h.Now⟩=some r∧r.1.length≤1048576 ∧
  B7 h a b c=some (bif decide (c=0)then(h,true)else(⟨h.No,h.Qt,h.Qn,h.Qs,h.Qv,h.Qq,h.Qw,r.1,h.Now⟩,r.2)):=by
 obtain⟨r,r1,r2,r3⟩:=fw h.Book ⟨a,b,c,h.Now⟩ hm.2.2.2.2.2.2;refine⟨r,r1,r2,r3,?_⟩;unfold B7;rw[r1];cases decide (c=0)<;>rfl
def WW(h x:Ql)(b:Bool)(hm:QS h)(hx:QS x):((Vg h x b).bind λr=>some (r.1,r.2))=some (FE h x b):=by
 rw[GE h x b hm hx];rfl
def t7(h:Ql)(t:Int)(l:List Bid)(hm:QS h)(hl:l.length≤1048576):∃r,FP h t l=some r∧D8 h t l=some r∧QS r.1:=by
 have hm7:=hm;obtain⟨m1,m2,m3,m4,m5,m6,m7⟩:=hm7;obtain⟨w,w1,w2⟩:=Ku h.Qs t m3;obtain⟨⟨who,price⟩,p1,p2,p3⟩:=QdN l hl;unfold FP D8 Dm;simp only[p1,p2,(Jm h.Qt t m1).1,(Jm h.Qt t m1).2,(Zs h hm).1,(Zs h hm).2,JQ h hm,Js h hm,w1,w2,Qa]
 rcases SH h.Qt t with hx|⟨k,hk,hx⟩
 ·rw[hx]
  refine⟨(h,false),rfl,?_,hm⟩;cases ZQ h<;>rfl
 ·rw[hx,Qe (show ¬(k:Int)<0 by omega)]
  rcases p3 with p3|⟨q1,q2,q3⟩
  ·injection p3 with e1 e2
   subst e1 e2;refine⟨(h,false),rfl,?_,hm⟩;cases ZQ h with
   |false=>rfl
   |true =>
    cases Eu h.Qs t with
    |false=>rfl
    |true=>simp only[QR hk,QL];rfl
  ·simp only at q1 q2 q3
   rw[show decide (who=0)=false from Qe (by omega)]
   cases hb:ZQ h with
   |false=>exact⟨(h,false),rfl,rfl,hm⟩
   |true =>
    have ho:=NK h hm hb;obtain⟨f,f1,f2⟩:=iX h.Qt[k] h.Qv h.Now m4;have hfin:=pg h.Qt m1 ho.fS k hk;obtain⟨g,g1,g2,g3,g4,g5,g6,g7⟩:=ee h t 4 who hm;simp only[Qb,Qh,Qa,QR hk,Q2 hk,QL,f1];by_cases hf:f=3
    ·subst hf
     obtain⟨s,s1,s2,s3⟩:=Qaq price h.Qt[k].Qz (by omega) (by omega)
     obtain⟨e,e1,e2,e3,e4⟩:=pay g.1 who 0 price g3;rw[g5,g6]at e1 e2;have hpr:decide (price=0)=false:=Qe (by omega)
     rw[hpr]at e4;have n:=g3;obtain⟨n1,n2,n3,n4,n5,n6,n7⟩:=n;have o1:QS ⟨g.1.No,g.1.Qt,g.1.Qn,g.1.Qs,g.1.Qv,g.1.Qq,g.1.Qw,e.1,g.1.Now⟩:=⟨n1,n2,n3,n4,n5,n6,e3⟩;simp only[decide_true,Qh,Qb,g1,e4,s1,Qa]
     rcases s3 with⟨hno,rfl⟩|⟨hyes,a,b,rfl⟩
     ·have hf0:h.Qt[k].Qz=0:=by omega
      have hspec:(bif decide (ln ([⟨0,price⟩]:List Share)=2)then(none:Option (Ql×Bool))else some (h,false))=some (h,false):=rfl;simp only[show decide (ln ([⟨0,price⟩]:List Share)=2)=false from rfl,Qb,WW h _ _ hm o1];refine⟨FE h ⟨g.1.No,g.1.Qt,g.1.Qn,g.1.Qs,g.1.Qv,g.1.Qq,g.1.Qw,e.1,g.1.Now⟩ (g.2&&e.2),?_,?_,C7 _ _ _ hm o1⟩
      ·cases g.2<;>rfl
      ·cases hi:Eu h.Qs t with
       |false=>rw[g4 hi];rfl
       |true =>
        simp only[Qh,Qb,QR hk,Q2 hk,QL,f2,Qa,decide_true,Qh,g2,e2,s2,show decide (h.Qt[k].Qz=0)=true from Qf hf0];cases e.2<;>simp only[Qc,Qb,Qh,Qa,Ex h _ _ hm o1 (show[g.2,true,true].length≤1048576 by simp),Ex h _ _ hm o1 (show[g.2,false,true].length≤1048576 by simp),List.all_cons,List.all_nil,Bool.and_true,id_eq]
     ·have hf0:decide (h.Qt[k].Qz=0)=false:=Qe (by omega)
      obtain⟨d,d1,d2,d3,d4⟩:=pay ⟨g.1.No,g.1.Qt,g.1.Qn,g.1.Qs,g.1.Qv,g.1.Qq,g.1.Qw,e.1,g.1.Now⟩ 0 h.Qt[k].Qz a o1;simp only[g6]at d1 d2;have o2:QS ⟨g.1.No,g.1.Qt,g.1.Qn,g.1.Qs,g.1.Qv,g.1.Qq,g.1.Qw,d.1,g.1.Now⟩:=⟨n1,n2,n3,n4,n5,n6,d3⟩;simp only[show decide (ln ([⟨h.Qt[k].Qz,a⟩,⟨0,b⟩]:List Share)=2)=true from rfl,Qc,show Q0 ([⟨h.Qt[k].Qz,a⟩,⟨0,b⟩]:List Share) 0=true from rfl,QL,show gt ([⟨h.Qt[k].Qz,a⟩,⟨0,b⟩]:List Share) 0=⟨h.Qt[k].Qz,a⟩from rfl,d4,Qa];refine⟨bif decide (a=0)then FE h ⟨g.1.No,g.1.Qt,g.1.Qn,g.1.Qs,g.1.Qv,g.1.Qq,g.1.Qw,e.1,g.1.Now⟩ (g.2&&e.2)else FE h ⟨g.1.No,g.1.Qt,g.1.Qn,g.1.Qs,g.1.Qv,g.1.Qq,g.1.Qw,d.1,g.1.Now⟩ (g.2&&(e.2&&d.2)),?_,?_,?_⟩
      ·cases decide (a=0)with
       |true=>simp only[Qc,WW h _ _ hm o1];cases g.2<;>cases e.2<;>rfl
       |false=>simp only[Qb,WW h _ _ hm o2];cases g.2<;>cases e.2<;>rfl
      ·cases hi:Eu h.Qs t with
       |false =>
        rw[g4 hi];simp only[Qi,Bool.false_and,Kf];cases decide (a=0)<;>rfl
       |true =>
        simp only[Qh,Qb,QR hk,Q2 hk,QL,f2,Qa,decide_true,Qh,g2,e2,s2,hf0,Qi,show Q0 ([⟨h.Qt[k].Qz,a⟩,⟨0,b⟩]:List Share) 0=true from rfl,show gt ([⟨h.Qt[k].Qz,a⟩,⟨0,b⟩]:List Share) 0=⟨h.Qt[k].Qz,a⟩from rfl,Qc];cases he:e.2 with
        |false =>
         simp only[Qb,Qa,Ex h _ _ hm o1 (show[g.2,false,true].length≤1048576 by simp),List.all_cons,List.all_nil,Bool.and_true,id_eq,Bool.false_and,Bool.and_false,Kf]
         cases decide (a=0)<;>rfl
        |true =>
         cases ha:decide (a=0)with
         |true=>simp only[Qc,Qb,Qh,Qa,Ex h _ _ hm o1 (show[g.2,true,true].length≤1048576 by simp),List.all_cons,List.all_nil,Bool.and_true,id_eq]
         |false=>simp only[Qc,Qb,Qi,Qa,d2,Ex h _ _ hm o2 (show[g.2,true,d.2].length≤1048576 by simp),List.all_cons,List.all_nil,Bool.and_true,Bool.true_and,id_eq]
      ·cases decide (a=0)with
       |true=>exact C7 _ _ _ hm o1
       |false=>exact C7 _ _ _ hm o2
    ·simp only[Qe hf,Qi,Qc]
     refine⟨(h,false),rfl,?_,hm⟩;cases Eu h.Qs t with
     |false=>rfl
     |true=>simp only[Qh,Qb,QR hk,Q2 hk,QL,f2,Qa,Qe hf,Qi,Qc]
def iE(l:List QB)(id:Int):XY l id=-1∨∃k:Nat,∃hk:k<l.length,XY l id=(k:Int)∧l[k].Qo.Id=id:=by
 unfold XY;cases hf:l.findIdx? (λx=>decide (x.Qo.Id=id))with
 |none=>exact .inl rfl
 |some i =>
  obtain⟨hi,hp⟩:=CG hf;exact .inr ⟨i,hi,rfl,by simpa using hp⟩
def yY(l:List QB)(f:QB)(hl:l.length≤1048576):∃r,FB l f=some r∧GG l f=some r∧r.1.length≤1048576:=by
 obtain⟨k,hk,hr⟩:=mr (n:=l.length) (λi=>decide ((gt l (i:Int)).Qo.Id<f.Qo.Id)) (step:=B3 l f)
  (λi hi=>by
   simp only[B3,QY hi,QR hi,Q3 (show(i:Int)<9223372036854775807 by omega),Qc,QL,Qa]
   cases decide ((gt l (i:Int)).Qo.Id<f.Qo.Id)<;>rfl)
  (by simp only[B3,Q6 (Qg _),Qb];rfl)
 have hr2:run (F7 l f l) 0=some (k:Int):=hr;have hlen:=Kb l k hk f;obtain⟨b,b1,b2,b3⟩:=bh (V5 l (k:Int) [f]) (by omega)
 have hrm:rm (0+l.length) 64=true:=VT (by omega) (by omega)
 have hrm1:rm (0+(cut l 0 (k:Int)).length) 64=true:=VT (by rw[ZE,List.length_take];omega) (by omega)
 have hrm2:rm ((cut l 0 (k:Int)).length+1) 64=true:=VT (by rw[ZE,List.length_take];omega) (by omega)
 have hrm3:rm ((cut l 0 (k:Int)).length+1+(cut l (k:Int) (ln l)).length) 64=true:=VT (by rw[ZE,IV,List.length_take,List.length_drop];omega) (by omega)
 have hs:FB l f=some (bif b then(V5 l (k:Int) [f],true)else(l,false)):=by
  unfold FB;simp only[hr,Vq,LG hk,RT hk,Qa,QL];rw[←Vq];simp only[hrm1,hrm2,hrm3,hrm,Rn,b1,QL,Qa];cases b<;>rfl
 refine⟨_,hs,?_,?_⟩
 ·unfold GG Zx
  simp only[hrm,QL,Qa,(Jm l f.Qo.Id hl).2,hr2,UZ l k hk f 64 hl (by omega),b2]
  rcases iE l f.Qo.Id with h|⟨j,hj,h,hid⟩
  ·rw[h];cases b<;>rfl
  ·rw[h,Qf (show(0:Int)≤(j:Int)by omega)]
   cases b with
   |false=>rfl
   |true=>exact absurd (dF (λx:QB=>x.Qo.Id) l k hk f (b3 rfl).2.2 j hj hid) id
 ·cases b with
  |false=>exact hl
  |true=>have:=(b3 rfl).1;show(V5 l (k:Int) [f]).length≤_;omega
def qu(l:List Qm)(t:Int)(hl:l.length≤1048576):Bc l t=some (-1)∨∃k:Nat,∃hk:k<l.length,Bc l t=some (k:Int)∧l[k].Qo=t:=by
 have hi:=JG l (λx=>decide (x.Qo=t)) (λi=>(i:Int)) (step:=Q7 l t (ln l))
  (λi hi=>by
   simp only[Q7,DW,Qa,QY hi,QR hi,Q2 hi,Q3 (show(i:Int)<9223372036854775807 by omega),Qc,QL]
   cases decide (l[i].Qo=t)<;>rfl)
  (by simp only[Q7,Q6 (Qg _),Qb])
 unfold Bc VV;rw[hi];cases hf:l.findIdx? (λx=>decide (x.Qo=t))with
 |none=>exact .inl rfl
 |some i =>
  obtain⟨hi',hp⟩:=CG hf;exact .inr ⟨i,hi',rfl,by simpa using hp⟩
def uM{α:Type}{sm:α→Prop}{l:List α}(h:tw sm l)(k:Nat):tw sm (l.take k):=⟨by have:=h.1;rw[List.length_take];omega,λx hx=>h.2 x (List.mem_of_mem_take hx)⟩
def uu{α:Type}{sm:α→Prop}{l:List α}(h:tw sm l)(k:Nat):tw sm (l.drop k):=⟨by have:=h.1;rw[List.length_drop];omega,λx hx=>h.2 x (List.mem_of_mem_drop hx)⟩
def nN(l:List Qm)(x:Qm)(hm:tw Gw l)(hx:x.Marks.length≤1048576):∃r,CX l x=some r∧EW l x=some r∧tw Gw r.1:=by
 have hl:=hm.1;obtain⟨k,hk,hr⟩:=mr (n:=l.length) (λi=>decide ((gt l (i:Int)).Qo<x.Qo)) (step:=Au l x)
  (λi hi=>by
   simp only[Au,QY hi,QR hi,Q3 (show(i:Int)<9223372036854775807 by omega),Qc,QL,Qa]
   cases decide ((gt l (i:Int)).Qo<x.Qo)<;>rfl)
  (by simp only[Au,Q6 (Qg _),Qb];rfl)
 have hr2:run (Ey l x l) 0=some (k:Int):=hr;have hlen:=Kb l k hk x;have hmem:∀y∈V5 l (k:Int) [x],Gw y:=by
  intro y hy;simp only[V5,Int.toNat_natCast,List.singleton_append,List.mem_append,List.mem_cons]at hy
  rcases hy with h|h|h
  ·exact hm.2 y (List.mem_of_mem_take h)
  ·subst h;exact hx
  ·exact hm.2 y (List.mem_of_mem_drop h)
 obtain⟨b,b1,b2,b3⟩:=TY (V5 l (k:Int) [x]) (by omega) hmem
 have hrm1:rm ((cut l 0 (k:Int)).length+[x].length) 40=true:=VT (by rw[ZE,List.length_take];simp;omega) (by omega)
 have hrm3:rm ((cut l 0 (k:Int)).length+[x].length+(cut l (k:Int) (ln l)).length) 40=true:=VT (by rw[ZE,IV,List.length_take,List.length_drop];simp;omega) (by omega)
 have c1:J9 (cut l 0 (k:Int))=some (cut l 0 (k:Int)):=by rw[ZE];exact Ry _ (uM hm k)
 have c2:J9 (cut l (k:Int) (ln l))=some (cut l (k:Int) (ln l)):=by rw[IV];exact Ry _ (uu hm k)
 have c3:J9 [x]=some [x]:=Ry _ ⟨by simp,λy hy=>by simp at hy;subst hy;exact hx⟩
 have hs:CX l x=some (bif b then(V5 l (k:Int) [x],true)else(l,false)):=by
  unfold CX;simp only[hr,Qa];rw[show Cy 0 (k:Int) (ln l)=true from LG hk,show Cy (k:Int) (ln l) (ln l)=true from RT hk];simp only[QL,c1,c2,c3,hrm1,hrm3,Rn,b1,Ry l hm,Qa];cases b<;>rfl
 refine⟨_,hs,?_,?_⟩
 ·unfold EW JO
  simp only[Ru l hm,Qa,hr2,VT (show 0+x.Marks.length≤2000000 by omega) (show 16≤1024 by omega),QL,show(⟨x.Qo,x.Marks,x.Salt⟩:Qm)=x from rfl,UZ l k hk x 40 hl (by omega),b2]
  rcases qu l x.Qo hl with h|⟨j,hj,h,hid⟩
  ·rw[h];cases b<;>rfl
  ·rw[h]
   simp only[Qa,Qf (show(0:Int)≤(j:Int)by omega)]
   cases b with
   |false=>rfl
   |true=>exact absurd (dF (λx:Qm=>x.Qo) l k hk x (b3 rfl).2 j hj hid) id
 ·cases b with
  |false=>exact hm
  |true=>exact⟨by have:=(b3 rfl).1;show(V5 l (k:Int) [x]).length≤_;omega,hmem⟩
def pP(l:List Qr)(x:Qo)(hl:l.length≤1048576):∃r,Fs l x=some r∧Fm l x=some r∧r.1.length=l.length∧(r.2=true→1≤x.Id∧∃y∈r.1,y.Qo=x.Id):=by
 obtain⟨c,c1,c2,c3⟩:=SN l hl;obtain⟨t,t1,t2,t3⟩:=RJ x;have hrm:rm (0+l.length) 24=true:=VT (by omega) (by omega)
 obtain⟨v,hv,hq⟩:=N2 (n:=l.length) (step:=V6 l x.Size) (fin:=λv=>v) (λi v=>v=-1∨∃j:Nat,j<i∧j<l.length∧v=(j:Int))
  (λi v hi hv=>by
   have hw:=Q3 (show(i:Int)<9223372036854775807 by omega)
   have hcase:V6 l x.Size (v,(i:Int))=some (.inl ((i:Int),((i+1:Nat):Int)))∨V6 l x.Size (v,(i:Int))=some (.inl (v,((i+1:Nat):Int))):=by
    rcases hv with rfl|⟨j,hj,hjl,rfl⟩
    ·simp only[V6,QY hi,QR hi,Q2 hi,hw,Qc,QL,show decide ((-1:Int)<0)=true from rfl]
     cases decide (l[i].Qo=0)<;>cases decide (x.Size≤l[i].Size)<;>first|exact .inl rfl|exact .inr rfl
    ·simp only[V6,QY hi,QR hi,Q2 hi,QR hjl,Q2 hjl,hw,Qc,Qb,QL,Qe (show ¬(j:Int)<0 by omega)]
     cases decide (l[i].Qo=0)<;>cases decide (x.Size≤l[i].Size)<;>cases decide (l[i].Size<l[j].Size)<;>first|exact .inl rfl|exact .inr rfl
   rcases hcase with h|h
   ·exact⟨_,h,.inr ⟨i,by omega,hi,rfl⟩⟩
   ·refine⟨_,h,?_⟩
    rcases hv with h'|⟨j,hj,hjl,h'⟩
    ·exact .inl h'
    ·exact .inr ⟨j,by omega,hjl,h'⟩)
  (λv _=>by simp only[V6,Q6 (Qg _),Qb]) (-1) (.inl rfl)
 have hf:G1 l x.Size=some v:=by
  unfold G1;rw[show DX l x.Size l (ln l)=V6 l x.Size from by funext ⟨k,i⟩;simp only[DX,V6];cases decide (i<ln l)<;>cases Q0 l i<;>rfl,hv];rfl
 have hsf:Cb l x.Size=some (bif decide (v<0)then 0 else(gt l v).Id):=by
  unfold Cb;rw[hv]
  rcases hq with rfl|⟨j,_,hjl,rfl⟩
  ·rfl
  ·simp only[Qa,Qe (show ¬(j:Int)<0 by omega),Qb,QR hjl,QL]
 unfold Fs Fm XX;simp only[hrm,QL,c1,c2,t1,t2,hf,hsf,U1 l x.Id hl,La l x.Id hl,Qa];cases c with
 |false=>exact⟨(l,false),rfl,rfl,rfl,λh=>by cases h⟩
 |true =>
  obtain⟨s1,s2,s3⟩:=c3 rfl;cases t with
  |false=>exact⟨(l,false),rfl,rfl,rfl,λh=>by cases h⟩
  |true =>
   rcases hq with rfl|⟨k,_,hk,rfl⟩
   ·exact⟨(l,false),rfl,rfl,rfl,λh=>by cases h⟩
   ·have hid:1≤l[k].Id:=s2 _ (List.getElem_mem hk)
    have hsame:(!decide ((bif decide (x.Id=0)||decide (C8 l x.Id<0)then(0:Int)else(gt l (C8 l x.Id)).Id)=0))=decide (0≤(bif decide (x.Id=0)then(-1:Int)else C8 l x.Id)):=by
     cases decide (x.Id=0)with
     |true=>rfl
     |false =>
      rcases Hf l x.Id with⟨_,h2⟩|⟨j,hj,h2,_,_⟩
      ·rw[h2];rfl
      ·rw[h2]
       have:=s2 _ (List.getElem_mem hj);simp only[Bool.false_or,Qe (show ¬(j:Int)<0 by omega),Qb,Q2 hj,Qe (show ¬l[j].Id=0 by omega),Qf (show(0:Int)≤(j:Int)by omega)];rfl
    simp only[Qh,Qb,Qe (show ¬(k:Int)<0 by omega),Q2 hk,QR hk,QL,Qe (show ¬l[k].Id=0 by omega),Int.toNat_natCast,Qa,hsame]
    cases decide (0≤(bif decide (x.Id=0)then(-1:Int)else C8 l x.Id))with
    |true=>exact⟨(l,false),rfl,rfl,rfl,λh=>by cases h⟩
    |false =>
     have hr:=Xe (step:=J7 x l[k].Id) (λi=>(if i≤k then l else l.set k ⟨l[k].Id,l[k].Size,x.Id⟩,(i:Int))) (r:=l.set k ⟨l[k].Id,l[k].Size,x.Id⟩) l.length (λi hi=>by
       have hw:=Q3 (show(i:Int)<9223372036854775807 by omega)
       by_cases hik:i<k
       ·have hne:¬l[i].Id=l[k].Id:=λe=>by have:=Lu l s3 i k hi hk e;omega
        simp only[J7,if_pos (show i≤k by omega),if_pos (show i+1≤k by omega),QY hi,QR hi,Q2 hi,hw,Qe hne,Qc,Qb,QL]
       ·by_cases hek:i=k
        ·subst hek
         simp only[J7,if_pos (Qg i),if_neg (show ¬i+1≤i by omega),QY hi,QR hi,Q2 hi,hw,decide_true,Qc,QL,Int.toNat_natCast]
        ·have hne:¬l[i].Id=l[k].Id:=λe=>by have:=Lu l s3 i k hi hk e;omega
         have hi':i<(l.set k ⟨l[k].Id,l[k].Size,x.Id⟩).length:=by rw[List.length_set];exact hi
         have hg:gt (l.set k ⟨l[k].Id,l[k].Size,x.Id⟩) (i:Int)=l[i]:=by rw[cL l k _ i hi,if_neg hek,Q2 hi]
         simp only[J7,if_neg (show ¬i≤k by omega),if_neg (show ¬i+1≤k by omega),QY hi',QR hi',hg,hw,Qe hne,Qc,Qb,QL])
      (by
       simp only[J7,if_neg (show ¬l.length≤k by omega)]
       rw[show decide ((l.length:Int)<ln (l.set k ⟨l[k].Id,l[k].Size,x.Id⟩))=false from Qe (by rw[Vq,List.length_set];omega)]
       rfl)
     simp only[Qb,show run (J7 x l[k].Id) (l,0)=some (l.set k ⟨l[k].Id,l[k].Size,x.Id⟩)from hr,Qa];exact⟨_,rfl,rfl,List.length_set,λ_=>⟨t3 rfl,_,List.mem_iff_getElem.2 ⟨k,by simpa using hk,List.getElem_set_self (by simpa using hk)⟩,rfl⟩⟩
def zc(l:List Qr)(x:Qo)(hl:l.length≤1048576):∃r,Fs l x=some r∧Fm l x=some r∧r.1.length=l.length:=by
 obtain⟨r,r1,r2,r3,_⟩:=pP l x hl;exact⟨r,r1,r2,r3⟩
def fN(h:Ql)(f:QB)(m:List Mark)(s:Int)(hm:QS h)(hk:m.length≤1048576):∃r,A5 h f m s=some r∧Ej h f m s=some r∧QS r.1:=by
 have hm7:=hm;obtain⟨m1,m2,m3,m4,m5,m6,m7⟩:=hm7;obtain⟨a,a1,a2,a3⟩:=yY h.Qt f m1;obtain⟨b,b1,b2,b3⟩:=nN h.Qn ⟨f.Qo.Id,m,s⟩ m2 hk;obtain⟨c,c1,c2,c3⟩:=zc h.Qs f.Qo m3;obtain⟨d,d1,d2,d3⟩:=lj h.Qw ⟨f.Qo.Id,2,h.No,h.Now,0⟩ m6;have w:QS ⟨h.No,a.1,b.1,c.1,h.Qv,h.Qq,d.1,h.Book,h.Now⟩:=⟨a3,b3,by show c.1.length≤_;omega,m4,m5,d3,m7⟩
 refine⟨FE h ⟨h.No,a.1,b.1,c.1,h.Qv,h.Qq,d.1,h.Book,h.Now⟩ (a.2&&(b.2&&(c.2&&d.2))),?_,?_,C7 _ _ _ hm w⟩
 ·unfold A5
  simp only[JQ h hm,a1,b1,c1,d1,GE h _ _ hm w,Qa];cases a.2<;>cases b.2<;>cases c.2<;>rfl
 ·unfold Ej
  simp only[Js h hm,a2,b2,c2,d2,Ex h _ _ hm w (show[a.2,b.2,c.2,d.2].length≤1048576 by simp),Qa,List.all_cons,List.all_nil,Bool.and_true,id_eq]
def NM(l:List Qu)(hl:l.length≤2097152)(h:VM l=some true):∀i (hi:i<l.length) (h0:0<i),(l[i-1]'(by omega)).Id<l[i].Id:=by
 intro i hi h0;have ho:=(LQ l h hl).2 i hi;unfold Hq at ho;simp only[Bool.and_eq_true,Bool.or_eq_true,Q2 hi,Q2 (show i-1<l.length by omega)]at ho
 have:=ho.2.2.2.2.2.1;simp at this;omega
def rr{α:Type}[Inhabited α](key:α→Int)(l:List α)(k:Nat)(hk:k≤l.length)(x:α)(up:∀i (hi:i<(V5 l (k:Int) [x]).length) (h0:0<i),key ((V5 l (k:Int) [x])[i-1]'(by omega))<key (V5 l (k:Int) [x])[i])(j:Nat)(hj:j<l.length):if j<k then key l[j]<key x else key x<key l[j]:=by
 have hlen:=Kb l k hk x;have hu:=mO (n:=(V5 l (k:Int) [x]).length) (λi=>key (gt (V5 l (k:Int) [x]) (i:Int))) (λi h1 h2=>by
  show key (gt (V5 l (k:Int) [x]) ((i-1:Nat):Int))<key (gt (V5 l (k:Int) [x]) (i:Int));rw[Q2 h1,Q2 (show i-1<(V5 l (k:Int) [x]).length by omega)];exact up i h1 h2)
 have g1:gt (V5 l (k:Int) [x]) (k:Int)=x:=by
  have hlt:k<(V5 l (k:Int) [x]).length:=by omega
  rw[Q2 hlt];have:=iC l k hk x;rw[List.getElem?_eq_getElem hlt]at this;exact Option.some.inj this
 have hidx:(if j<k then j else j+1)<(V5 l (k:Int) [x]).length:=by split<;>omega
 have g2:gt (V5 l (k:Int) [x]) ((if j<k then j else j+1:Nat):Int)=l[j]:=by
  rw[Q2 hidx];have:=ki l k hk x j hj;rw[List.getElem?_eq_getElem hidx]at this;exact Option.some.inj this
 by_cases h:j<k
 ·have:=hu k (if j<k then j else j+1) (by rw[if_pos h];exact h) (by omega)
  simp only[g1,g2]at this;rw[if_pos h];exact this
 ·have:=hu (if j<k then j else j+1) k (by rw[if_neg h];omega) hidx
  simp only[g1,g2]at this;rw[if_neg h];exact this
def xF{α:Type}[Inhabited α](key:α→Int)(l:List α)(k1 k2:Nat)(h1:k1≤l.length)(h2:k2≤l.length)(x:α)
  (a1:∀j (hj:j<l.length),k1≤j→¬key l[j]<key x) (a2:∀(h:0<k1),key (l[k1-1]'(by omega))<key x)
  (b1:∀j (hj:j<l.length),j<k2→key l[j]<key x) (b2:∀(h:k2<l.length),¬key l[k2]<key x)
  (up:(∀i (hi:i<(V5 l (k1:Int) [x]).length) (h0:0<i),key ((V5 l (k1:Int) [x])[i-1]'(by omega))<key (V5 l (k1:Int) [x])[i])∨(∀i (hi:i<(V5 l (k2:Int) [x]).length) (h0:0<i),key ((V5 l (k2:Int) [x])[i-1]'(by omega))<key (V5 l (k2:Int) [x])[i])):k1=k2:=by
 rcases up with up|up
 ·have hj:=rr key l k1 h1 x up
  by_cases h:k1<k2
  ·exact absurd (b1 k1 (by omega) h) (a1 k1 (by omega) (Qg _))
  ·by_cases h':k2<k1
   ·have:=hj k2 (by omega)
    rw[if_pos h']at this;exact absurd this (b2 (by omega))
   ·omega
 ·have hj:=rr key l k2 h2 x up
  by_cases h:k1<k2
  ·exact absurd (b1 k1 (by omega) h) (a1 k1 (by omega) (Qg _))
  ·by_cases h':k2<k1
   ·have h3:=hj (k1-1) (by omega)
    rw[if_neg (by omega)]at h3
    have h4:=a2 (by omega)
    omega
   ·omega
def bU{n:Nat}(p:Nat→Bool){step:Int→Option (Int⊕Int)}(h1:∀i,i<n→step (i:Int)=some (bif p i then .inl ((i+1:Nat):Int)else .inr (i:Int)))(h2:step (n:Int)=some (.inr (n:Int))):∃k:Nat,k≤n∧run step 0=some (k:Int)∧(∀j,j<k→p j=true)∧(k<n→p k=false):=by
 have key:∀(m i:Nat),i+m=n→(∀j,j<i→p j=true)→∃k:Nat,k≤n∧run step (i:Int)=some (k:Int)∧(∀j,j<k→p j=true)∧(k<n→p k=false):=by
  intro m
  induction m with
  |zero =>
   intro i hi hp;have:i=n:=by omega
   subst this;exact⟨i,Qg _,by rw[QZ,h2];rfl,hp,λh=>by omega⟩
  |succ m ih =>
   intro i hi hp';cases hp:p i with
   |false=>exact⟨i,by omega,by rw[QZ,h1 i (by omega),hp];rfl,hp',λ_=>hp⟩
   |true =>
    obtain⟨k,k1,k2,k3⟩:=ih (i+1) (by omega) (λj hj=>by
     by_cases hji:j=i
     ·subst hji;exact hp
     ·exact hp' j (by omega))
    exact⟨k,k1,by rw[QZ,h1 i (by omega),hp];exact k2,k3⟩
 exact key n 0 (by omega) (λj hj=>by omega)
def FI(l:List Qu)(id:Int):Nat→Nat
 |0=>0
 |n+1=>bif decide ((gt l (n:Int)).Id<id)then n+1 else FI l id n
def bL(l:List Qu)(id:Int):∀n,FI l id n≤n
 |0=>Qg _
 |n+1=>by
  have:=bL l id n;unfold FI;cases decide ((gt l (n:Int)).Id<id)<;>simp<;>omega
def bn(l:List Qu)(id:Int):∀n j,FI l id n≤j→j<n→¬(gt l (j:Int)).Id<id
 |0,j,_,h=>by omega
 |n+1,j,h1,h2=>by
  unfold FI at h1;cases hd:decide ((gt l (n:Int)).Id<id)with
  |true=>rw[hd]at h1;simp at h1;omega
  |false =>
   rw[hd]at h1;by_cases hj:j=n
   ·subst hj;exact of_decide_eq_false hd
   ·exact bn l id n j h1 (by omega)
def bi(l:List Qu)(id:Int):∀n,0<FI l id n→(gt l ((FI l id n-1:Nat):Int)).Id<id
 |0,h=>by simp[FI]at h
 |n+1,h=>by
  unfold FI at h ⊢;cases hd:decide ((gt l (n:Int)).Id<id)with
  |true=>simp only[Qc,Nat.add_sub_cancel];exact of_decide_eq_true hd
  |false=>rw[hd]at h;exact bi l id n h
def tn(l:List Qu)(x:Qu)(hl:l.length≤1048576):∃r,Ea l x=some r∧FS l x=some r∧r.1.length≤1048576 ∧
  (r.2=true→∃k:Nat,k≤l.length∧r.1=V5 l (k:Int) [x]∧BE r.1 x.Id=(k:Int)∧(∀j (hj:j<l.length),j<k→l[j].Id<x.Id)∧(∀j (hj:j<l.length),k≤j→¬l[j].Id<x.Id)):=by
 have hs:=Xe (step:=Z2 l x) (λi=>(((FI l x.Id i:Nat):Int),(!decide (x.State=0))||(l.take i).any (λy=>decide (y.QA=x.QA)&&decide (y.Qo=x.Qo)),(i:Int)))
  (r:=(((FI l x.Id l.length:Nat):Int),(!decide (x.State=0))||l.any (λy=>decide (y.QA=x.QA)&&decide (y.Qo=x.Qo)))) l.length (λi hi=>by
   have hw:=Q3 (show(i:Int)<9223372036854775807 by omega)
   have hany:(l.take (i+1)).any (λy=>decide (y.QA=x.QA)&&decide (y.Qo=x.Qo))=((l.take i).any (λy=>decide (y.QA=x.QA)&&decide (y.Qo=x.Qo))||(decide (l[i].QA=x.QA)&&decide (l[i].Qo=x.Qo))):=by
    rw[List.take_succ_eq_append_getElem hi,List.any_append];simp
   have ha:FI l x.Id (i+1)=bif decide (l[i].Id<x.Id)then i+1 else FI l x.Id i:=by
    rw[FI,Q2 hi]
   simp only[Z2,QY hi,QR hi,Q2 hi,hw,Qc,QL,hany,ha];generalize (l.take i).any (λy=>decide (y.QA=x.QA)&&decide (y.Qo=x.Qo))=q
   cases decide (x.State=0)<;>cases q<;>cases (decide (l[i].QA=x.QA)&&decide (l[i].Qo=x.Qo))<;>cases decide (l[i].Id<x.Id)<;>rfl)
  (by simp only[Z2,Q6 (Qg _),Qb,List.take_length])
 have hs':run (Z2 l x) (0,(!decide (x.State=0)),0)=some (((FI l x.Id l.length:Nat):Int),(!decide (x.State=0))||l.any (λy=>decide (y.QA=x.QA)&&decide (y.Qo=x.Qo))):=by
  have:((!decide (x.State=0))||(l.take 0).any (λy=>decide (y.QA=x.QA)&&decide (y.Qo=x.Qo)))=!decide (x.State=0):=by simp
  rw[this]at hs;exact hs
 have hk1:=bL l x.Id l.length;have hhi:=bn l x.Id l.length;have hlo:=bi l x.Id l.length;generalize FI l x.Id l.length=k1 at hs' hk1 hhi hlo;obtain⟨k2,hk2,hr,hf1,hf2⟩:=bU (n:=l.length) (λi=>decide ((gt l (i:Int)).Id<x.Id)) (step:=Bi l x l)
  (λi hi=>by
   simp only[Bi,QY hi,QR hi,Q3 (show(i:Int)<9223372036854775807 by omega),Qc,QL,Qa]
   cases decide ((gt l (i:Int)).Id<x.Id)<;>rfl)
  (by simp only[Bi,Q6 (Qg _),Qb];rfl)
 have A1:∀j (hj:j<l.length),k1≤j→¬l[j].Id<x.Id:=λj hj h=>by have:=hhi j h hj;rw[Q2 hj]at this;exact this
 have A2:∀(h:0<k1),(l[k1-1]'(by omega)).Id<x.Id:=λh=>by have:=hlo h;rw[Q2 (show k1-1<l.length by omega)]at this;exact this
 have B1:∀j (hj:j<l.length),j<k2→l[j].Id<x.Id:=λj hj h=>by have:=hf1 j h;simp only[Q2 hj,decide_eq_true_eq]at this;exact this
 have B2:∀(h:k2<l.length),¬l[k2].Id<x.Id:=λh=>by have:=hf2 h;simp only[Q2 h,decide_eq_false_iff_not]at this;exact this
 have hl1:=Kb l k1 hk1 x;have hl2:=Kb l k2 hk2 x;obtain⟨b,b1,b2,_⟩:=Pq (V5 l (k1:Int) [x]) (by omega)
 obtain⟨c,c1,c2,_⟩:=Pq (V5 l (k2:Int) [x]) (by omega)
 have hone:b=true∨c=true→k1=k2:=λh=>xF (λy:Qu=>y.Id) l k1 k2 hk1 hk2 x A1 A2 B1 B2 (by
  rcases h with rfl|rfl
  ·exact .inl (NM _ (by omega) b1)
  ·exact .inr (NM _ (by omega) c1))
 have hbc:b=c:=by
  cases hb:b with
  |true =>
   have:=hone (.inl hb);subst this;rw[b1,hb]at c1;exact Option.some.inj c1
  |false=>cases hc:c with
   |false=>rfl
   |true =>
    have:=hone (.inr hc);subst this;rw[c1,hc]at b1;rw[hb]at b1;cases b1
 have hi:=JG l (λy=>decide (y.QA=x.QA)&&decide (y.Qo=x.Qo)) (λi=>(i:Int)) (step:=Vs l x (ln l))
  (λi hi=>by
   simp only[Vs,F2,QY hi,QR hi,Q2 hi,Q3 (show(i:Int)<9223372036854775807 by omega),Qc,QL,Qa]
   cases (decide (l[i].QA=x.QA)&&decide (l[i].Qo=x.Qo))<;>rfl)
  (by simp only[Vs,Q6 (Qg _),Qb])
 have hc:VN l x=some (l.any (λy=>decide (y.QA=x.QA)&&decide (y.Qo=x.Qo))):=by
  unfold VN Xq;rw[hi];cases hf:l.findIdx? (λy=>decide (y.QA=x.QA)&&decide (y.Qo=x.Qo))with
  |none =>
   have:l.any (λy=>decide (y.QA=x.QA)&&decide (y.Qo=x.Qo))=false:=by
    rw[List.any_eq_false];intro y hy;have:=List.findIdx?_eq_none_iff.1 hf y hy;simpa using this
   rw[this];rfl
  |some i =>
   obtain⟨hi',hp⟩:=CG hf;rw[List.any_eq_true.2 ⟨_,List.getElem_mem hi',hp⟩];simp only[Qa,Zy,Qf (show(0:Int)≤(i:Int)by omega)]
 have hrm:rm (0+l.length) 40=true:=VT (by omega) (by omega)
 have hrm1:rm (0+(cut l 0 (k1:Int)).length) 40=true:=VT (by rw[ZE,List.length_take];omega) (by omega)
 have hrm2:rm ((cut l 0 (k1:Int)).length+1) 40=true:=VT (by rw[ZE,List.length_take];omega) (by omega)
 have hrm3:rm ((cut l 0 (k1:Int)).length+1+(cut l (k1:Int) (ln l)).length) 40=true:=VT (by rw[ZE,IV,List.length_take,List.length_drop];omega) (by omega)
 have hspec:Ea l x=some (bif ((!decide (x.State=0))||l.any (λy=>decide (y.QA=x.QA)&&decide (y.Qo=x.Qo)))||!b then(l,false)else(V5 l (k1:Int) [x],true)):=by
  unfold Ea;simp only[hs',Qa];rw[show Cy 0 (k1:Int) (ln l)=true from LG hk1,show Cy (k1:Int) (ln l) (ln l)=true from RT hk1];simp only[QL,hrm,hrm1,hrm2,hrm3,Rn,b1,Qa];cases ((!decide (x.State=0))||l.any (λy=>decide (y.QA=x.QA)&&decide (y.Qo=x.Qo)))<;>cases b<;>rfl
 have hdup:∀j:Nat,∀hj:j<l.length,l[j].Id=x.Id→b=true→False:=λj hj he hb=>by
  subst hb;exact dF (λy:Qu=>y.Id) l k1 hk1 x (NM _ (by omega) b1) j hj he
 refine⟨_,hspec,?_,?_,?_⟩
 ·unfold FS Xm
  simp only[hrm,QL,Qa,OW l x.Id hl,hc,hr,UZ l k2 hk2 x 40 hl (by omega),c2]
  rw[←hbc];cases hb:b with
  |false =>
   cases decide (x.State=0)<;>cases decide (0≤BE l x.Id)<;>cases l.any (λy=>decide (y.QA=x.QA)&&decide (y.Qo=x.Qo))<;>rfl
  |true =>
   have hk:=hone (.inl hb)
   rcases Ho l x.Id with h|⟨j,hj,h,hid⟩
   ·rw[h,←hk]
    cases decide (x.State=0)<;>cases l.any (λy=>decide (y.QA=x.QA)&&decide (y.Qo=x.Qo))<;>rfl
   ·exact absurd hb (λhb=>hdup j hj hid hb)
 ·cases hb:b with
  |true =>
   subst hb;have:=(LQ _ b1 (by omega)).1
   cases (((!decide (x.State=0))||l.any (λy=>decide (y.QA=x.QA)&&decide (y.Qo=x.Qo)))||!true)with
   |true=>exact hl
   |false=>show(V5 l (k1:Int) [x]).length≤_;omega
  |false=>rw[Qi,Bool.or_true];exact hl
 ·intro h
  have hb:b=true:=by
   cases hb:b with
   |true=>rfl
   |false=>rw[hb,Qi,Bool.or_true]at h;cases h
  have hq:(((!decide (x.State=0))||l.any (λy=>decide (y.QA=x.QA)&&decide (y.Qo=x.Qo)))||!b)=false:=by
   cases hq:(((!decide (x.State=0))||l.any (λy=>decide (y.QA=x.QA)&&decide (y.Qo=x.Qo)))||!b)with
   |false=>rfl
   |true=>rw[hq]at h;cases h
  rw[hq];refine⟨k1,hk1,rfl,?_,?_,A1⟩
  ·subst hb
   have hup:=NM _ (by omega) b1
   have hlt:k1<(V5 l (k1:Int) [x]).length:=by omega
   have hx:(V5 l (k1:Int) [x])[k1]=x:=by
    have:=iC l k1 hk1 x;rw[List.getElem?_eq_getElem hlt]at this;exact Option.some.inj this
   obtain⟨j,hj,h1,h2⟩:=TE (V5 l (k1:Int) [x]) x.Id k1 hlt (by rw[hx])
   show BE (V5 l (k1:Int) [x]) x.Id=_;rw[h1];have hu:=mO (n:=(V5 l (k1:Int) [x]).length) (λi=>(gt (V5 l (k1:Int) [x]) (i:Int)).Id) (λi h1 h2=>by
    show(gt (V5 l (k1:Int) [x]) ((i-1:Nat):Int)).Id<(gt (V5 l (k1:Int) [x]) (i:Int)).Id;rw[Q2 h1,Q2 (show i-1<(V5 l (k1:Int) [x]).length by omega)];exact hup i h1 h2)
   by_cases h3:j<k1
   ·have:=hu k1 j h3 hlt
    simp only[Q2 hj,Q2 hlt,h2,hx]at this;omega
   ·by_cases h4:k1<j
    ·have:=hu j k1 h4 hj
     simp only[Q2 hj,Q2 hlt,h2,hx]at this;omega
    ·congr 1;omega
  ·intro j hj hjk
   have hk:=hone (.inl hb);exact B1 j hj (by omega)
def QfW(h out:Ql)(ok:Bool)(hm:QS h)(hb:ZQ h=false):Vg h out ok=some (h,false):=by
 unfold Vg;simp only[(Zs h hm).1,hb,JQ h hm,Qa];cases ok<;>rfl
def QhT(h out:Ql)(hm:QS h):Vg h out false=some (h,false):=by
 unfold Vg;simp only[JQ h hm,Qa];rfl
def qk(h:Ql)(out:Ql)(hm:QS h)(ho:QS out):D6 h out=some (FE h out true):=by
 unfold D6 FE;have:XZ [] false=some false:=by rw[YB [] (by simp)];rfl
 simp only[this,(Zs h hm).2,(Zs out ho).2,Js h hm,Qa];cases ZQ h<;>cases ZQ out<;>rfl
def om(h:Ql)(m1:h.Qt.length≤1048576)(m2:h.Qn.length≤1048576)(mm:∀x∈h.Qn,x.Marks.length≤1048576)(m4:h.Qv.length≤1048576)(ht:Jv h=some true):∀i (hi:i<h.Qv.length) (hi2:i<h.Qq.length),h.Qq[i].Qu=h.Qv[i].Id:=by
 have hlen:=Pb h ht;unfold Jv at ht;rw[show(!decide (ln h.Qq=ln h.Qv))=false from by rw[Vq,Vq,hlen];simp]at ht
 have hstep:∀i (hi:i<h.Qv.length) (hi2:i<h.Qq.length),∃o,Xa h h.Qv (ln h.Qv) (i:Int)=some o∧(o=.inl ((i+1:Nat):Int)∨o=.inr (.ret false))∧(o=.inl ((i+1:Nat):Int)→h.Qq[i].Qu=h.Qv[i].Id):=by
  intro i hi hi2;obtain⟨t,_,t2⟩:=W6 h.Qq[i];obtain⟨m,_,k2,k3⟩:=PT h.Qn h.Qv[i].Qo m2 mm;obtain⟨c,_,s2⟩:=LO m h.Qq[i] k3;have hw:∃w,Gp h.Qv[i].State=some w:=by
   unfold Gp;cases decide (h.Qv[i].State=0)<;>cases decide (h.Qv[i].State=1)<;>cases decide (h.Qv[i].State=3)<;>cases decide (h.Qv[i].State=2)<;>exact⟨_,rfl⟩
  obtain⟨w,hw⟩:=hw;simp only[Xa,QY hi,QR hi,Q2 hi,QR hi2,Q2 hi2,Q3 (show(i:Int)<9223372036854775807 by omega),Qc,QL,t2,k2,s2,hw,(Jm h.Qt _ m1).2,Qa]
  by_cases hc:h.Qq[i].Qu=h.Qv[i].Id
  ·cases decide (XY h.Qt h.Qv[i].Qo<0)<;>cases decide (h.Qq[i].Qu=h.Qv[i].Id)<;>cases t<;>cases decide (c=w)<;>first|exact⟨_,rfl,.inl rfl,λ_=>hc⟩|exact⟨_,rfl,.inr rfl,λ_=>hc⟩
  ·rw[Qe hc]
   cases decide (XY h.Qt h.Qv[i].Qo<0)<;>cases t<;>exact⟨_,rfl,.inr rfl,λh=>by cases h⟩
 have key:∀(m i:Nat),i+m=h.Qv.length→run (Xa h h.Qv (ln h.Qv)) (i:Int)=some (.brk ())∨run (Xa h h.Qv (ln h.Qv)) (i:Int)=some (.ret false):=by
  intro m
  induction m with
  |zero =>
   intro i hi;have:i=h.Qv.length:=by omega
   subst this;left;rw[QZ];simp only[Xa,Q6 (Qg _),Qb];rfl
  |succ m ih =>
   intro i hi;obtain⟨o,h1,h2,_⟩:=hstep i (by omega) (by omega)
   rw[QZ,h1]
   rcases h2 with rfl|rfl
   ·exact ih (i+1) (by omega)
   ·exact .inr rfl
 have key2:∀(m i:Nat),i+m=h.Qv.length→run (Xa h h.Qv (ln h.Qv)) (i:Int)=some (.brk ())→∀j (hj:j<h.Qv.length) (hj2:j<h.Qq.length),i≤j→h.Qq[j].Qu=h.Qv[j].Id:=by
  intro m
  induction m with
  |zero=>intro i hi _ j hj _ hij;omega
  |succ m ih =>
   intro i hi hr j hj hj2 hij;obtain⟨o,h1,h2,h3⟩:=hstep i (by omega) (by omega)
   rw[QZ,h1]at hr
   rcases h2 with rfl|rfl
   ·by_cases hij':i=j
    ·subst hij';exact h3 rfl
    ·exact ih (i+1) (by omega) hr j hj hj2 (by omega)
   ·simp at hr
 intro i hi hi2
 rcases key h.Qv.length 0 (by omega)with hr|hr
 ·exact key2 h.Qv.length 0 (by omega) hr i hi hi2 (by omega)
 ·rw[show run (Xa h h.Qv (ln h.Qv)) 0=some (.ret false)from hr]at ht
  cases ht
def Ts(h:Ql)(a w t:Int)(hm:QS h):∃r,Jo h a w t=some r∧Di h a w t=some r∧QS r.1:=by
 have hm7:=hm;obtain⟨m1,m2,m3,m4,m5,m6,m7⟩:=hm7;obtain⟨c,c1,c2,c3,c4⟩:=tn h.Qv ⟨a,w,t,h.Now,0⟩ m4;obtain⟨v,v1,v2⟩:=Ku h.Qs t m3;obtain⟨k,hk,hr,hf1,hf2⟩:=bU (n:=h.Qq.length) (λi=>decide ((gt h.Qq (i:Int)).Qu<a)) (step:=Ao a t h ⟨h.No,h.Qt,h.Qn,h.Qs,c.1,h.Qq,h.Qw,h.Book,h.Now⟩ c.2)
  (λi hi=>by
   simp only[Ao,QY hi,QR hi,Q3 (show(i:Int)<9223372036854775807 by omega),Qc,QL,Qa]
   cases decide ((gt h.Qq (i:Int)).Qu<a)<;>rfl)
  (by simp only[Ao,Q6 (Qg _),Qb];rfl)
 have hrm1:rm (cut h.Qq 0 (k:Int)).length 32=true:=VT (by rw[ZE,List.length_take];omega) (by omega)
 have hrm2:rm ((cut h.Qq 0 (k:Int)).length+1) 32=true:=VT (by rw[ZE,List.length_take];omega) (by omega)
 have hrm3:rm ((cut h.Qq 0 (k:Int)).length+1+(cut h.Qq (k:Int) (ln h.Qq)).length) 32=true:=VT (by rw[ZE,IV,List.length_take,List.length_drop];omega) (by omega)
 have hspec:Jo h a w t=bif c.2 then(ZN h.Qs t).bind λr3=>Vg h ⟨h.No,h.Qt,h.Qn,h.Qs,c.1,V5 h.Qq (k:Int) [⟨a,0,0,0⟩],h.Qw,h.Book,h.Now⟩ (!decide (r3=0))else some (h,false):=by
  unfold Jo;simp only[JQ h hm,c1,Qa,hr];rw[show Cy 0 (k:Int) (ln h.Qq)=true from LG hk,show Cy (k:Int) (ln h.Qq) (ln h.Qq)=true from RT hk];simp only[QL,hrm1,hrm2,hrm3,Rn];cases c.2 with
  |false=>simp only[Qb,QhT h _ hm,Qa]
  |true =>
   simp only[Qc,U1 h.Qs t m3,Qa];cases Vg h ⟨h.No,h.Qt,h.Qn,h.Qs,c.1,V5 h.Qq (k:Int) [⟨a,0,0,0⟩],h.Qw,h.Book,h.Now⟩ (!decide ((bif decide (t=0)||decide (C8 h.Qs t<0)then(0:Int)else(gt h.Qs (C8 h.Qs t)).Id)=0))<;>rfl
 rw[hspec];unfold Di;simp only[Js h hm,c2,Qa,(Zs h hm).2,v1];cases hc:c.2 with
 |false=>exact⟨(h,false),rfl,rfl,hm⟩
 |true =>
  simp only[Qc,Qh,Qb,U1 h.Qs t m3,Qa];cases hb:ZQ h with
  |false =>
   rw[QfW h _ _ hm hb];exact⟨(h,false),rfl,rfl,hm⟩
  |true =>
   have ho:=NK h hm hb;have hcl:=LQ _ ho.cS (by omega)
   have htl:=Pb h ho.trials;obtain⟨k2,hk2,hins,hix,hlo,hhi⟩:=c4 hc;have hids:=om h m1 m2.1 (λx hx=>m2.2 x hx) m4 ho.trials
   have hkk:k=k2:=by
    by_cases h1:k<k2
    ·have:=hf2 (by omega)
     simp only[Q2 (show k<h.Qq.length by omega),decide_eq_false_iff_not]at this
     rw[hids k (by omega) (by omega)]at this
     exact absurd (hlo k (by omega) h1) this
    ·by_cases h2:k2<k
     ·have:=hf1 k2 h2
      simp only[Q2 (show k2<h.Qq.length by omega),decide_eq_true_eq]at this
      rw[hids k2 (by omega) (by omega)]at this
      exact absurd this (hhi k2 (by omega) (Qg _))
     ·omega
   have hil:=Kb h.Qq k hk (⟨a,0,0,0⟩:Qp);have wo:QS ⟨h.No,h.Qt,h.Qn,h.Qs,c.1,V5 h.Qq (k:Int) [⟨a,0,0,0⟩],h.Qw,h.Book,h.Now⟩:=⟨m1,m2,m3,c3,by show(V5 h.Qq (k:Int) [⟨a,0,0,0⟩]).length≤_;omega,m6,m7⟩
   have hslot:(!decide ((bif decide (t=0)||decide (C8 h.Qs t<0)then(0:Int)else(gt h.Qs (C8 h.Qs t)).Id)=0))=Eu h.Qs t:=by
    unfold Eu;cases decide (t=0)with
    |true=>rfl
    |false =>
     rcases Hf h.Qs t with⟨_,h2⟩|⟨j,hj,h2,_,_⟩
     ·rw[h2];rfl
     ·rw[h2]
      have hs2:1≤h.Qs[j].Id:=by
       obtain⟨q,q1,_,q3⟩:=K8 h.Qs m3;rw[ho.tS]at q1;exact(q3 (Option.some.inj q1).symm).2 _ (List.getElem_mem hj)
      simp only[Bool.false_or,Qe (show ¬(j:Int)<0 by omega),Qb,Q2 hj,Qe (show ¬h.Qs[j].Id=0 by omega)]
   rw[hslot,GE h _ _ hm wo];refine⟨_,rfl,?_,C7 _ _ _ hm wo⟩;simp only[Qh,Qb,Qa,v2];cases Eu h.Qs t with
   |false=>rfl
   |true =>
    simp only[Qh,Qb,OW c.1 a c3,hix,Qa,←hkk,UZ h.Qq k hk (⟨a,0,0,0⟩:Qp) 32 m5 (by omega),QL,qk h _ hm wo]
def rM(l:List Qu)(id s:Int)(hl:l.length≤1048576):∃r,FU l id s=some r∧Aa l id s=some r∧r.1.length=l.length:=by
 obtain⟨c,c1,c2,c3⟩:=Hb l hl;unfold FU Aa Xm;have hrm:rm (0+l.length) 40=true:=VT (by omega) (by omega)
 simp only[hrm,QL,(Ed l id hl).1,(Ed l id hl).2,c1,c2,Qa]
 rcases Ho l id with h|⟨k,hk,h,hid⟩
 ·rw[h];exact⟨(l,false),rfl,rfl,rfl⟩
 ·rw[h,Qe (show ¬(k:Int)<0 by omega)]
  cases c with
  |false=>exact⟨(l,false),rfl,rfl,rfl⟩
  |true =>
   obtain⟨d,d1,d2,d3⟩:=Hb (l.set k ⟨l[k].Id,l[k].QA,l[k].Qo,l[k].At,s⟩) (by rw[List.length_set];omega)
   simp only[Qb,Qa,Qh,QR hk,Q2 hk,QL,Int.toNat_natCast,d1,d2];have hset:=List.length_set (as:=l) (i:=k) (a:=(⟨l[k].Id,l[k].QA,l[k].Qo,l[k].At,s⟩:Qu));cases decide (l[k].State=0)<;>cases decide (s=1)<;>cases decide (s=2)<;>cases decide (l[k].State=1)<;>cases decide (s=3)<;>cases d<;>first|exact⟨(l,false),rfl,rfl,rfl⟩|exact⟨(l.set k ⟨l[k].Id,l[k].QA,l[k].Qo,l[k].At,s⟩,true),rfl,rfl,hset⟩
def QcG(x:Qo)(d:Int):∃c,HN x d=some c∧HG x d=some c:=by
 unfold HN HG;rw[show Ch x=JB x from rfl];obtain⟨b,b1,_,_⟩:=RJ x;rw[b1];simp only[Qa,QO,QM];cases b with
 |false=>exact⟨0,rfl,rfl⟩
 |true =>
  cases hd:(decide (0≤d)&&decide (d≤1000))with
  |false=>exact⟨0,rfl,rfl⟩
  |true =>
   simp only[Bool.and_eq_true,decide_eq_true_eq]at hd;have hw:0≤x.Worth∧x.Worth≤10000000:=by
    unfold JB QO at b1;simp only[Qa]at b1;revert b1;cases (decide (1≤x.Id)&&decide (x.Id≤999))<;>cases (decide (1≤x.Kind)&&decide (x.Kind≤8))<;>cases (decide (0≤x.Colour)&&decide (x.Colour≤7))<;>cases (decide (1≤x.Size)&&decide (x.Size≤50))<;>simp
   have ht0:=Int.tdiv_nonneg hw.1 (show(0:Int)≤10 by omega)
   have ht1:x.Worth.tdiv 10≤x.Worth:=by
    rw[Int.tdiv_eq_ediv_of_nonneg hw.1];omega
   simp only[Qh,Qb,Qa,GV];rw[Vt (show _≤10*d by omega) (by omega),Vt (show _≤100+10*d by omega) (by omega),Vt (show _≤x.Worth.tdiv 10 by omega) (by omega)]
   by_cases h:x.Worth.tdiv 10<100+10*d
   ·rw[Qf h,if_pos h]
    refine⟨_,rfl,?_⟩;by_cases h':0<x.Worth.tdiv 10
    ·rw[if_pos h']
    ·rw[if_neg h'];congr 1;omega
   ·rw[Qe h,if_neg h]
    refine⟨_,rfl,?_⟩;rw[if_pos (by omega)]
def Tg(h:Ql)(t:Int)(hm:QS h):∃r,JW h t=some r∧C4 h t=some r∧QS r.1:=by
 have hm7:=hm;obtain⟨m1,m2,m3,m4,m5,m6,m7⟩:=hm7;obtain⟨p,p1,p2,p3⟩:=TM h.Qv t m4;obtain⟨w,w1,w2⟩:=Ku h.Qs t m3;unfold JW C4 Dm;simp only[p1,p2,(Jm h.Qt t m1).1,(Jm h.Qt t m1).2,(Zs h hm).1,(Zs h hm).2,JQ h hm,Js h hm,w1,w2,Qa]
 rcases SH h.Qt t with hx|⟨k,hk,hx⟩
 ·rw[hx]
  refine⟨(h,false),?_,?_,hm⟩
  ·cases decide (p=0)<;>rfl
  ·cases ZQ h<;>rfl
 ·rw[hx,Qe (show ¬(k:Int)<0 by omega)]
  cases hb:ZQ h with
  |false=>exact⟨(h,false),by cases decide (p=0)<;>rfl,rfl,hm⟩
  |true =>
   by_cases hp:p=0
   ·rw[Qf hp]
    refine⟨(h,false),rfl,?_,hm⟩;cases Eu h.Qs t with
    |false=>rfl
    |true=>simp only[QR hk,QL];rfl
   ·rw[Qe hp]
    obtain⟨j,hj,hjd⟩:=p3.resolve_left hp;obtain⟨c,hc,hcx,hcid⟩:=TE h.Qv p j hj hjd;obtain⟨g,g1,g2,g3,g4,g5,g6,g7⟩:=ee h t 3 h.Qv[c].QA hm;obtain⟨s,s1,s2,s3⟩:=rM h.Qv p 3 m4;obtain⟨f,f1,f2⟩:=QcG (h.Qt[k]).Qo (QV ((QV (h.Now-(h.Qt[k]).At)).tdiv 24));obtain⟨e,e1,e2,e3⟩:=fw h.Book ⟨h.Qv[c].QA,0,f,h.Now⟩ m7;have hm7':=g3;obtain⟨n1,n2,n3,n4,n5,n6,n7⟩:=hm7';have o1:QS ⟨g.1.No,g.1.Qt,g.1.Qn,g.1.Qs,s.1,g.1.Qq,g.1.Qw,g.1.Book,g.1.Now⟩:=⟨n1,n2,n3,by show s.1.length≤_;omega,n5,n6,n7⟩
    have o2:QS ⟨g.1.No,g.1.Qt,g.1.Qn,g.1.Qs,s.1,g.1.Qq,g.1.Qw,e.1,g.1.Now⟩:=⟨n1,n2,n3,by show s.1.length≤_;omega,n5,n6,e3⟩
    have hpay:B7 ⟨g.1.No,g.1.Qt,g.1.Qn,g.1.Qs,s.1,g.1.Qq,g.1.Qw,g.1.Book,g.1.Now⟩ h.Qv[c].QA 0 f =
      some (bif decide (f=0)then(⟨g.1.No,g.1.Qt,g.1.Qn,g.1.Qs,s.1,g.1.Qq,g.1.Qw,g.1.Book,g.1.Now⟩,true)else(⟨g.1.No,g.1.Qt,g.1.Qn,g.1.Qs,s.1,g.1.Qq,g.1.Qw,e.1,g.1.Now⟩,e.2)):=by
     unfold B7;simp only[g5,g6,e1,Qa];cases decide (f=0)<;>rfl
    have hin:(bif Eu h.Qs t then g.2 else false)=g.2:=by
     cases hi:Eu h.Qs t with
     |true=>rfl
     |false=>rw[g4 hi];rfl
    simp only[Qb,Qh,Qa,(Ed h.Qv p m4).1,(Ed h.Qv p m4).2,hcx,QR hc,Q2 hc,QR hk,Q2 hk,QL,g1,s1,f1,hpay];have hspec:∀b:Bool,(bif b then(bif s.2 then(Vg h (bif decide (f=0)then(⟨g.1.No,g.1.Qt,g.1.Qn,g.1.Qs,s.1,g.1.Qq,g.1.Qw,g.1.Book,g.1.Now⟩,true)else(⟨g.1.No,g.1.Qt,g.1.Qn,g.1.Qs,s.1,g.1.Qq,g.1.Qw,e.1,g.1.Now⟩,e.2):Ql×Bool).1 (bif decide (f=0)then(⟨g.1.No,g.1.Qt,g.1.Qn,g.1.Qs,s.1,g.1.Qq,g.1.Qw,g.1.Book,g.1.Now⟩,true)else(⟨g.1.No,g.1.Qt,g.1.Qn,g.1.Qs,s.1,g.1.Qq,g.1.Qw,e.1,g.1.Now⟩,e.2):Ql×Bool).2).bind λr10=>some (r10.1,r10.2)else(Vg h (bif decide (f=0)then(⟨g.1.No,g.1.Qt,g.1.Qn,g.1.Qs,s.1,g.1.Qq,g.1.Qw,g.1.Book,g.1.Now⟩,true)else(⟨g.1.No,g.1.Qt,g.1.Qn,g.1.Qs,s.1,g.1.Qq,g.1.Qw,e.1,g.1.Now⟩,e.2):Ql×Bool).1 false).bind λr11=>some (r11.1,r11.2))else(Vg h (bif decide (f=0)then(⟨g.1.No,g.1.Qt,g.1.Qn,g.1.Qs,s.1,g.1.Qq,g.1.Qw,g.1.Book,g.1.Now⟩,true)else(⟨g.1.No,g.1.Qt,g.1.Qn,g.1.Qs,s.1,g.1.Qq,g.1.Qw,e.1,g.1.Now⟩,e.2):Ql×Bool).1 false).bind λr12=>some (r12.1,r12.2)) =
      some (bif decide (f=0)then FE h ⟨g.1.No,g.1.Qt,g.1.Qn,g.1.Qs,s.1,g.1.Qq,g.1.Qw,g.1.Book,g.1.Now⟩ (b&&s.2)else FE h ⟨g.1.No,g.1.Qt,g.1.Qn,g.1.Qs,s.1,g.1.Qq,g.1.Qw,e.1,g.1.Now⟩ (b&&(s.2&&e.2))):=by
     intro b;cases decide (f=0)with
     |true =>
      simp only[Qc,GE h _ _ hm o1,Qa];cases b<;>cases s.2<;>rfl
     |false =>
      simp only[Qb,GE h _ _ hm o2,Qa];cases b<;>cases s.2<;>rfl
    rw[hspec];refine⟨_,rfl,?_,?_⟩
    ·cases hi:Eu h.Qs t with
     |false =>
      rw[g4 hi];simp only[Qi,Qa,Qc,Qi,Bool.true_or,Bool.false_and,Kf];cases decide (f=0)<;>rfl
     |true =>
      simp only[Qh,Qa,Qb,Bool.or_false,Bool.false_or,Qe hp,(Ed h.Qv p m4).2,hcx,QR hc,Q2 hc,QR hk,Q2 hk,QL,g2,s2,f2];cases hf:decide (f=0)with
      |true =>
       simp only[Qh,Qb,Qc,Ex h _ _ hm o1 (show[g.2,s.2,true].length≤1048576 by simp),Qa,List.all_cons,List.all_nil,Bool.and_true,id_eq]
      |false =>
       simp only[Qi,Qb,Qc,e2,Ex h _ _ hm o2 (show[g.2,s.2,e.2].length≤1048576 by simp),Qa,List.all_cons,List.all_nil,Bool.and_true,id_eq]
    ·cases decide (f=0)with
     |true=>exact C7 _ _ _ hm o1
     |false=>exact C7 _ _ _ hm o2
end Go.Proofs.YtfhnbabcbhgffaaGreatDoor
