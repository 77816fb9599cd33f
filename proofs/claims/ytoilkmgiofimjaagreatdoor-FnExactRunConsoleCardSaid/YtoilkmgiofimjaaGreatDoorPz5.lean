import Derived.Test.YtoilkmgiofimjaaGreatDoorPz4
namespace Go.Proofs.YtoilkmgiofimjaaGreatDoor
open Go
set_option linter.unusedVariables false
set_option linter.unusedSimpArgs false
def Hw(out:List Bid)(c:Int):Nat→Nat
 |0=>0
 |n+1=>bif decide ((gt out (n:Int)).Cents<c)then Hw out c n else n+1
theorem cq(out:List Bid)(c:Int):∀n,Hw out c n≤n
 |0=>Qg _
 |n+1=>by
  have:=cq out c n;unfold Hw;cases decide ((gt out (n:Int)).Cents<c)<;>simp<;>omega
def ZA(l:List Bid):Nat→List Bid
 |0=>[]
 |i+1=>Vt (ZA l i) ((Hw (ZA l i) (gt l (i:Int)).Cents i:Nat):Int) [gt l (i:Int)]
theorem HW(l:List Bid):∀i,(ZA l i).length=i
 |0=>rfl
 |i+1=>by
  have h:=HW l i;unfold ZA;rw[HL _ _ (by rw[h];exact cq _ _ _),h]
theorem lP{i:Nat}(h:(i:Int)<9223372036854775807):w64 (((i+1:Nat):Int)-1)=(i:Int):=by rw[VA]<;>omega
theorem ow(l:List Bid)(hl:l.length≤1048576):Eh l=some (ZA l l.length):=by
 have inner:∀(out:List Bid) (i:Nat) (hi:i<l.length) (ho:out.length≤1048576) (n:Nat),n≤out.length→run (ZP l out (i:Int)) (n:Int)=some ((Hw out (gt l (i:Int)).Cents n:Nat):Int):=by
  intro out i hi ho n
  induction n with
  |zero =>
   intro _;rw[QS];simp only[ZP,show decide (0<((0:Nat):Int))=false from rfl,Qb,Qa,Hw]
  |succ n ih =>
   intro hn;rw[QS];simp only[ZP,show decide (0<((n+1:Nat):Int))=true from Qf (by omega),Qc,lP (show(n:Int)<9223372036854775807 by omega),Qs (show n<out.length by omega),Qs hi,Qn,Qa,Hw]
   cases decide ((gt out (n:Int)).Cents<(gt l (i:Int)).Cents)with
   |true=>simp only[Qc];exact ih (by omega)
   |false=>rfl
 have hr:=X0 (step:=JJ l) (λi=>(ZA l i,(i:Int))) (r:=ZA l l.length) l.length (λi hi=>by
   have hlen:=HW l i;have hp:=cq (ZA l i) (gt l (i:Int)).Cents i;have hin:=inner (ZA l i) i hi (by omega) (ZA l i).length (Qg _)
   rw[hlen]at hin;have hln:ln (ZA l i)=((i:Nat):Int):=by rw[Q5,hlen]
   have e1:slB 0 ((Hw (ZA l i) (gt l (i:Int)).Cents i:Nat):Int) (i:Int)=true:=Kj hp;have e2:slB ((Hw (ZA l i) (gt l (i:Int)).Cents i:Nat):Int) (i:Int) (i:Int)=true:=Pk hp;have c1:(cut (ZA l i) 0 ((Hw (ZA l i) (gt l (i:Int)).Cents i:Nat):Int)).length=Hw (ZA l i) (gt l (i:Int)).Cents i:=by rw[JK,List.length_take,hlen];omega
   have c3:(cut (ZA l i) ((Hw (ZA l i) (gt l (i:Int)).Cents i:Nat):Int) (i:Int)).length=i-Hw (ZA l i) (gt l (i:Int)).Cents i:=by rw[←hln,Hu,List.length_drop,hlen]
   simp only[JJ,Qy hi,Qc,hln,hin,Qa,e1,e2,Qn,Qs hi,Vp (show 0+(cut (ZA l i) 0 ((Hw (ZA l i) (gt l (i:Int)).Cents i:Nat):Int)).length≤2000000 by omega) (show 24≤1024 by omega),Vp (show(cut (ZA l i) 0 ((Hw (ZA l i) (gt l (i:Int)).Cents i:Nat):Int)).length+1≤2000000 by omega) (show 24≤1024 by omega),
    Vp (show(cut (ZA l i) 0 ((Hw (ZA l i) (gt l (i:Int)).Cents i:Nat):Int)).length+1+(cut (ZA l i) ((Hw (ZA l i) (gt l (i:Int)).Cents i:Nat):Int) (i:Int)).length≤2000000 by omega) (show 24≤1024 by omega),QM (show(i:Int)<9223372036854775807 by omega)]
   rw[←hln,O3,hln];rfl)
  (by simp only[JJ,QP (Qg _),Qb])
 unfold Eh;rw[show run (JJ l) ([],0)=some (ZA l l.length)from hr];rfl
theorem sZ(x y:Bid):∃c,BD x y=some c∧decide (c<0)=decide (y.Cents<x.Cents):=by
 unfold BD Fk E2;simp only[decide_true,Qh,Qa,Qb];by_cases h:y.Cents<x.Cents
 ·rw[Qf h];exact⟨-1,rfl,rfl⟩
 ·rw[Qe h]
  by_cases h':x.Cents<y.Cents
  ·rw[Qf h'];exact⟨1,rfl,rfl⟩
  ·rw[Qe h'];exact⟨0,rfl,rfl⟩
theorem ut{p q:List Bid}{x:Bid}:gt (p++x::q) (p.length:Int)=x:=by
 rw[QC (by simp)];simp
theorem Qp6(b i:Int)(p q:List Bid)(x:Bid)(hp:p.length≤1048576):∀j,j≤p.length→run (QR 0 b i) (p.take j++x::(p.drop j++q),(j:Int))=some (Vt p ((Hw p x.Cents j:Nat):Int) [x]++q):=by
 intro j
 induction j with
 |zero =>
  intro _;rw[QS];simp only[QR,show decide (0<((0:Nat):Int))=false from rfl,Qb,Qa,Hw];simp[Vt]
 |succ j ih =>
  intro hj;have hlt:j<p.length:=by omega
  have hl1:(p.take (j+1)).length=j+1:=by rw[List.length_take];omega
  have hs:p.take (j+1)++x::(p.drop (j+1)++q)=p.take j++p[j]::(x::(p.drop (j+1)++q)):=by
   rw[List.take_succ_eq_append_getElem hlt,List.append_assoc];rfl
  have g1:gt (p.take (j+1)++x::(p.drop (j+1)++q)) ((j+1:Nat):Int)=x:=by
   have:=ut (p:=p.take (j+1)) (q:=p.drop (j+1)++q) (x:=x);rw[hl1]at this;exact this
  have hl0:(p.take j).length=j:=by rw[List.length_take];omega
  have g0:gt (p.take (j+1)++x::(p.drop (j+1)++q)) (j:Int)=p[j]:=by
   rw[hs];have:=ut (p:=p.take j) (q:=x::(p.drop (j+1)++q)) (x:=p[j]);rw[hl0]at this;exact this
  have hlen:(p.take (j+1)++x::(p.drop (j+1)++q)).length=p.length+1+q.length:=by simp;omega
  obtain⟨c,c1,c2⟩:=sZ x p[j];rw[QS];simp only[QR,show decide (0<((j+1:Nat):Int))=true from Qf (by omega),Qc,lP (show(j:Int)<9223372036854775807 by omega),Qs (show j+1<(p.take (j+1)++x::(p.drop (j+1)++q)).length by omega),Qs (show j<(p.take (j+1)++x::(p.drop (j+1)++q)).length by omega),Qn,g0,g1,c1,Qa,c2,Hw,QC hlt]
  cases decide (p[j].Cents<x.Cents)with
  |false =>
   simp only[Qb];congr 1;simp[Vt]
  |true =>
   simp only[Qc,Int.toNat_natCast];have he:((p.take (j+1)++x::(p.drop (j+1)++q)).set (j+1) p[j]).set j x=p.take j++x::(p.drop j++q):=by
    rw[hs,List.set_append_right _ _ (by omega),List.set_append_right _ _ (by omega),hl0]
    simp only[Nat.add_sub_cancel_left,Nat.sub_self,List.set_cons_succ,List.set_cons_zero];rw[List.drop_eq_getElem_cons hlt];rfl
   rw[he];exact ih (by omega)
theorem Y1(l:List Bid)(hl:l.length≤1048576)(h1:1≤l.length):Qx l 0 (ln l)=some (ZA l l.length):=by
 have hr:=X0 (step:=QE 0 (ln l)) (λi=>(ZA l (i+1)++l.drop (i+1),((i+1:Nat):Int))) (r:=ZA l l.length) (l.length-1) (λi hi=>by
   have hlt:i+1<l.length:=by omega
   have hlen:=HW l (i+1);have hd:l.drop (i+1)=l[i+1]::l.drop (i+1+1):=List.drop_eq_getElem_cons hlt;have hk:=Qp6 (ln l) ((i+1:Nat):Int) (ZA l (i+1)) (l.drop (i+1+1)) l[i+1] (by omega) (i+1) (by omega)
   rw[List.take_of_length_le (by omega),List.drop_of_length_le (show(ZA l (i+1)).length≤i+1 by omega),List.nil_append]at hk
   simp only[QE,show decide (((i+1:Nat):Int)<ln l)=true from Qf (by rw[Q5];omega),Qc,hd,hk,Qa,QM (show((i+1:Nat):Int)<9223372036854775807 by omega)]
   rw[show ZA l (i+1+1)=Vt (ZA l (i+1)) ((Hw (ZA l (i+1)) (gt l ((i+1:Nat):Int)).Cents (i+1):Nat):Int) [gt l ((i+1:Nat):Int)]from rfl,QC hlt])
  (by
   rw[show l.length-1+1=l.length by omega]
   simp only[QE,show decide (((l.length:Nat):Int)<ln l)=false from Qe (by rw[Q5];omega),Qb,List.drop_length,List.append_nil])
 have h0:ZA l (0+1)++l.drop (0+1)=l:=by
  cases l with
  |nil=>simp at h1
  |cons x t=>simp[ZA,Vt,Hw,gt]
 unfold Qx;simp only[h0]at hr;rw[show w64 (0+1)=1 from rfl,show run (QE 0 (ln l)) (l,1)=some (ZA l l.length)from hr];rfl
theorem WN(l:List Bid):Qx l 20 20=some l:=by
 unfold Qx;rw[QS];rfl
theorem iY(l:List Bid)(hl:l.length≤20)(h1:1≤l.length):De l=some (ZA l l.length):=by
 have hrm:rm (0+l.length) 24=true:=Vp (by omega) (by omega)
 have h7:∀r:List Bid,run (Q7 r (ln l)) 20=some ():=λr=>by
  rw[QS];simp only[Q7,show decide (20<ln l)=false from Qe (by rw[Q5];omega),Qb,Qa]
 unfold De ED Vz VE;simp only[hrm,Qn,Qa];by_cases h20:l.length=20
 ·have hln:ln l=20:=by rw[Q5,h20];rfl
  have hins:=Y1 l (by omega) h1
  have hr:run (QI (ln l) 20) (l,0,20)=some (ZA l l.length,20):=by
   rw[QS];simp only[QI,show decide (20≤ln l)=true from Qf (by omega),Qc]
   rw[hln]at hins;rw[hins];simp only[Qa];rw[QS];simp only[QI,show decide (w64 (20+20)≤ln l)=false from Qe (by rw[show w64 (20+20)=40 from rfl,hln];omega),Qb,Qa]
  rw[hr];simp only[Qa];rw[hln,WN];rw[hln]at h7;simp only[Qa,h7]
 ·have hr:run (QI (ln l) 20) (l,0,20)=some (l,0):=by
   rw[QS];simp only[QI,show decide (20≤ln l)=false from Qe (by rw[Q5];omega),Qb,Qa]
  rw[hr];simp only[Qa,Y1 l (by omega) h1,h7]
theorem cQ(l:List Entry)(x:Entry)(hl:l.length≤1048576):∃r,DH l x=some r∧As l x=some r∧r.1.length≤1048576:=by
 have hrm:rm (0+l.length) 32=true:=Vp (by omega) (by omega)
 have hrm1:rm (l.length+1) 32=true:=Vp (by omega) (by omega)
 obtain⟨b,b1,b2,b3⟩:=Sy (l++[x]) (by simp;omega)
 unfold DH As Jo;simp only[hrm,hrm1,Qn,Qa,b1,b2];cases b with
 |false=>exact⟨(l,false),rfl,rfl,hl⟩
 |true=>exact⟨_,rfl,rfl,by have:=(b3 rfl).1;show(l++_).length≤_;omega⟩
theorem po(x:Bid):∃b,Ht x=some b∧((Qq x.Who 1 999).bind λr=>(bif (!r)then some true else(Qq x.Cents 1 10000000).bind λr2=>some (!r2)))=some (!b)∧(b=true→1≤x.Who∧1≤x.Cents∧x.Cents≤10000000):=by
 unfold Ht Qo Qq;simp only[Qa];cases h1:(decide (1≤x.Who)&&decide (x.Who≤999))with
 |false=>exact⟨false,rfl,rfl,λh=>by cases h⟩
 |true =>
  cases h2:(decide (1≤x.Cents)&&decide (x.Cents≤10000000))with
  |false=>exact⟨false,rfl,rfl,λh=>by cases h⟩
  |true =>
   simp only[Bool.and_eq_true,decide_eq_true_eq]at h1 h2;exact⟨true,rfl,rfl,λ_=>⟨h1.1,h2.1,h2.2⟩⟩
theorem SX(l:List Bid)(i:Nat)(hi:i<l.length)(hl:l.length≤1048576) :
  run (Af l (i:Int)) 0=some (bif (l.take i).any (λy=>decide (y.Who=l[i].Who))then .ret false else .brk ()):=by
 have hlen:(l.take i).length=i:=by simp;omega
 exact Km (l.take i) (λy=>decide (y.Who=l[i].Who)) (r:=false) (step:=Af l (i:Int))
  (λk hk=>by
   rw[hlen]at hk;have hkl:k<l.length:=by omega
   have e:(l.take i)[k]'(by rw[hlen];exact hk)=l[k]:=by simp
   simp only[Af,e,show decide ((k:Int)<(i:Int))=true from Qf (by omega),Qs hi,QC hi,Qs hkl,QC hkl,QM (show(k:Int)<9223372036854775807 by omega),Qc,Qn]
   cases decide (l[k].Who=l[i].Who)<;>rfl)
  (by rw[hlen];simp only[Af,show decide ((i:Int)<(i:Int))=false from Qe (by omega),Qb])
theorem Ta(p:List Bid)(x:Bid)(hp:p.length≤1048576):Vo p x=some (p.any (λy=>decide (y.Who=x.Who))):=by
 have hi:=X3 p (λy=>decide (y.Who=x.Who)) (λi=>(i:Int)) (step:=Q8 p x (ln p))
  (λi hi=>by
   simp only[Q8,FS,Qy hi,Qs hi,QC hi,QM (show(i:Int)<9223372036854775807 by omega),Qc,Qn,Qa]
   cases decide (p[i].Who=x.Who)<;>rfl)
  (by simp only[Q8,QP (Qg _),Qb])
 unfold Vo V8;rw[hi];cases hf:p.findIdx? (λy=>decide (y.Who=x.Who))with
 |none =>
  have:p.any (λy=>decide (y.Who=x.Who))=false:=by
   rw[List.any_eq_false];intro y hy;have:=List.findIdx?_eq_none_iff.1 hf y hy;simpa using this
  rw[this];rfl
 |some i =>
  obtain⟨hi',hp'⟩:=B6 hf;rw[List.any_eq_true.2 ⟨_,List.getElem_mem hi',hp'⟩];simp only[Qa,evO,Qf (show(0:Int)≤(i:Int)by omega)]
theorem vM(l:List Bid)(hl:l.length≤1048576):∃b,G1 l=some b∧G3 l=some b∧(b=true→l.length≤20∧∀x∈l,1≤x.Who∧1≤x.Cents∧x.Cents≤10000000):=by
 obtain⟨b,h1,h2,h3⟩:=EZ (n:=l.length) (r:=false) (s1:=Ab l) (s2:=Bx l l (ln l)) (λi hi _=>by
   obtain⟨b,q1,q2,_⟩:=po l[i];have hsl:slB 0 (i:Int) (ln l)=true:=Kj (by omega)
   simp only[Ab,Bx,Qy hi,Qs hi,QC hi,QM (show(i:Int)<9223372036854775807 by omega),Qc,Qn,q1,q2,Qa,SX l i hi hl,JK,hsl,Ta (l.take i) l[i] (by simp;omega)]
   cases b<;>cases (l.take i).any (λy=>decide (y.Who=l[i].Who))<;>first|exact⟨true,rfl,rfl⟩|exact⟨false,rfl,rfl⟩)
  (by simp only[Ab,QP (Qg _),Qb]) (by simp only[Bx,QP (Qg _),Qb])
 refine⟨b&&decide ((l.length:Int)≤20),(C6 _ h1).1,(C6 _ h2).2,λhb=>?_⟩
 simp only[Bool.and_eq_true,decide_eq_true_eq]at hb;refine⟨by omega,λx hx=>?_⟩
 obtain⟨i,hi,rfl⟩:=List.getElem_of_mem hx;have hstep:=(h3 hb.1 i hi).1;obtain⟨c,q1,q2,q3⟩:=po l[i];simp only[Ab,Qy hi,Qs hi,QC hi,Qc,Qn,q2,Qa]at hstep;cases c with
 |true=>exact q3 rfl
 |false=>simp at hstep
theorem UW(l:List Bid):∀i,i≤l.length→∀x∈ZA l i,x∈l
 |0,_,x,hx=>by simp[ZA]at hx
 |i+1,hi,x,hx=>by
  unfold ZA at hx;simp only[Vt,Int.toNat_natCast,List.mem_append,List.mem_singleton]at hx
  rcases hx with h|h|h
  ·exact UW l i (by omega) x (List.mem_of_mem_take h)
  ·subst h;rw[QC (show i<l.length by omega)];exact List.getElem_mem _
  ·exact UW l i (by omega) x (List.mem_of_mem_drop h)
theorem Qbt(l:List Bid)(hl:l.length≤1048576):∃r,Gv l=some r∧Gy l=some r∧(r=(0,0)∨(1≤r.1∧1≤r.2∧r.2≤10000000)):=by
 obtain⟨b,b1,b2,b3⟩:=vM l hl;unfold Gv Gy;rw[b1,b2];simp only[Qa];by_cases h0:ln l=0
 ·rw[Qf h0];exact⟨(0,0),rfl,rfl,.inl rfl⟩
 ·rw[Qe h0]
  have hpos:1≤l.length:=by rw[Q5]at h0;omega
  cases b with
  |false=>exact⟨(0,0),rfl,rfl,.inl rfl⟩
  |true =>
   obtain⟨h20,hall⟩:=b3 rfl;have hlen:=HW l l.length;have hmem:=UW l l.length (Qg _);have hi0:0<(ZA l l.length).length:=by omega
   have e0:inb (ZA l l.length) 0=true:=Qs hi0;have g0:gt (ZA l l.length) 0=(ZA l l.length)[0]:=QC hi0;have p0:=hall _ (hmem _ (List.getElem_mem hi0));simp only[Qb,Qh,Qa,ow l hl,iY l h20 hpos,e0,Qn,g0];by_cases h1:l.length=1
   ·rw[show decide (ln (ZA l l.length)=1)=true from Qf (by rw[Q5,hlen,h1];rfl)]
    exact⟨_,rfl,rfl,.inr ⟨p0.1,by show(1:Int)≤1;omega,by show(1:Int)≤10000000;omega⟩⟩
   ·have hi1:1<(ZA l l.length).length:=by omega
    have e1:inb (ZA l l.length) 1=true:=Qs hi1;have g1:gt (ZA l l.length) 1=(ZA l l.length)[1]:=QC hi1;have p1:=hall _ (hmem _ (List.getElem_mem hi1));rw[show decide (ln (ZA l l.length)=1)=false from Qe (by rw[Q5,hlen];omega),e1,g1]
    exact⟨_,rfl,rfl,.inr ⟨p0.1,p1.2.1,p1.2.2⟩⟩
theorem er(c:Int)(h0:0≤c)(h1:c≤10000000):∃a b,a≤c∧Do c [1,9]=some [a,b]∧Dr c [1,9]=some [a,b]:=by
 have t1:(c*1).tdiv 10=c / 10:=by rw[Int.mul_one,Int.tdiv_eq_ediv_of_nonneg h0]
 have t9:(c*9).tdiv 10=c*9 / 10:=Int.tdiv_eq_ediv_of_nonneg (by omega)
 have hb1:=Int.ediv_nonneg h0 (show(0:Int)≤10 by omega)
 have s4:run (Za c [1,9] []) (0,0)=some (.brk 10):=by
  rw[QS];show run (Za c [1,9] []) (1,1)=_;rw[QS];show run (Za c [1,9] []) (10,2)=_;rw[QS];rfl
 have i6:run (Zc c [1,9] [] [1,9] (ln ([1,9]:List Int))) (0,0)=some (.brk 10):=by
  rw[QS];show run (Zc c [1,9] [] [1,9] (ln ([1,9]:List Int))) (1,1)=_;rw[QS];show run (Zc c [1,9] [] [1,9] (ln ([1,9]:List Int))) (10,2)=_;rw[QS];rfl
 have w1:w64 ((w64 (c*1)).tdiv 10)=c / 10:=by rw[VA (n:=c*1) (by omega) (by omega),t1,VA]<;>omega
 have w9:w64 ((w64 (c*9)).tdiv 10)=c*9 / 10:=by rw[VA (n:=c*9) (by omega) (by omega),t9,VA]<;>omega
 have s13:run (XP c [1,9] 10) ([],c,0)=some ([c / 10,c*9 / 10],c-c / 10-c*9 / 10):=by
  rw[QS];simp only[XP,show decide ((0:Int)<ln ([1,9]:List Int))=true from rfl,show inb ([1,9]:List Int) 0=true from rfl,show(!decide ((10:Int)=0))=true from rfl,show gt ([1,9]:List Int) 0=1 from rfl,List.nil_append,w1,Qc,Qn,Vp (show([]:List Int).length+1≤2000000 by simp) (show 8≤1024 by omega),show inb ([c / 10]:List Int) 0=true from rfl,show gt ([c / 10]:List Int) 0=c / 10 from rfl,show w64 (0+1)=1 from rfl,Qa]
  rw[QS];simp only[XP,show decide ((1:Int)<ln ([1,9]:List Int))=true from rfl,show inb ([1,9]:List Int) 1=true from rfl,show(!decide ((10:Int)=0))=true from rfl,show gt ([1,9]:List Int) 1=9 from rfl,w9,Qc,Qn,Vp (show([c / 10]:List Int).length+1≤2000000 by simp) (show 8≤1024 by omega),show([c / 10]++[c*9 / 10]:List Int)=[c / 10,c*9 / 10]from rfl,show inb ([c / 10,c*9 / 10]:List Int) 1=true from rfl,show gt ([c / 10,c*9 / 10]:List Int) 1=c*9 / 10 from rfl,show w64 (1+1)=2 from rfl,Qa]
  rw[QS];simp only[XP,show decide ((2:Int)<ln ([1,9]:List Int))=false from rfl,Qb,Qa];rw[VA (n:=c-c / 10) (by omega) (by omega),VA (by omega) (by omega)]
 have i16:run (XO c 10 [1,9] (ln ([1,9]:List Int))) ([],c,0)=some ([c / 10,c*9 / 10],c-c / 10-c*9 / 10):=by
  rw[QS];simp only[XO,show decide ((0:Int)<ln ([1,9]:List Int))=true from rfl,show inb ([1,9]:List Int) 0=true from rfl,show(!decide ((10:Int)=0))=true from rfl,show gt ([1,9]:List Int) 0=1 from rfl,List.nil_append,w1,Qc,Qn,Vp (show([]:List Int).length+1≤2000000 by simp) (show 8≤1024 by omega),show w64 (0+1)=1 from rfl,Qa]
  rw[QS];simp only[XO,show decide ((1:Int)<ln ([1,9]:List Int))=true from rfl,show inb ([1,9]:List Int) 1=true from rfl,show(!decide ((10:Int)=0))=true from rfl,show gt ([1,9]:List Int) 1=9 from rfl,w9,Qc,Qn,Vp (show([c / 10]:List Int).length+1≤2000000 by simp) (show 8≤1024 by omega),show([c / 10]++[c*9 / 10]:List Int)=[c / 10,c*9 / 10]from rfl,show w64 (1+1)=2 from rfl,Qa]
  rw[QS];simp only[XO,show decide ((2:Int)<ln ([1,9]:List Int))=false from rfl,Qb,Qa];rw[VA (n:=c-c / 10) (by omega) (by omega),VA (by omega) (by omega)]
 have hin1:(decide (0≤c)&&decide (c≤10000000))=true:=by rw[Qf h0,Qf h1];rfl
 have hleft:c-c / 10-c*9 / 10=0∨c-c / 10-c*9 / 10=1:=by omega
 refine⟨c / 10+(c-c / 10-c*9 / 10),c*9 / 10,by omega,?_,?_⟩
 ·unfold Do Qq
  simp only[s4,evO,Qa,hin1,Qh,Qb,show(decide ((1:Int)≤ln ([1,9]:List Int))&&decide (ln ([1,9]:List Int)≤20))=true from rfl,show decide ((10:Int)=0)=false from rfl,Bool.or_self,s13]
  rcases hleft with h|h
  ·rw[h,QS]
   simp only[J1,show decide ((0:Int)<0)=false from rfl,Qb,Qa,Int.add_zero]
  ·rw[h,QS]
   simp only[J1,show decide ((0:Int)<1)=true from rfl,Qc,show inb ([c / 10,c*9 / 10]:List Int) 0=true from rfl,Qn,show gt ([c / 10,c*9 / 10]:List Int) 0=c / 10 from rfl,Qa,show w64 (0+1)=1 from rfl];rw[QS];simp only[J1,show decide ((1:Int)<1)=false from rfl,Qb,Qa];rw[VA (by omega) (by omega)];rfl
 ·unfold Dr Qo
  simp only[i6,evO,Qa,hin1,Qh,Qb,show(decide ((1:Int)≤ln ([1,9]:List Int))&&decide (ln ([1,9]:List Int)≤20))=true from rfl,show decide ((10:Int)=0)=false from rfl,i16]
  rcases hleft with h|h
  ·rw[h,QS]
   simp only[JZ,show decide ((0:Int)<0)=false from rfl,Qb,Qa,Int.add_zero]
  ·rw[h,QS]
   simp only[JZ,show decide ((0:Int)<1)=true from rfl,Qc,show inb ([c / 10,c*9 / 10]:List Int) 0=true from rfl,Qn,show gt ([c / 10,c*9 / 10]:List Int) 0=c / 10 from rfl,show(!decide (ln (([c / 10,c*9 / 10]:List Int).set (0:Int).toNat (w64 (c / 10+1)))=0))=true from rfl,Qa,show w64 (1-1)=0 from rfl];rw[QS];simp only[JZ,show decide ((0:Int)<0)=false from rfl,Qb,Qa];rw[VA (by omega) (by omega)];rfl
theorem rM(p f:Int)(h0:0≤p)(h1:p≤10000000):∃s,EF p f=some s∧Eu p f=some s∧((¬(1≤f∧f≤999)∧s=[⟨0,p⟩])∨(1≤f∧∃a b,a≤p∧s=[⟨f,a⟩,⟨0,b⟩])):=by
 obtain⟨a,b,hab,s1,s2⟩:=er p h0 h1;unfold EF Eu Qq Qo;simp only[Qa,Qf h0,Qf h1,Bool.and_self,Qh,Qb,s1,s2,show inb ([a,b]:List Int) 0=true from rfl,show inb ([a,b]:List Int) 1=true from rfl,Qn,show gt ([a,b]:List Int) 0=a from rfl,show gt ([a,b]:List Int) 1=b from rfl];by_cases hf:1≤f∧f≤999
 ·rw[Qf hf.1,Qf hf.2]
  exact⟨_,rfl,rfl,.inr ⟨hf.1,a,b,hab,rfl⟩⟩
 ·rw[show(decide (1≤f)&&decide (f≤999))=false from by rw[Bool.eq_false_iff];simpa using λh=>by omega]
  exact⟨_,rfl,rfl,.inl ⟨hf,rfl⟩⟩
theorem xH(p f:Int)(h0:0≤p)(h1:p≤10000000):∃s,EF p f=some s∧Eu p f=some s∧((¬(1≤f∧f≤999)∧s=[⟨0,p⟩])∨(1≤f∧∃a b,s=[⟨f,a⟩,⟨0,b⟩])):=by
 obtain⟨s,s1,s2,s3⟩:=rM p f h0 h1;refine⟨s,s1,s2,?_⟩
 rcases s3 with h|⟨h,a,b,_,e⟩
 ·exact .inl h
 ·exact .inr ⟨h,a,b,e⟩
theorem oK(l:List Find)(hl:l.length≤1048576)(h:X7 l=some true):∀i (hi:i<l.length),0≤l[i].Finder∧l[i].Finder≤999:=by
 have hb:∀f:Find,Xj f=some true→0≤f.Finder∧f.Finder≤999:=by
  intro f hf;obtain⟨b,b1,_,_⟩:=Ps f.Thing;unfold Xj Qq at hf;rw[b1]at hf;simp only[Qa]at hf;revert hf;cases b<;>cases (decide (1≤f.Place)&&decide (f.Place≤30))<;>cases (decide (0≤f.At)&&decide (f.At≤100000))<;>simp
 intro i hi;obtain⟨b,h1,h2,h3⟩:=EZ (n:=l.length) (r:=false) (s1:=Ve l) (s2:=Ve l) (λi hi _=>by
   obtain⟨b,q1,q2,_⟩:=Mj l[i];simp only[Ve,Qy hi,Qs hi,QC hi,QM (show(i:Int)<9223372036854775807 by omega),Qc,Qn,q1,Qa]
   by_cases h0:0<i
   ·simp only[show decide (0<(i:Int))=true from Qf (by omega),CF h0 (by omega),Qs (show i-1<l.length by omega),Qc,Qn]
    cases b<;>cases decide (l[i].Thing.Id≤(gt l ((i-1:Nat):Int)).Thing.Id)<;>first|exact⟨true,rfl,rfl⟩|exact⟨false,rfl,rfl⟩
   ·simp only[show decide (0<(i:Int))=false from Qe (by omega),Qb]
    cases b<;>first|exact⟨true,rfl,rfl⟩|exact⟨false,rfl,rfl⟩)
  (by simp only[Ve,QP (Qg _),Qb]) (by simp only[Ve,QP (Qg _),Qb])
 have he:=(C6 (n:=l.length) (k:=20) _ h1).1;have hb':b=true:=by
  unfold X7 at h;rw[show(ln l:Int)=(l.length:Int)from rfl]at h;rw[he]at h;simp at h;exact h.1
 have hstep:=(h3 hb' i hi).1;obtain⟨c,q1,q2,q3⟩:=Mj l[i];simp only[Ve,Qy hi,Qs hi,QC hi,Qc,Qn,q1,Qa]at hstep;cases c with
 |true=>exact hb _ q1
 |false=>simp at hstep
theorem pay(h:House)(a b c:Int)(hm:Qu h):∃r,DH h.Book ⟨a,b,c,h.Now⟩=some r∧As h.Book ⟨a,b,c,h.Now⟩=some r∧r.1.length≤1048576 ∧
  BM h a b c=some (bif decide (c=0)then(h,true)else(⟨h.No,h.Finds,h.Secrets,h.Slots,h.Claims,h.Trials,h.Chain,r.1,h.Now⟩,r.2)):=by
 obtain⟨r,r1,r2,r3⟩:=cQ h.Book ⟨a,b,c,h.Now⟩ hm.2.2.2.2.2.2;refine⟨r,r1,r2,r3,?_⟩;unfold BM;rw[r1];cases decide (c=0)<;>rfl
theorem UF(h x:House)(b:Bool)(hm:Qu h)(hx:Qu x):((QL h x b).bind λr=>some (r.1,r.2))=some (EQ h x b):=by
 rw[FR h x b hm hx];rfl
theorem qS(h:House)(t:Int)(l:List Bid)(hm:Qu h)(hl:l.length≤1048576):∃r,BW h t l=some r∧DM h t l=some r∧Qu r.1:=by
 have hm7:=hm;obtain⟨m1,m2,m3,m4,m5,m6,m7⟩:=hm7;obtain⟨w,w1,w2⟩:=HI h.Slots t m3;obtain⟨⟨who,price⟩,p1,p2,p3⟩:=Qbt l hl;unfold BW DM CT;simp only[p1,p2,(Xw h.Finds t m1).1,(Xw h.Finds t m1).2,(Jy h hm).1,(Jy h hm).2,X8 h hm,XD h hm,w1,w2,Qa]
 rcases Sm h.Finds t with hx|⟨k,hk,hx⟩
 ·rw[hx]
  refine⟨(h,false),rfl,?_,hm⟩;cases J7 h<;>rfl
 ·rw[hx,Qe (show ¬(k:Int)<0 by omega)]
  rcases p3 with p3|⟨q1,q2,q3⟩
  ·injection p3 with e1 e2
   subst e1 e2;refine⟨(h,false),rfl,?_,hm⟩;cases J7 h with
   |false=>rfl
   |true =>
    cases DP h.Slots t with
    |false=>rfl
    |true=>simp only[Qs hk,Qn];rfl
  ·simp only at q1 q2 q3
   rw[show decide (who=0)=false from Qe (by omega)]
   cases hb:J7 h with
   |false=>exact⟨(h,false),rfl,rfl,hm⟩
   |true =>
    have ho:=Mi h hm hb;obtain⟨f,f1,f2⟩:=ji h.Finds[k] h.Claims h.Now m4;have hfin:=oK h.Finds m1 ho.fS k hk;obtain⟨g,g1,g2,g3,g4,g5,g6,g7⟩:=bO h t 4 who hm;simp only[Qb,Qh,Qa,Qs hk,QC hk,Qn,f1];by_cases hf:f=3
    ·subst hf
     obtain⟨s,s1,s2,s3⟩:=xH price h.Finds[k].Finder (by omega) (by omega)
     obtain⟨e,e1,e2,e3,e4⟩:=pay g.1 who 0 price g3;rw[g5,g6]at e1 e2;have hpr:decide (price=0)=false:=Qe (by omega)
     rw[hpr]at e4;have n:=g3;obtain⟨n1,n2,n3,n4,n5,n6,n7⟩:=n;have o1:Qu ⟨g.1.No,g.1.Finds,g.1.Secrets,g.1.Slots,g.1.Claims,g.1.Trials,g.1.Chain,e.1,g.1.Now⟩:=⟨n1,n2,n3,n4,n5,n6,e3⟩;simp only[decide_true,Qh,Qb,g1,e4,s1,Qa]
     rcases s3 with⟨hno,rfl⟩|⟨hyes,a,b,rfl⟩
     ·have hf0:h.Finds[k].Finder=0:=by omega
      have hspec:(bif decide (ln ([⟨0,price⟩]:List Share)=2)then(none:Option (House×Bool))else some (h,false))=some (h,false):=rfl;simp only[show decide (ln ([⟨0,price⟩]:List Share)=2)=false from rfl,Qb,UF h _ _ hm o1];refine⟨EQ h ⟨g.1.No,g.1.Finds,g.1.Secrets,g.1.Slots,g.1.Claims,g.1.Trials,g.1.Chain,e.1,g.1.Now⟩ (g.2&&e.2),?_,?_,Cu _ _ _ hm o1⟩
      ·cases g.2<;>rfl
      ·cases hi:DP h.Slots t with
       |false=>rw[g4 hi];rfl
       |true =>
        simp only[Qh,Qb,Qs hk,QC hk,Qn,f2,Qa,decide_true,Qh,g2,e2,s2,show decide (h.Finds[k].Finder=0)=true from Qf hf0];cases e.2<;>simp only[Qc,Qb,Qh,Qa,DW h _ _ hm o1 (show[g.2,true,true].length≤1048576 by simp),DW h _ _ hm o1 (show[g.2,false,true].length≤1048576 by simp),List.all_cons,List.all_nil,Bool.and_true,id_eq]
     ·have hf0:decide (h.Finds[k].Finder=0)=false:=Qe (by omega)
      obtain⟨d,d1,d2,d3,d4⟩:=pay ⟨g.1.No,g.1.Finds,g.1.Secrets,g.1.Slots,g.1.Claims,g.1.Trials,g.1.Chain,e.1,g.1.Now⟩ 0 h.Finds[k].Finder a o1;simp only[g6]at d1 d2;have o2:Qu ⟨g.1.No,g.1.Finds,g.1.Secrets,g.1.Slots,g.1.Claims,g.1.Trials,g.1.Chain,d.1,g.1.Now⟩:=⟨n1,n2,n3,n4,n5,n6,d3⟩;simp only[show decide (ln ([⟨h.Finds[k].Finder,a⟩,⟨0,b⟩]:List Share)=2)=true from rfl,Qc,show inb ([⟨h.Finds[k].Finder,a⟩,⟨0,b⟩]:List Share) 0=true from rfl,Qn,show gt ([⟨h.Finds[k].Finder,a⟩,⟨0,b⟩]:List Share) 0=⟨h.Finds[k].Finder,a⟩from rfl,d4,Qa];refine⟨bif decide (a=0)then EQ h ⟨g.1.No,g.1.Finds,g.1.Secrets,g.1.Slots,g.1.Claims,g.1.Trials,g.1.Chain,e.1,g.1.Now⟩ (g.2&&e.2)else EQ h ⟨g.1.No,g.1.Finds,g.1.Secrets,g.1.Slots,g.1.Claims,g.1.Trials,g.1.Chain,d.1,g.1.Now⟩ (g.2&&(e.2&&d.2)),?_,?_,?_⟩
      ·cases decide (a=0)with
       |true=>simp only[Qc,UF h _ _ hm o1];cases g.2<;>cases e.2<;>rfl
       |false=>simp only[Qb,UF h _ _ hm o2];cases g.2<;>cases e.2<;>rfl
      ·cases hi:DP h.Slots t with
       |false =>
        rw[g4 hi];simp only[Qi,Bool.false_and,HO];cases decide (a=0)<;>rfl
       |true =>
        simp only[Qh,Qb,Qs hk,QC hk,Qn,f2,Qa,decide_true,Qh,g2,e2,s2,hf0,Qi,show inb ([⟨h.Finds[k].Finder,a⟩,⟨0,b⟩]:List Share) 0=true from rfl,show gt ([⟨h.Finds[k].Finder,a⟩,⟨0,b⟩]:List Share) 0=⟨h.Finds[k].Finder,a⟩from rfl,Qc];cases he:e.2 with
        |false =>
         simp only[Qb,Qa,DW h _ _ hm o1 (show[g.2,false,true].length≤1048576 by simp),List.all_cons,List.all_nil,Bool.and_true,id_eq,Bool.false_and,Bool.and_false,HO]
         cases decide (a=0)<;>rfl
        |true =>
         cases ha:decide (a=0)with
         |true=>simp only[Qc,Qb,Qh,Qa,DW h _ _ hm o1 (show[g.2,true,true].length≤1048576 by simp),List.all_cons,List.all_nil,Bool.and_true,id_eq]
         |false=>simp only[Qc,Qb,Qi,Qa,d2,DW h _ _ hm o2 (show[g.2,true,d.2].length≤1048576 by simp),List.all_cons,List.all_nil,Bool.and_true,Bool.true_and,id_eq]
      ·cases decide (a=0)with
       |true=>exact Cu _ _ _ hm o1
       |false=>exact Cu _ _ _ hm o2
    ·simp only[Qe hf,Qi,Qc]
     refine⟨(h,false),rfl,?_,hm⟩;cases DP h.Slots t with
     |false=>rfl
     |true=>simp only[Qh,Qb,Qs hk,QC hk,Qn,f2,Qa,Qe hf,Qi,Qc]
theorem gX(l:List Find)(id:Int):Xh l id=-1∨∃k:Nat,∃hk:k<l.length,Xh l id=(k:Int)∧l[k].Thing.Id=id:=by
 unfold Xh;cases hf:l.findIdx? (λx=>decide (x.Thing.Id=id))with
 |none=>exact .inl rfl
 |some i =>
  obtain⟨hi,hp⟩:=B6 hf;exact .inr ⟨i,hi,rfl,by simpa using hp⟩
theorem uN(l:List Find)(f:Find)(hl:l.length≤1048576):∃r,Es l f=some r∧FT l f=some r∧r.1.length≤1048576:=by
 obtain⟨k,hk,hr⟩:=jp (n:=l.length) (λi=>decide ((gt l (i:Int)).Thing.Id<f.Thing.Id)) (step:=Bl l f)
  (λi hi=>by
   simp only[Bl,Qy hi,Qs hi,QM (show(i:Int)<9223372036854775807 by omega),Qc,Qn,Qa]
   cases decide ((gt l (i:Int)).Thing.Id<f.Thing.Id)<;>rfl)
  (by simp only[Bl,QP (Qg _),Qb];rfl)
 have hr2:run (Fh l f l) 0=some (k:Int):=hr;have hlen:=HL l k hk f;obtain⟨b,b1,b2,b3⟩:=Y2 (Vt l (k:Int) [f]) (by omega)
 have hrm:rm (0+l.length) 64=true:=Vp (by omega) (by omega)
 have hrm1:rm (0+(cut l 0 (k:Int)).length) 64=true:=Vp (by rw[JK,List.length_take];omega) (by omega)
 have hrm2:rm ((cut l 0 (k:Int)).length+1) 64=true:=Vp (by rw[JK,List.length_take];omega) (by omega)
 have hrm3:rm ((cut l 0 (k:Int)).length+1+(cut l (k:Int) (ln l)).length) 64=true:=Vp (by rw[JK,Hu,List.length_take,List.length_drop];omega) (by omega)
 have hs:Es l f=some (bif b then(Vt l (k:Int) [f],true)else(l,false)):=by
  unfold Es;simp only[hr,Q5,Kj hk,Pk hk,Qa,Qn];rw[←Q5];simp only[hrm1,hrm2,hrm3,hrm,O3,b1,Qn,Qa];cases b<;>rfl
 refine⟨_,hs,?_,?_⟩
 ·unfold FT JP
  simp only[hrm,Qn,Qa,(Xw l f.Thing.Id hl).2,hr2,Tx l k hk f 64 hl (by omega),b2]
  rcases gX l f.Thing.Id with h|⟨j,hj,h,hid⟩
  ·rw[h];cases b<;>rfl
  ·rw[h,Qf (show(0:Int)≤(j:Int)by omega)]
   cases b with
   |false=>rfl
   |true=>exact absurd (be (λx:Find=>x.Thing.Id) l k hk f (b3 rfl).2.2 j hj hid) id
 ·cases b with
  |false=>exact hl
  |true=>have:=(b3 rfl).1;show(Vt l (k:Int) [f]).length≤_;omega
theorem p9(l:List Secret)(t:Int)(hl:l.length≤1048576):AG l t=some (-1)∨∃k:Nat,∃hk:k<l.length,AG l t=some (k:Int)∧l[k].Thing=t:=by
 have hi:=X3 l (λx=>decide (x.Thing=t)) (λi=>(i:Int)) (step:=QD l t (ln l))
  (λi hi=>by
   simp only[QD,Dv,Qa,Qy hi,Qs hi,QC hi,QM (show(i:Int)<9223372036854775807 by omega),Qc,Qn]
   cases decide (l[i].Thing=t)<;>rfl)
  (by simp only[QD,QP (Qg _),Qb])
 unfold AG Vi;rw[hi];cases hf:l.findIdx? (λx=>decide (x.Thing=t))with
 |none=>exact .inl rfl
 |some i =>
  obtain⟨hi',hp⟩:=B6 hf;exact .inr ⟨i,hi',rfl,by simpa using hp⟩
theorem qH{α:Type}{sm:α→Prop}{l:List α}(h:smL sm l)(k:Nat):smL sm (l.take k):=⟨by have:=h.1;rw[List.length_take];omega,λx hx=>h.2 x (List.mem_of_mem_take hx)⟩
theorem pQ{α:Type}{sm:α→Prop}{l:List α}(h:smL sm l)(k:Nat):smL sm (l.drop k):=⟨by have:=h.1;rw[List.length_drop];omega,λx hx=>h.2 x (List.mem_of_mem_drop hx)⟩
theorem nU(l:List Secret)(x:Secret)(hm:smL Gf l)(hx:x.Marks.length≤1048576):∃r,B8 l x=some r∧Ee l x=some r∧smL Gf r.1:=by
 have hl:=hm.1;obtain⟨k,hk,hr⟩:=jp (n:=l.length) (λi=>decide ((gt l (i:Int)).Thing<x.Thing)) (step:=ZY l x)
  (λi hi=>by
   simp only[ZY,Qy hi,Qs hi,QM (show(i:Int)<9223372036854775807 by omega),Qc,Qn,Qa]
   cases decide ((gt l (i:Int)).Thing<x.Thing)<;>rfl)
  (by simp only[ZY,QP (Qg _),Qb];rfl)
 have hr2:run (DX l x l) 0=some (k:Int):=hr;have hlen:=HL l k hk x;have hmem:∀y∈Vt l (k:Int) [x],Gf y:=by
  intro y hy;simp only[Vt,Int.toNat_natCast,List.singleton_append,List.mem_append,List.mem_cons]at hy
  rcases hy with h|h|h
  ·exact hm.2 y (List.mem_of_mem_take h)
  ·subst h;exact hx
  ·exact hm.2 y (List.mem_of_mem_drop h)
 obtain⟨b,b1,b2,b3⟩:=SO (Vt l (k:Int) [x]) (by omega) hmem
 have hrm1:rm ((cut l 0 (k:Int)).length+[x].length) 40=true:=Vp (by rw[JK,List.length_take];simp;omega) (by omega)
 have hrm3:rm ((cut l 0 (k:Int)).length+[x].length+(cut l (k:Int) (ln l)).length) 40=true:=Vp (by rw[JK,Hu,List.length_take,List.length_drop];simp;omega) (by omega)
 have c1:Jd (cut l 0 (k:Int))=some (cut l 0 (k:Int)):=by rw[JK];exact P6 _ (qH hm k)
 have c2:Jd (cut l (k:Int) (ln l))=some (cut l (k:Int) (ln l)):=by rw[Hu];exact P6 _ (pQ hm k)
 have c3:Jd [x]=some [x]:=P6 _ ⟨by simp,λy hy=>by simp at hy;subst hy;exact hx⟩
 have hs:B8 l x=some (bif b then(Vt l (k:Int) [x],true)else(l,false)):=by
  unfold B8;simp only[hr,Qa];rw[show slB 0 (k:Int) (ln l)=true from Kj hk,show slB (k:Int) (ln l) (ln l)=true from Pk hk];simp only[Qn,c1,c2,c3,hrm1,hrm3,O3,b1,P6 l hm,Qa];cases b<;>rfl
 refine⟨_,hs,?_,?_⟩
 ·unfold Ee XX
  simp only[OY l hm,Qa,hr2,Vp (show 0+x.Marks.length≤2000000 by omega) (show 16≤1024 by omega),Qn,show(⟨x.Thing,x.Marks,x.Salt⟩:Secret)=x from rfl,Tx l k hk x 40 hl (by omega),b2]
  rcases p9 l x.Thing hl with h|⟨j,hj,h,hid⟩
  ·rw[h];cases b<;>rfl
  ·rw[h]
   simp only[Qa,Qf (show(0:Int)≤(j:Int)by omega)]
   cases b with
   |false=>rfl
   |true=>exact absurd (be (λx:Secret=>x.Thing) l k hk x (b3 rfl).2 j hj hid) id
 ·cases b with
  |false=>exact hm
  |true=>exact⟨by have:=(b3 rfl).1;show(Vt l (k:Int) [x]).length≤_;omega,hmem⟩
theorem qX(l:List Slot)(x:Thing)(hl:l.length≤1048576):∃r,EG l x=some r∧EB l x=some r∧r.1.length=l.length∧(r.2=true→1≤x.Id∧∃y∈r.1,y.Thing=x.Id):=by
 obtain⟨c,c1,c2,c3⟩:=Rs l hl;obtain⟨t,t1,t2,t3⟩:=Ps x;have hrm:rm (0+l.length) 24=true:=Vp (by omega) (by omega)
 obtain⟨v,hv,hq⟩:=Mq (n:=l.length) (step:=Vv l x.Size) (fin:=λv=>v) (λi v=>v=-1∨∃j:Nat,j<i∧j<l.length∧v=(j:Int))
  (λi v hi hv=>by
   have hw:=QM (show(i:Int)<9223372036854775807 by omega)
   have hcase:Vv l x.Size (v,(i:Int))=some (.inl ((i:Int),((i+1:Nat):Int)))∨Vv l x.Size (v,(i:Int))=some (.inl (v,((i+1:Nat):Int))):=by
    rcases hv with rfl|⟨j,hj,hjl,rfl⟩
    ·simp only[Vv,Qy hi,Qs hi,QC hi,hw,Qc,Qn,show decide ((-1:Int)<0)=true from rfl]
     cases decide (l[i].Thing=0)<;>cases decide (x.Size≤l[i].Size)<;>first|exact .inl rfl|exact .inr rfl
    ·simp only[Vv,Qy hi,Qs hi,QC hi,Qs hjl,QC hjl,hw,Qc,Qb,Qn,Qe (show ¬(j:Int)<0 by omega)]
     cases decide (l[i].Thing=0)<;>cases decide (x.Size≤l[i].Size)<;>cases decide (l[i].Size<l[j].Size)<;>first|exact .inl rfl|exact .inr rfl
   rcases hcase with h|h
   ·exact⟨_,h,.inr ⟨i,by omega,hi,rfl⟩⟩
   ·refine⟨_,h,?_⟩
    rcases hv with h'|⟨j,hj,hjl,h'⟩
    ·exact .inl h'
    ·exact .inr ⟨j,by omega,hjl,h'⟩)
  (λv _=>by simp only[Vv,QP (Qg _),Qb]) (-1) (.inl rfl)
 have hf:FN l x.Size=some v:=by
  unfold FN;rw[show Dp l x.Size l (ln l)=Vv l x.Size from by funext ⟨k,i⟩;simp only[Dp,Vv];cases decide (i<ln l)<;>cases inb l i<;>rfl,hv];rfl
 have hsf:BL l x.Size=some (bif decide (v<0)then 0 else(gt l v).Id):=by
  unfold BL;rw[hv]
  rcases hq with rfl|⟨j,_,hjl,rfl⟩
  ·rfl
  ·simp only[Qa,Qe (show ¬(j:Int)<0 by omega),Qb,Qs hjl,Qn]
 unfold EG EB Xg;simp only[hrm,Qn,c1,c2,t1,t2,hf,hsf,TL l x.Id hl,IR l x.Id hl,Qa];cases c with
 |false=>exact⟨(l,false),rfl,rfl,rfl,λh=>by cases h⟩
 |true =>
  obtain⟨s1,s2,s3⟩:=c3 rfl;cases t with
  |false=>exact⟨(l,false),rfl,rfl,rfl,λh=>by cases h⟩
  |true =>
   rcases hq with rfl|⟨k,_,hk,rfl⟩
   ·exact⟨(l,false),rfl,rfl,rfl,λh=>by cases h⟩
   ·have hid:1≤l[k].Id:=s2 _ (List.getElem_mem hk)
    have hsame:(!decide ((bif decide (x.Id=0)||decide (CB l x.Id<0)then(0:Int)else(gt l (CB l x.Id)).Id)=0))=decide (0≤(bif decide (x.Id=0)then(-1:Int)else CB l x.Id)):=by
     cases decide (x.Id=0)with
     |true=>rfl
     |false =>
      rcases Gh l x.Id with⟨_,h2⟩|⟨j,hj,h2,_,_⟩
      ·rw[h2];rfl
      ·rw[h2]
       have:=s2 _ (List.getElem_mem hj);simp only[Bool.false_or,Qe (show ¬(j:Int)<0 by omega),Qb,QC hj,Qe (show ¬l[j].Id=0 by omega),Qf (show(0:Int)≤(j:Int)by omega)];rfl
    simp only[Qh,Qb,Qe (show ¬(k:Int)<0 by omega),QC hk,Qs hk,Qn,Qe (show ¬l[k].Id=0 by omega),Int.toNat_natCast,Qa,hsame]
    cases decide (0≤(bif decide (x.Id=0)then(-1:Int)else CB l x.Id))with
    |true=>exact⟨(l,false),rfl,rfl,rfl,λh=>by cases h⟩
    |false =>
     have hr:=X0 (step:=X9 x l[k].Id) (λi=>(if i≤k then l else l.set k ⟨l[k].Id,l[k].Size,x.Id⟩,(i:Int))) (r:=l.set k ⟨l[k].Id,l[k].Size,x.Id⟩) l.length (λi hi=>by
       have hw:=QM (show(i:Int)<9223372036854775807 by omega)
       by_cases hik:i<k
       ·have hne:¬l[i].Id=l[k].Id:=λe=>by have:=Kd l s3 i k hi hk e;omega
        simp only[X9,if_pos (show i≤k by omega),if_pos (show i+1≤k by omega),Qy hi,Qs hi,QC hi,hw,Qe hne,Qc,Qb,Qn]
       ·by_cases hek:i=k
        ·subst hek
         simp only[X9,if_pos (Qg i),if_neg (show ¬i+1≤i by omega),Qy hi,Qs hi,QC hi,hw,decide_true,Qc,Qn,Int.toNat_natCast]
        ·have hne:¬l[i].Id=l[k].Id:=λe=>by have:=Kd l s3 i k hi hk e;omega
         have hi':i<(l.set k ⟨l[k].Id,l[k].Size,x.Id⟩).length:=by rw[List.length_set];exact hi
         have hg:gt (l.set k ⟨l[k].Id,l[k].Size,x.Id⟩) (i:Int)=l[i]:=by rw[aJ l k _ i hi,if_neg hek,QC hi]
         simp only[X9,if_neg (show ¬i≤k by omega),if_neg (show ¬i+1≤k by omega),Qy hi',Qs hi',hg,hw,Qe hne,Qc,Qb,Qn])
      (by
       simp only[X9,if_neg (show ¬l.length≤k by omega)]
       rw[show decide ((l.length:Int)<ln (l.set k ⟨l[k].Id,l[k].Size,x.Id⟩))=false from Qe (by rw[Q5,List.length_set];omega)]
       rfl)
     simp only[Qb,show run (X9 x l[k].Id) (l,0)=some (l.set k ⟨l[k].Id,l[k].Size,x.Id⟩)from hr,Qa];exact⟨_,rfl,rfl,List.length_set,λ_=>⟨t3 rfl,_,List.mem_iff_getElem.2 ⟨k,by simpa using hk,List.getElem_set_self (by simpa using hk)⟩,rfl⟩⟩
theorem vN(l:List Slot)(x:Thing)(hl:l.length≤1048576):∃r,EG l x=some r∧EB l x=some r∧r.1.length=l.length:=by
 obtain⟨r,r1,r2,r3,_⟩:=qX l x hl;exact⟨r,r1,r2,r3⟩
theorem qV(h:House)(f:Find)(m:List Mark)(s:Int)(hm:Qu h)(hk:m.length≤1048576):∃r,BV h f m s=some r∧DA h f m s=some r∧Qu r.1:=by
 have hm7:=hm;obtain⟨m1,m2,m3,m4,m5,m6,m7⟩:=hm7;obtain⟨a,a1,a2,a3⟩:=uN h.Finds f m1;obtain⟨b,b1,b2,b3⟩:=nU h.Secrets ⟨f.Thing.Id,m,s⟩ m2 hk;obtain⟨c,c1,c2,c3⟩:=vN h.Slots f.Thing m3;obtain⟨d,d1,d2,d3⟩:=kV h.Chain ⟨f.Thing.Id,2,h.No,h.Now,0⟩ m6;have w:Qu ⟨h.No,a.1,b.1,c.1,h.Claims,h.Trials,d.1,h.Book,h.Now⟩:=⟨a3,b3,by show c.1.length≤_;omega,m4,m5,d3,m7⟩
 refine⟨EQ h ⟨h.No,a.1,b.1,c.1,h.Claims,h.Trials,d.1,h.Book,h.Now⟩ (a.2&&(b.2&&(c.2&&d.2))),?_,?_,Cu _ _ _ hm w⟩
 ·unfold BV
  simp only[X8 h hm,a1,b1,c1,d1,FR h _ _ hm w,Qa];cases a.2<;>cases b.2<;>cases c.2<;>rfl
 ·unfold DA
  simp only[XD h hm,a2,b2,c2,d2,DW h _ _ hm w (show[a.2,b.2,c.2,d.2].length≤1048576 by simp),Qa,List.all_cons,List.all_nil,Bool.and_true,id_eq]
theorem L7(l:List Claim)(hl:l.length≤2097152)(h:Vu l=some true):∀i (hi:i<l.length) (h0:0<i),(l[i-1]'(by omega)).Id<l[i].Id:=by
 intro i hi h0;have ho:=(IT l h hl).2 i hi;unfold Gn at ho;simp only[Bool.and_eq_true,Bool.or_eq_true,QC hi,QC (show i-1<l.length by omega)]at ho
 have:=ho.2.2.2.2.2.1;simp at this;omega
theorem qu{α:Type}[Inhabited α](key:α→Int)(l:List α)(k:Nat)(hk:k≤l.length)(x:α)(up:∀i (hi:i<(Vt l (k:Int) [x]).length) (h0:0<i),key ((Vt l (k:Int) [x])[i-1]'(by omega))<key (Vt l (k:Int) [x])[i])(j:Nat)(hj:j<l.length):if j<k then key l[j]<key x else key x<key l[j]:=by
 have hlen:=HL l k hk x;have hu:=lJ (n:=(Vt l (k:Int) [x]).length) (λi=>key (gt (Vt l (k:Int) [x]) (i:Int))) (λi h1 h2=>by
  show key (gt (Vt l (k:Int) [x]) ((i-1:Nat):Int))<key (gt (Vt l (k:Int) [x]) (i:Int));rw[QC h1,QC (show i-1<(Vt l (k:Int) [x]).length by omega)];exact up i h1 h2)
 have g1:gt (Vt l (k:Int) [x]) (k:Int)=x:=by
  have hlt:k<(Vt l (k:Int) [x]).length:=by omega
  rw[QC hlt];have:=ja l k hk x;rw[List.getElem?_eq_getElem hlt]at this;exact Option.some.inj this
 have hidx:(if j<k then j else j+1)<(Vt l (k:Int) [x]).length:=by split<;>omega
 have g2:gt (Vt l (k:Int) [x]) ((if j<k then j else j+1:Nat):Int)=l[j]:=by
  rw[QC hidx];have:=mR l k hk x j hj;rw[List.getElem?_eq_getElem hidx]at this;exact Option.some.inj this
 by_cases h:j<k
 ·have:=hu k (if j<k then j else j+1) (by rw[if_pos h];exact h) (by omega)
  simp only[g1,g2]at this;rw[if_pos h];exact this
 ·have:=hu (if j<k then j else j+1) k (by rw[if_neg h];omega) hidx
  simp only[g1,g2]at this;rw[if_neg h];exact this
theorem vH{α:Type}[Inhabited α](key:α→Int)(l:List α)(k1 k2:Nat)(h1:k1≤l.length)(h2:k2≤l.length)(x:α)
  (a1:∀j (hj:j<l.length),k1≤j→¬key l[j]<key x) (a2:∀(h:0<k1),key (l[k1-1]'(by omega))<key x)
  (b1:∀j (hj:j<l.length),j<k2→key l[j]<key x) (b2:∀(h:k2<l.length),¬key l[k2]<key x)
  (up:(∀i (hi:i<(Vt l (k1:Int) [x]).length) (h0:0<i),key ((Vt l (k1:Int) [x])[i-1]'(by omega))<key (Vt l (k1:Int) [x])[i])∨(∀i (hi:i<(Vt l (k2:Int) [x]).length) (h0:0<i),key ((Vt l (k2:Int) [x])[i-1]'(by omega))<key (Vt l (k2:Int) [x])[i])):k1=k2:=by
 rcases up with up|up
 ·have hj:=qu key l k1 h1 x up
  by_cases h:k1<k2
  ·exact absurd (b1 k1 (by omega) h) (a1 k1 (by omega) (Qg _))
  ·by_cases h':k2<k1
   ·have:=hj k2 (by omega)
    rw[if_pos h']at this;exact absurd this (b2 (by omega))
   ·omega
 ·have hj:=qu key l k2 h2 x up
  by_cases h:k1<k2
  ·exact absurd (b1 k1 (by omega) h) (a1 k1 (by omega) (Qg _))
  ·by_cases h':k2<k1
   ·have h3:=hj (k1-1) (by omega)
    rw[if_neg (by omega)]at h3
    have h4:=a2 (by omega)
    omega
   ·omega
theorem YC{n:Nat}(p:Nat→Bool){step:Int→Option (Int⊕Int)}(h1:∀i,i<n→step (i:Int)=some (bif p i then .inl ((i+1:Nat):Int)else .inr (i:Int)))(h2:step (n:Int)=some (.inr (n:Int))):∃k:Nat,k≤n∧run step 0=some (k:Int)∧(∀j,j<k→p j=true)∧(k<n→p k=false):=by
 have key:∀(m i:Nat),i+m=n→(∀j,j<i→p j=true)→∃k:Nat,k≤n∧run step (i:Int)=some (k:Int)∧(∀j,j<k→p j=true)∧(k<n→p k=false):=by
  intro m
  induction m with
  |zero =>
   intro i hi hp;have:i=n:=by omega
   subst this;exact⟨i,Qg _,by rw[QS,h2];rfl,hp,λh=>by omega⟩
  |succ m ih =>
   intro i hi hp';cases hp:p i with
   |false=>exact⟨i,by omega,by rw[QS,h1 i (by omega),hp];rfl,hp',λ_=>hp⟩
   |true =>
    obtain⟨k,k1,k2,k3⟩:=ih (i+1) (by omega) (λj hj=>by
     by_cases hji:j=i
     ·subst hji;exact hp
     ·exact hp' j (by omega))
    exact⟨k,k1,by rw[QS,h1 i (by omega),hp];exact k2,k3⟩
 exact key n 0 (by omega) (λj hj=>by omega)
def ET(l:List Claim)(id:Int):Nat→Nat
 |0=>0
 |n+1=>bif decide ((gt l (n:Int)).Id<id)then n+1 else ET l id n
theorem aq(l:List Claim)(id:Int):∀n,ET l id n≤n
 |0=>Qg _
 |n+1=>by
  have:=aq l id n;unfold ET;cases decide ((gt l (n:Int)).Id<id)<;>simp<;>omega
theorem YW(l:List Claim)(id:Int):∀n j,ET l id n≤j→j<n→¬(gt l (j:Int)).Id<id
 |0,j,_,h=>by omega
 |n+1,j,h1,h2=>by
  unfold ET at h1;cases hd:decide ((gt l (n:Int)).Id<id)with
  |true=>rw[hd]at h1;simp at h1;omega
  |false =>
   rw[hd]at h1;by_cases hj:j=n
   ·subst hj;exact of_decide_eq_false hd
   ·exact YW l id n j h1 (by omega)
theorem ae(l:List Claim)(id:Int):∀n,0<ET l id n→(gt l ((ET l id n-1:Nat):Int)).Id<id
 |0,h=>by simp[ET]at h
 |n+1,h=>by
  unfold ET at h ⊢;cases hd:decide ((gt l (n:Int)).Id<id)with
  |true=>simp only[Qc,Nat.add_sub_cancel];exact of_decide_eq_true hd
  |false=>rw[hd]at h;exact ae l id n h
theorem rF(l:List Claim)(x:Claim)(hl:l.length≤1048576):∃r,DF l x=some r∧E6 l x=some r∧r.1.length≤1048576 ∧
  (r.2=true→∃k:Nat,k≤l.length∧r.1=Vt l (k:Int) [x]∧DY r.1 x.Id=(k:Int)∧(∀j (hj:j<l.length),j<k→l[j].Id<x.Id)∧(∀j (hj:j<l.length),k≤j→¬l[j].Id<x.Id)):=by
 have hs:=X0 (step:=Zb l x) (λi=>(((ET l x.Id i:Nat):Int),(!decide (x.State=0))||(l.take i).any (λy=>decide (y.Who=x.Who)&&decide (y.Thing=x.Thing)),(i:Int)))
  (r:=(((ET l x.Id l.length:Nat):Int),(!decide (x.State=0))||l.any (λy=>decide (y.Who=x.Who)&&decide (y.Thing=x.Thing)))) l.length (λi hi=>by
   have hw:=QM (show(i:Int)<9223372036854775807 by omega)
   have hany:(l.take (i+1)).any (λy=>decide (y.Who=x.Who)&&decide (y.Thing=x.Thing))=((l.take i).any (λy=>decide (y.Who=x.Who)&&decide (y.Thing=x.Thing))||(decide (l[i].Who=x.Who)&&decide (l[i].Thing=x.Thing))):=by
    rw[List.take_succ_eq_append_getElem hi,List.any_append];simp
   have ha:ET l x.Id (i+1)=bif decide (l[i].Id<x.Id)then i+1 else ET l x.Id i:=by
    rw[ET,QC hi]
   simp only[Zb,Qy hi,Qs hi,QC hi,hw,Qc,Qn,hany,ha];generalize (l.take i).any (λy=>decide (y.Who=x.Who)&&decide (y.Thing=x.Thing))=q
   cases decide (x.State=0)<;>cases q<;>cases (decide (l[i].Who=x.Who)&&decide (l[i].Thing=x.Thing))<;>cases decide (l[i].Id<x.Id)<;>rfl)
  (by simp only[Zb,QP (Qg _),Qb,List.take_length])
 have hs':run (Zb l x) (0,(!decide (x.State=0)),0)=some (((ET l x.Id l.length:Nat):Int),(!decide (x.State=0))||l.any (λy=>decide (y.Who=x.Who)&&decide (y.Thing=x.Thing))):=by
  have:((!decide (x.State=0))||(l.take 0).any (λy=>decide (y.Who=x.Who)&&decide (y.Thing=x.Thing)))=!decide (x.State=0):=by simp
  rw[this]at hs;exact hs
 have hk1:=aq l x.Id l.length;have hhi:=YW l x.Id l.length;have hlo:=ae l x.Id l.length;generalize ET l x.Id l.length=k1 at hs' hk1 hhi hlo;obtain⟨k2,hk2,hr,hf1,hf2⟩:=YC (n:=l.length) (λi=>decide ((gt l (i:Int)).Id<x.Id)) (step:=AY l x l)
  (λi hi=>by
   simp only[AY,Qy hi,Qs hi,QM (show(i:Int)<9223372036854775807 by omega),Qc,Qn,Qa]
   cases decide ((gt l (i:Int)).Id<x.Id)<;>rfl)
  (by simp only[AY,QP (Qg _),Qb];rfl)
 have A1:∀j (hj:j<l.length),k1≤j→¬l[j].Id<x.Id:=λj hj h=>by have:=hhi j h hj;rw[QC hj]at this;exact this
 have A2:∀(h:0<k1),(l[k1-1]'(by omega)).Id<x.Id:=λh=>by have:=hlo h;rw[QC (show k1-1<l.length by omega)]at this;exact this
 have B1:∀j (hj:j<l.length),j<k2→l[j].Id<x.Id:=λj hj h=>by have:=hf1 j h;simp only[QC hj,decide_eq_true_eq]at this;exact this
 have B2:∀(h:k2<l.length),¬l[k2].Id<x.Id:=λh=>by have:=hf2 h;simp only[QC h,decide_eq_false_iff_not]at this;exact this
 have hl1:=HL l k1 hk1 x;have hl2:=HL l k2 hk2 x;obtain⟨b,b1,b2,_⟩:=NQ (Vt l (k1:Int) [x]) (by omega)
 obtain⟨c,c1,c2,_⟩:=NQ (Vt l (k2:Int) [x]) (by omega)
 have hone:b=true∨c=true→k1=k2:=λh=>vH (λy:Claim=>y.Id) l k1 k2 hk1 hk2 x A1 A2 B1 B2 (by
  rcases h with rfl|rfl
  ·exact .inl (L7 _ (by omega) b1)
  ·exact .inr (L7 _ (by omega) c1))
 have hbc:b=c:=by
  cases hb:b with
  |true =>
   have:=hone (.inl hb);subst this;rw[b1,hb]at c1;exact Option.some.inj c1
  |false=>cases hc:c with
   |false=>rfl
   |true =>
    have:=hone (.inr hc);subst this;rw[c1,hc]at b1;rw[hb]at b1;cases b1
 have hi:=X3 l (λy=>decide (y.Who=x.Who)&&decide (y.Thing=x.Thing)) (λi=>(i:Int)) (step:=QX l x (ln l))
  (λi hi=>by
   simp only[QX,Ff,Qy hi,Qs hi,QC hi,QM (show(i:Int)<9223372036854775807 by omega),Qc,Qn,Qa]
   cases (decide (l[i].Who=x.Who)&&decide (l[i].Thing=x.Thing))<;>rfl)
  (by simp only[QX,QP (Qg _),Qb])
 have hc:Vd l x=some (l.any (λy=>decide (y.Who=x.Who)&&decide (y.Thing=x.Thing))):=by
  unfold Vd VS;rw[hi];cases hf:l.findIdx? (λy=>decide (y.Who=x.Who)&&decide (y.Thing=x.Thing))with
  |none =>
   have:l.any (λy=>decide (y.Who=x.Who)&&decide (y.Thing=x.Thing))=false:=by
    rw[List.any_eq_false];intro y hy;have:=List.findIdx?_eq_none_iff.1 hf y hy;simpa using this
   rw[this];rfl
  |some i =>
   obtain⟨hi',hp⟩:=B6 hf;rw[List.any_eq_true.2 ⟨_,List.getElem_mem hi',hp⟩];simp only[Qa,evO,Qf (show(0:Int)≤(i:Int)by omega)]
 have hrm:rm (0+l.length) 40=true:=Vp (by omega) (by omega)
 have hrm1:rm (0+(cut l 0 (k1:Int)).length) 40=true:=Vp (by rw[JK,List.length_take];omega) (by omega)
 have hrm2:rm ((cut l 0 (k1:Int)).length+1) 40=true:=Vp (by rw[JK,List.length_take];omega) (by omega)
 have hrm3:rm ((cut l 0 (k1:Int)).length+1+(cut l (k1:Int) (ln l)).length) 40=true:=Vp (by rw[JK,Hu,List.length_take,List.length_drop];omega) (by omega)
 have hspec:DF l x=some (bif ((!decide (x.State=0))||l.any (λy=>decide (y.Who=x.Who)&&decide (y.Thing=x.Thing)))||!b then(l,false)else(Vt l (k1:Int) [x],true)):=by
  unfold DF;simp only[hs',Qa];rw[show slB 0 (k1:Int) (ln l)=true from Kj hk1,show slB (k1:Int) (ln l) (ln l)=true from Pk hk1];simp only[Qn,hrm,hrm1,hrm2,hrm3,O3,b1,Qa];cases ((!decide (x.State=0))||l.any (λy=>decide (y.Who=x.Who)&&decide (y.Thing=x.Thing)))<;>cases b<;>rfl
 have hdup:∀j:Nat,∀hj:j<l.length,l[j].Id=x.Id→b=true→False:=λj hj he hb=>by
  subst hb;exact be (λy:Claim=>y.Id) l k1 hk1 x (L7 _ (by omega) b1) j hj he
 refine⟨_,hspec,?_,?_,?_⟩
 ·unfold E6 VO
  simp only[hrm,Qn,Qa,Oa l x.Id hl,hc,hr,Tx l k2 hk2 x 40 hl (by omega),c2]
  rw[←hbc];cases hb:b with
  |false =>
   cases decide (x.State=0)<;>cases decide (0≤DY l x.Id)<;>cases l.any (λy=>decide (y.Who=x.Who)&&decide (y.Thing=x.Thing))<;>rfl
  |true =>
   have hk:=hone (.inl hb)
   rcases G8 l x.Id with h|⟨j,hj,h,hid⟩
   ·rw[h,←hk]
    cases decide (x.State=0)<;>cases l.any (λy=>decide (y.Who=x.Who)&&decide (y.Thing=x.Thing))<;>rfl
   ·exact absurd hb (λhb=>hdup j hj hid hb)
 ·cases hb:b with
  |true =>
   subst hb;have:=(IT _ b1 (by omega)).1
   cases (((!decide (x.State=0))||l.any (λy=>decide (y.Who=x.Who)&&decide (y.Thing=x.Thing)))||!true)with
   |true=>exact hl
   |false=>show(Vt l (k1:Int) [x]).length≤_;omega
  |false=>rw[Qi,Bool.or_true];exact hl
 ·intro h
  have hb:b=true:=by
   cases hb:b with
   |true=>rfl
   |false=>rw[hb,Qi,Bool.or_true]at h;cases h
  have hq:(((!decide (x.State=0))||l.any (λy=>decide (y.Who=x.Who)&&decide (y.Thing=x.Thing)))||!b)=false:=by
   cases hq:(((!decide (x.State=0))||l.any (λy=>decide (y.Who=x.Who)&&decide (y.Thing=x.Thing)))||!b)with
   |false=>rfl
   |true=>rw[hq]at h;cases h
  rw[hq];refine⟨k1,hk1,rfl,?_,?_,A1⟩
  ·subst hb
   have hup:=L7 _ (by omega) b1
   have hlt:k1<(Vt l (k1:Int) [x]).length:=by omega
   have hx:(Vt l (k1:Int) [x])[k1]=x:=by
    have:=ja l k1 hk1 x;rw[List.getElem?_eq_getElem hlt]at this;exact Option.some.inj this
   obtain⟨j,hj,h1,h2⟩:=SE (Vt l (k1:Int) [x]) x.Id k1 hlt (by rw[hx])
   show DY (Vt l (k1:Int) [x]) x.Id=_;rw[h1];have hu:=lJ (n:=(Vt l (k1:Int) [x]).length) (λi=>(gt (Vt l (k1:Int) [x]) (i:Int)).Id) (λi h1 h2=>by
    show(gt (Vt l (k1:Int) [x]) ((i-1:Nat):Int)).Id<(gt (Vt l (k1:Int) [x]) (i:Int)).Id;rw[QC h1,QC (show i-1<(Vt l (k1:Int) [x]).length by omega)];exact hup i h1 h2)
   by_cases h3:j<k1
   ·have:=hu k1 j h3 hlt
    simp only[QC hj,QC hlt,h2,hx]at this;omega
   ·by_cases h4:k1<j
    ·have:=hu j k1 h4 hj
     simp only[QC hj,QC hlt,h2,hx]at this;omega
    ·congr 1;omega
  ·intro j hj hjk
   have hk:=hone (.inl hb);exact B1 j hj (by omega)
theorem Qbc(h out:House)(ok:Bool)(hm:Qu h)(hb:J7 h=false):QL h out ok=some (h,false):=by
 unfold QL;simp only[(Jy h hm).1,hb,X8 h hm,Qa];cases ok<;>rfl
theorem QiL(h out:House)(hm:Qu h):QL h out false=some (h,false):=by
 unfold QL;simp only[X8 h hm,Qa];rfl
theorem pF(h:House)(out:House)(hm:Qu h)(ho:Qu out):Dg h out=some (EQ h out true):=by
 unfold Dg EQ;have:Xi [] false=some false:=by rw[UQ [] (by simp)];rfl
 simp only[this,(Jy h hm).2,(Jy out ho).2,XD h hm,Qa];cases J7 h<;>cases J7 out<;>rfl
theorem oY(h:House)(m1:h.Finds.length≤1048576)(m2:h.Secrets.length≤1048576)(mm:∀x∈h.Secrets,x.Marks.length≤1048576)(m4:h.Claims.length≤1048576)(ht:XF h=some true):∀i (hi:i<h.Claims.length) (hi2:i<h.Trials.length),h.Trials[i].Claim=h.Claims[i].Id:=by
 have hlen:=NC h ht;unfold XF at ht;rw[show(!decide (ln h.Trials=ln h.Claims))=false from by rw[Q5,Q5,hlen];simp]at ht
 have hstep:∀i (hi:i<h.Claims.length) (hi2:i<h.Trials.length),∃o,Vw h h.Claims (ln h.Claims) (i:Int)=some o∧(o=.inl ((i+1:Nat):Int)∨o=.inr (.ret false))∧(o=.inl ((i+1:Nat):Int)→h.Trials[i].Claim=h.Claims[i].Id):=by
  intro i hi hi2;obtain⟨t,_,t2⟩:=Ub h.Trials[i];obtain⟨m,_,k2,k3⟩:=TJ h.Secrets h.Claims[i].Thing m2 mm;obtain⟨c,_,s2⟩:=Ko m h.Trials[i] k3;have hw:∃w,FB h.Claims[i].State=some w:=by
   unfold FB;cases decide (h.Claims[i].State=0)<;>cases decide (h.Claims[i].State=1)<;>cases decide (h.Claims[i].State=3)<;>cases decide (h.Claims[i].State=2)<;>exact⟨_,rfl⟩
  obtain⟨w,hw⟩:=hw;simp only[Vw,Qy hi,Qs hi,QC hi,Qs hi2,QC hi2,QM (show(i:Int)<9223372036854775807 by omega),Qc,Qn,t2,k2,s2,hw,(Xw h.Finds _ m1).2,Qa]
  by_cases hc:h.Trials[i].Claim=h.Claims[i].Id
  ·cases decide (Xh h.Finds h.Claims[i].Thing<0)<;>cases decide (h.Trials[i].Claim=h.Claims[i].Id)<;>cases t<;>cases decide (c=w)<;>first|exact⟨_,rfl,.inl rfl,λ_=>hc⟩|exact⟨_,rfl,.inr rfl,λ_=>hc⟩
  ·rw[Qe hc]
   cases decide (Xh h.Finds h.Claims[i].Thing<0)<;>cases t<;>exact⟨_,rfl,.inr rfl,λh=>by cases h⟩
 have key:∀(m i:Nat),i+m=h.Claims.length→run (Vw h h.Claims (ln h.Claims)) (i:Int)=some (.brk ())∨run (Vw h h.Claims (ln h.Claims)) (i:Int)=some (.ret false):=by
  intro m
  induction m with
  |zero =>
   intro i hi;have:i=h.Claims.length:=by omega
   subst this;left;rw[QS];simp only[Vw,QP (Qg _),Qb];rfl
  |succ m ih =>
   intro i hi;obtain⟨o,h1,h2,_⟩:=hstep i (by omega) (by omega)
   rw[QS,h1]
   rcases h2 with rfl|rfl
   ·exact ih (i+1) (by omega)
   ·exact .inr rfl
 have key2:∀(m i:Nat),i+m=h.Claims.length→run (Vw h h.Claims (ln h.Claims)) (i:Int)=some (.brk ())→∀j (hj:j<h.Claims.length) (hj2:j<h.Trials.length),i≤j→h.Trials[j].Claim=h.Claims[j].Id:=by
  intro m
  induction m with
  |zero=>intro i hi _ j hj _ hij;omega
  |succ m ih =>
   intro i hi hr j hj hj2 hij;obtain⟨o,h1,h2,h3⟩:=hstep i (by omega) (by omega)
   rw[QS,h1]at hr
   rcases h2 with rfl|rfl
   ·by_cases hij':i=j
    ·subst hij';exact h3 rfl
    ·exact ih (i+1) (by omega) hr j hj hj2 (by omega)
   ·simp at hr
 intro i hi hi2
 rcases key h.Claims.length 0 (by omega)with hr|hr
 ·exact key2 h.Claims.length 0 (by omega) hr i hi hi2 (by omega)
 ·rw[show run (Vw h h.Claims (ln h.Claims)) 0=some (.ret false)from hr]at ht
  cases ht
theorem oh(h:House)(a w t:Int)(hm:Qu h):∃r,ZG h a w t=some r∧Ct h a w t=some r∧Qu r.1:=by
 have hm7:=hm;obtain⟨m1,m2,m3,m4,m5,m6,m7⟩:=hm7;obtain⟨c,c1,c2,c3,c4⟩:=rF h.Claims ⟨a,w,t,h.Now,0⟩ m4;obtain⟨v,v1,v2⟩:=HI h.Slots t m3;obtain⟨k,hk,hr,hf1,hf2⟩:=YC (n:=h.Trials.length) (λi=>decide ((gt h.Trials (i:Int)).Claim<a)) (step:=ZZ a t h ⟨h.No,h.Finds,h.Secrets,h.Slots,c.1,h.Trials,h.Chain,h.Book,h.Now⟩ c.2)
  (λi hi=>by
   simp only[ZZ,Qy hi,Qs hi,QM (show(i:Int)<9223372036854775807 by omega),Qc,Qn,Qa]
   cases decide ((gt h.Trials (i:Int)).Claim<a)<;>rfl)
  (by simp only[ZZ,QP (Qg _),Qb];rfl)
 have hrm1:rm (cut h.Trials 0 (k:Int)).length 32=true:=Vp (by rw[JK,List.length_take];omega) (by omega)
 have hrm2:rm ((cut h.Trials 0 (k:Int)).length+1) 32=true:=Vp (by rw[JK,List.length_take];omega) (by omega)
 have hrm3:rm ((cut h.Trials 0 (k:Int)).length+1+(cut h.Trials (k:Int) (ln h.Trials)).length) 32=true:=Vp (by rw[JK,Hu,List.length_take,List.length_drop];omega) (by omega)
 have hspec:ZG h a w t=bif c.2 then(J2 h.Slots t).bind λr3=>QL h ⟨h.No,h.Finds,h.Secrets,h.Slots,c.1,Vt h.Trials (k:Int) [⟨a,0,0,0⟩],h.Chain,h.Book,h.Now⟩ (!decide (r3=0))else some (h,false):=by
  unfold ZG;simp only[X8 h hm,c1,Qa,hr];rw[show slB 0 (k:Int) (ln h.Trials)=true from Kj hk,show slB (k:Int) (ln h.Trials) (ln h.Trials)=true from Pk hk];simp only[Qn,hrm1,hrm2,hrm3,O3];cases c.2 with
  |false=>simp only[Qb,QiL h _ hm,Qa]
  |true =>
   simp only[Qc,TL h.Slots t m3,Qa];cases QL h ⟨h.No,h.Finds,h.Secrets,h.Slots,c.1,Vt h.Trials (k:Int) [⟨a,0,0,0⟩],h.Chain,h.Book,h.Now⟩ (!decide ((bif decide (t=0)||decide (CB h.Slots t<0)then(0:Int)else(gt h.Slots (CB h.Slots t)).Id)=0))<;>rfl
 rw[hspec];unfold Ct;simp only[XD h hm,c2,Qa,(Jy h hm).2,v1];cases hc:c.2 with
 |false=>exact⟨(h,false),rfl,rfl,hm⟩
 |true =>
  simp only[Qc,Qh,Qb,TL h.Slots t m3,Qa];cases hb:J7 h with
  |false =>
   rw[Qbc h _ _ hm hb];exact⟨(h,false),rfl,rfl,hm⟩
  |true =>
   have ho:=Mi h hm hb;have hcl:=IT _ ho.cS (by omega)
   have htl:=NC h ho.trials;obtain⟨k2,hk2,hins,hix,hlo,hhi⟩:=c4 hc;have hids:=oY h m1 m2.1 (λx hx=>m2.2 x hx) m4 ho.trials
   have hkk:k=k2:=by
    by_cases h1:k<k2
    ·have:=hf2 (by omega)
     simp only[QC (show k<h.Trials.length by omega),decide_eq_false_iff_not]at this
     rw[hids k (by omega) (by omega)]at this
     exact absurd (hlo k (by omega) h1) this
    ·by_cases h2:k2<k
     ·have:=hf1 k2 h2
      simp only[QC (show k2<h.Trials.length by omega),decide_eq_true_eq]at this
      rw[hids k2 (by omega) (by omega)]at this
      exact absurd this (hhi k2 (by omega) (Qg _))
     ·omega
   have hil:=HL h.Trials k hk (⟨a,0,0,0⟩:Trial);have wo:Qu ⟨h.No,h.Finds,h.Secrets,h.Slots,c.1,Vt h.Trials (k:Int) [⟨a,0,0,0⟩],h.Chain,h.Book,h.Now⟩:=⟨m1,m2,m3,c3,by show(Vt h.Trials (k:Int) [⟨a,0,0,0⟩]).length≤_;omega,m6,m7⟩
   have hslot:(!decide ((bif decide (t=0)||decide (CB h.Slots t<0)then(0:Int)else(gt h.Slots (CB h.Slots t)).Id)=0))=DP h.Slots t:=by
    unfold DP;cases decide (t=0)with
    |true=>rfl
    |false =>
     rcases Gh h.Slots t with⟨_,h2⟩|⟨j,hj,h2,_,_⟩
     ·rw[h2];rfl
     ·rw[h2]
      have hs2:1≤h.Slots[j].Id:=by
       obtain⟨q,q1,_,q3⟩:=OW h.Slots m3;rw[ho.tS]at q1;exact(q3 (Option.some.inj q1).symm).2 _ (List.getElem_mem hj)
      simp only[Bool.false_or,Qe (show ¬(j:Int)<0 by omega),Qb,QC hj,Qe (show ¬h.Slots[j].Id=0 by omega)]
   rw[hslot,FR h _ _ hm wo];refine⟨_,rfl,?_,Cu _ _ _ hm wo⟩;simp only[Qh,Qb,Qa,v2];cases DP h.Slots t with
   |false=>rfl
   |true =>
    simp only[Qh,Qb,Oa c.1 a c3,hix,Qa,←hkk,Tx h.Trials k hk (⟨a,0,0,0⟩:Trial) 32 m5 (by omega),Qn,pF h _ hm wo]
theorem qi(l:List Claim)(id s:Int)(hl:l.length≤1048576):∃r,EX l id s=some r∧Zz l id s=some r∧r.1.length=l.length:=by
 obtain⟨c,c1,c2,c3⟩:=G5 l hl;unfold EX Zz VO;have hrm:rm (0+l.length) 40=true:=Vp (by omega) (by omega)
 simp only[hrm,Qn,(Ey l id hl).1,(Ey l id hl).2,c1,c2,Qa]
 rcases G8 l id with h|⟨k,hk,h,hid⟩
 ·rw[h];exact⟨(l,false),rfl,rfl,rfl⟩
 ·rw[h,Qe (show ¬(k:Int)<0 by omega)]
  cases c with
  |false=>exact⟨(l,false),rfl,rfl,rfl⟩
  |true =>
   obtain⟨d,d1,d2,d3⟩:=G5 (l.set k ⟨l[k].Id,l[k].Who,l[k].Thing,l[k].At,s⟩) (by rw[List.length_set];omega)
   simp only[Qb,Qa,Qh,Qs hk,QC hk,Qn,Int.toNat_natCast,d1,d2];have hset:=List.length_set (as:=l) (i:=k) (a:=(⟨l[k].Id,l[k].Who,l[k].Thing,l[k].At,s⟩:Claim));cases decide (l[k].State=0)<;>cases decide (s=1)<;>cases decide (s=2)<;>cases decide (l[k].State=1)<;>cases decide (s=3)<;>cases d<;>first|exact⟨(l,false),rfl,rfl,rfl⟩|exact⟨(l.set k ⟨l[k].Id,l[k].Who,l[k].Thing,l[k].At,s⟩,true),rfl,rfl,hset⟩
theorem Qcb(x:Thing)(d:Int):∃c,Gx x d=some c∧GE x d=some c:=by
 unfold Gx GE;rw[show BK x=XM x from rfl];obtain⟨b,b1,_,_⟩:=Ps x;rw[b1];simp only[Qa,Qq,Qo];cases b with
 |false=>exact⟨0,rfl,rfl⟩
 |true =>
  cases hd:(decide (0≤d)&&decide (d≤1000))with
  |false=>exact⟨0,rfl,rfl⟩
  |true =>
   simp only[Bool.and_eq_true,decide_eq_true_eq]at hd;have hw:0≤x.Worth∧x.Worth≤10000000:=by
    unfold XM Qq at b1;simp only[Qa]at b1;revert b1;cases (decide (1≤x.Id)&&decide (x.Id≤999))<;>cases (decide (1≤x.Kind)&&decide (x.Kind≤8))<;>cases (decide (0≤x.Colour)&&decide (x.Colour≤7))<;>cases (decide (1≤x.Size)&&decide (x.Size≤50))<;>simp
   have ht0:=Int.tdiv_nonneg hw.1 (show(0:Int)≤10 by omega)
   have ht1:x.Worth.tdiv 10≤x.Worth:=by
    rw[Int.tdiv_eq_ediv_of_nonneg hw.1];omega
   simp only[Qh,Qb,Qa,Iw];rw[VA (show _≤10*d by omega) (by omega),VA (show _≤100+10*d by omega) (by omega),VA (show _≤x.Worth.tdiv 10 by omega) (by omega)]
   by_cases h:x.Worth.tdiv 10<100+10*d
   ·rw[Qf h,if_pos h]
    refine⟨_,rfl,?_⟩;by_cases h':0<x.Worth.tdiv 10
    ·rw[if_pos h']
    ·rw[if_neg h'];congr 1;omega
   ·rw[Qe h,if_neg h]
    refine⟨_,rfl,?_⟩;rw[if_pos (by omega)]
theorem pb(h:House)(t:Int)(hm:Qu h):∃r,Ba h t=some r∧Cv h t=some r∧Qu r.1:=by
 have hm7:=hm;obtain⟨m1,m2,m3,m4,m5,m6,m7⟩:=hm7;obtain⟨p,p1,p2,p3⟩:=Sz h.Claims t m4;obtain⟨w,w1,w2⟩:=HI h.Slots t m3;unfold Ba Cv CT;simp only[p1,p2,(Xw h.Finds t m1).1,(Xw h.Finds t m1).2,(Jy h hm).1,(Jy h hm).2,X8 h hm,XD h hm,w1,w2,Qa]
 rcases Sm h.Finds t with hx|⟨k,hk,hx⟩
 ·rw[hx]
  refine⟨(h,false),?_,?_,hm⟩
  ·cases decide (p=0)<;>rfl
  ·cases J7 h<;>rfl
 ·rw[hx,Qe (show ¬(k:Int)<0 by omega)]
  cases hb:J7 h with
  |false=>exact⟨(h,false),by cases decide (p=0)<;>rfl,rfl,hm⟩
  |true =>
   by_cases hp:p=0
   ·rw[Qf hp]
    refine⟨(h,false),rfl,?_,hm⟩;cases DP h.Slots t with
    |false=>rfl
    |true=>simp only[Qs hk,Qn];rfl
   ·rw[Qe hp]
    obtain⟨j,hj,hjd⟩:=p3.resolve_left hp;obtain⟨c,hc,hcx,hcid⟩:=SE h.Claims p j hj hjd;obtain⟨g,g1,g2,g3,g4,g5,g6,g7⟩:=bO h t 3 h.Claims[c].Who hm;obtain⟨s,s1,s2,s3⟩:=qi h.Claims p 3 m4;obtain⟨f,f1,f2⟩:=Qcb (h.Finds[k]).Thing (w64 ((w64 (h.Now-(h.Finds[k]).At)).tdiv 24));obtain⟨e,e1,e2,e3⟩:=cQ h.Book ⟨h.Claims[c].Who,0,f,h.Now⟩ m7;have hm7':=g3;obtain⟨n1,n2,n3,n4,n5,n6,n7⟩:=hm7';have o1:Qu ⟨g.1.No,g.1.Finds,g.1.Secrets,g.1.Slots,s.1,g.1.Trials,g.1.Chain,g.1.Book,g.1.Now⟩:=⟨n1,n2,n3,by show s.1.length≤_;omega,n5,n6,n7⟩
    have o2:Qu ⟨g.1.No,g.1.Finds,g.1.Secrets,g.1.Slots,s.1,g.1.Trials,g.1.Chain,e.1,g.1.Now⟩:=⟨n1,n2,n3,by show s.1.length≤_;omega,n5,n6,e3⟩
    have hpay:BM ⟨g.1.No,g.1.Finds,g.1.Secrets,g.1.Slots,s.1,g.1.Trials,g.1.Chain,g.1.Book,g.1.Now⟩ h.Claims[c].Who 0 f =
      some (bif decide (f=0)then(⟨g.1.No,g.1.Finds,g.1.Secrets,g.1.Slots,s.1,g.1.Trials,g.1.Chain,g.1.Book,g.1.Now⟩,true)else(⟨g.1.No,g.1.Finds,g.1.Secrets,g.1.Slots,s.1,g.1.Trials,g.1.Chain,e.1,g.1.Now⟩,e.2)):=by
     unfold BM;simp only[g5,g6,e1,Qa];cases decide (f=0)<;>rfl
    have hin:(bif DP h.Slots t then g.2 else false)=g.2:=by
     cases hi:DP h.Slots t with
     |true=>rfl
     |false=>rw[g4 hi];rfl
    simp only[Qb,Qh,Qa,(Ey h.Claims p m4).1,(Ey h.Claims p m4).2,hcx,Qs hc,QC hc,Qs hk,QC hk,Qn,g1,s1,f1,hpay];have hspec:∀b:Bool,(bif b then(bif s.2 then(QL h (bif decide (f=0)then(⟨g.1.No,g.1.Finds,g.1.Secrets,g.1.Slots,s.1,g.1.Trials,g.1.Chain,g.1.Book,g.1.Now⟩,true)else(⟨g.1.No,g.1.Finds,g.1.Secrets,g.1.Slots,s.1,g.1.Trials,g.1.Chain,e.1,g.1.Now⟩,e.2):House×Bool).1 (bif decide (f=0)then(⟨g.1.No,g.1.Finds,g.1.Secrets,g.1.Slots,s.1,g.1.Trials,g.1.Chain,g.1.Book,g.1.Now⟩,true)else(⟨g.1.No,g.1.Finds,g.1.Secrets,g.1.Slots,s.1,g.1.Trials,g.1.Chain,e.1,g.1.Now⟩,e.2):House×Bool).2).bind λr10=>some (r10.1,r10.2)else(QL h (bif decide (f=0)then(⟨g.1.No,g.1.Finds,g.1.Secrets,g.1.Slots,s.1,g.1.Trials,g.1.Chain,g.1.Book,g.1.Now⟩,true)else(⟨g.1.No,g.1.Finds,g.1.Secrets,g.1.Slots,s.1,g.1.Trials,g.1.Chain,e.1,g.1.Now⟩,e.2):House×Bool).1 false).bind λr11=>some (r11.1,r11.2))else(QL h (bif decide (f=0)then(⟨g.1.No,g.1.Finds,g.1.Secrets,g.1.Slots,s.1,g.1.Trials,g.1.Chain,g.1.Book,g.1.Now⟩,true)else(⟨g.1.No,g.1.Finds,g.1.Secrets,g.1.Slots,s.1,g.1.Trials,g.1.Chain,e.1,g.1.Now⟩,e.2):House×Bool).1 false).bind λr12=>some (r12.1,r12.2)) =
      some (bif decide (f=0)then EQ h ⟨g.1.No,g.1.Finds,g.1.Secrets,g.1.Slots,s.1,g.1.Trials,g.1.Chain,g.1.Book,g.1.Now⟩ (b&&s.2)else EQ h ⟨g.1.No,g.1.Finds,g.1.Secrets,g.1.Slots,s.1,g.1.Trials,g.1.Chain,e.1,g.1.Now⟩ (b&&(s.2&&e.2))):=by
     intro b;cases decide (f=0)with
     |true =>
      simp only[Qc,FR h _ _ hm o1,Qa];cases b<;>cases s.2<;>rfl
     |false =>
      simp only[Qb,FR h _ _ hm o2,Qa];cases b<;>cases s.2<;>rfl
    rw[hspec];refine⟨_,rfl,?_,?_⟩
    ·cases hi:DP h.Slots t with
     |false =>
      rw[g4 hi];simp only[Qi,Qa,Qc,Qi,Bool.true_or,Bool.false_and,HO];cases decide (f=0)<;>rfl
     |true =>
      simp only[Qh,Qa,Qb,Bool.or_false,Bool.false_or,Qe hp,(Ey h.Claims p m4).2,hcx,Qs hc,QC hc,Qs hk,QC hk,Qn,g2,s2,f2];cases hf:decide (f=0)with
      |true =>
       simp only[Qh,Qb,Qc,DW h _ _ hm o1 (show[g.2,s.2,true].length≤1048576 by simp),Qa,List.all_cons,List.all_nil,Bool.and_true,id_eq]
      |false =>
       simp only[Qi,Qb,Qc,e2,DW h _ _ hm o2 (show[g.2,s.2,e.2].length≤1048576 by simp),Qa,List.all_cons,List.all_nil,Bool.and_true,id_eq]
    ·cases decide (f=0)with
     |true=>exact Cu _ _ _ hm o1
     |false=>exact Cu _ _ _ hm o2
end Go.Proofs.YtoilkmgiofimjaaGreatDoor
