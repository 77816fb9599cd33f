import Derived.Test.YtonidbheohhgdaaGreatPz2
import Derived.Test.YtonidbheohhgdaaGreatPz3
namespace Go.Proofs.YtonidbheohhgdaaGreat
open Go
set_option linter.unusedVariables false
set_option linter.unusedSimpArgs false
theorem QlM(l:List Entry)(x:Entry)(hl:l.length≤1048576):∃r,ZI l x=some r∧Qay l x=some r∧r.1.length≤1048576:=by
 have hrm:rm (0+l.length) 32=true:=QR (by omega) (by omega)
 have hrm1:rm (l.length+1) 32=true:=QR (by omega) (by omega)
 obtain⟨b,b1,b2,b3⟩:=Qkb (l++[x]) (by simp;omega)
 unfold ZI Qay J6;simp only[hrm,hrm1,Qa,Option.bind_some,b1,b2];cases b with
 |false=>exact⟨(l,false),rfl,rfl,hl⟩
 |true=>exact⟨_,rfl,rfl,by have:=(b3 rfl).1;show(l++_).length≤_;omega⟩
end Go.Proofs.YtonidbheohhgdaaGreat
namespace Go.Proofs.YtonidbheohhgdaaGreat
open Go
set_option linter.unusedVariables false
set_option linter.unusedSimpArgs false
theorem Qxu(x:Bid):∃b,QhH x=some b∧((Qc x.Who 1 999).bind fun r=>(bif (!r)then some true else(Qc x.Cents 1 10000000).bind fun r2=>some (!r2)))=some (!b)∧(b=true→1≤x.Who∧1≤x.Cents∧x.Cents≤10000000):=by
 unfold QhH Qb Qc;simp only[Option.bind_some];cases h1:(decide (1≤x.Who)&&decide (x.Who≤999))with
 |false=>exact⟨false,rfl,rfl,fun h=>by cases h⟩
 |true =>
  cases h2:(decide (1≤x.Cents)&&decide (x.Cents≤10000000))with
  |false=>exact⟨false,rfl,rfl,fun h=>by cases h⟩
  |true =>
   simp only[Bool.and_eq_true,decide_eq_true_eq]at h1 h2;exact⟨true,rfl,rfl,fun _=>⟨h1.1,h2.1,h2.2⟩⟩
theorem Qkv(l:List Bid)(i:Nat)(hi:i<l.length)(hl:l.length≤1048576) :
  run (JC l (i:Int)) 0=some (bif (l.take i).any (fun y=>decide (y.Who=l[i].Who))then .ret false else .brk ()):=by
 have hlen:(l.take i).length=i:=by simp;omega
 exact Qfq (l.take i) (fun y=>decide (y.Who=l[i].Who)) (r:=false) (step:=JC l (i:Int))
  (fun k hk=>by
   rw[hlen]at hk;have hkl:k<l.length:=by omega
   have e:(l.take i)[k]'(by rw[hlen];exact hk)=l[k]:=by simp
   simp only[JC,e,show decide ((k:Int)<(i:Int))=true from decide_eq_true (by omega),Qe hi,Qn hi,Qe hkl,Qn hkl,Qy (show(k:Int)<9223372036854775807 by omega),cond_true,Qa]
   cases decide (l[k].Who=l[i].Who)<;>rfl)
  (by rw[hlen];simp only[JC,show decide ((i:Int)<(i:Int))=false from decide_eq_false (by omega),cond_false])
theorem Qks(p:List Bid)(x:Bid)(hp:p.length≤1048576):VL p x=some (p.any (fun y=>decide (y.Who=x.Who))):=by
 have hi:=XY p (fun y=>decide (y.Who=x.Who)) (fun i=>(i:Int)) (step:=Va p x (ln p))
  (fun i hi=>by
   simp only[Va,Qgb,Qr hi,Qe hi,Qn hi,Qy (show(i:Int)<9223372036854775807 by omega),cond_true,Qa,Option.bind_some]
   cases decide (p[i].Who=x.Who)<;>rfl)
  (by simp only[Va,Qv (Nat.le_refl _),cond_false])
 unfold VL JI;rw[hi];cases hf:p.findIdx? (fun y=>decide (y.Who=x.Who))with
 |none =>
  have:p.any (fun y=>decide (y.Who=x.Who))=false:=by
   rw[List.any_eq_false];intro y hy;have:=List.findIdx?_eq_none_iff.1 hf y hy;simpa using this
  rw[this];rfl
 |some i =>
  obtain⟨hi',hp'⟩:=QaZ hf;rw[List.any_eq_true.2 ⟨_,List.getElem_mem hi',hp'⟩];simp only[Option.bind_some,evO,decide_eq_true (show(0:Int)≤(i:Int)by omega)]
theorem QzT(l:List Bid)(hl:l.length≤1048576):∃b,Qds l=some b∧Qh4 l=some b∧(b=true→l.length≤20∧∀x∈l,1≤x.Who∧1≤x.Cents∧x.Cents≤10000000):=by
 obtain⟨b,h1,h2,h3⟩:=QaK (n:=l.length) (r:=false) (s1:=Jz l) (s2:=QbD l l (ln l)) (fun i hi _=>by
   obtain⟨b,q1,q2,_⟩:=Qxu l[i];have hsl:slB 0 (i:Int) (ln l)=true:=Qfi (by omega)
   simp only[Jz,QbD,Qr hi,Qe hi,Qn hi,Qy (show(i:Int)<9223372036854775807 by omega),cond_true,Qa,q1,q2,Option.bind_some,Qkv l i hi hl,Xx,hsl,Qks (l.take i) l[i] (by simp;omega)]
   cases b<;>cases (l.take i).any (fun y=>decide (y.Who=l[i].Who))<;>first|exact⟨true,rfl,rfl⟩|exact⟨false,rfl,rfl⟩)
  (by simp only[Jz,Qv (Nat.le_refl _),cond_false]) (by simp only[QbD,Qv (Nat.le_refl _),cond_false])
 refine⟨b&&decide ((l.length:Int)≤20),(Qaj _ h1).1,(Qaj _ h2).2,fun hb=>?_⟩
 simp only[Bool.and_eq_true,decide_eq_true_eq]at hb;refine⟨by omega,fun x hx=>?_⟩
 obtain⟨i,hi,rfl⟩:=List.getElem_of_mem hx;have hstep:=(h3 hb.1 i hi).1;obtain⟨c,q1,q2,q3⟩:=Qxu l[i];simp only[Jz,Qr hi,Qe hi,Qn hi,cond_true,Qa,q2,Option.bind_some]at hstep;cases c with
 |true=>exact q3 rfl
 |false=>simp at hstep
theorem QlW(l:List Bid):∀i,i≤l.length→∀x∈X7 l i,x∈l
 |0,_,x,hx=>by simp[X7]at hx
 |i+1,hi,x,hx=>by
  unfold X7 at hx;simp only[Vx,Int.toNat_natCast,List.mem_append,List.mem_singleton]at hx
  rcases hx with h|h|h
  ·exact QlW l i (by omega) x (List.mem_of_mem_take h)
  ·subst h;rw[Qn (show i<l.length by omega)];exact List.getElem_mem _
  ·exact QlW l i (by omega) x (List.mem_of_mem_drop h)
theorem QEP(l:List Bid)(hl:l.length≤1048576):∃r,QcU l=some r∧Qgu l=some r∧(r=(0,0)∨(1≤r.1∧1≤r.2∧r.2≤10000000)):=by
 obtain⟨b,b1,b2,b3⟩:=QzT l hl;unfold QcU Qgu;rw[b1,b2];simp only[Option.bind_some];by_cases h0:ln l=0
 ·rw[decide_eq_true h0];exact⟨(0,0),rfl,rfl,.inl rfl⟩
 ·rw[decide_eq_false h0]
  have hpos:1≤l.length:=by rw[VE]at h0;omega
  cases b with
  |false=>exact⟨(0,0),rfl,rfl,.inl rfl⟩
  |true =>
   obtain⟨h20,hall⟩:=b3 rfl;have hlen:=Qeo l l.length;have hmem:=QlW l l.length (Nat.le_refl _);have hi0:0<(X7 l l.length).length:=by omega
   have e0:inb (X7 l l.length) 0=true:=Qe hi0;have g0:gt (X7 l l.length) 0=(X7 l l.length)[0]:=Qn hi0;have p0:=hall _ (hmem _ (List.getElem_mem hi0));simp only[cond_false,Bool.not_true,Option.bind_some,Que l hl,Qrf l h20 hpos,e0,Qa,g0];by_cases h1:l.length=1
   ·rw[show decide (ln (X7 l l.length)=1)=true from decide_eq_true (by rw[VE,hlen,h1];rfl)]
    exact⟨_,rfl,rfl,.inr ⟨p0.1,by show(1:Int)≤1;omega,by show(1:Int)≤10000000;omega⟩⟩
   ·have hi1:1<(X7 l l.length).length:=by omega
    have e1:inb (X7 l l.length) 1=true:=Qe hi1;have g1:gt (X7 l l.length) 1=(X7 l l.length)[1]:=Qn hi1;have p1:=hall _ (hmem _ (List.getElem_mem hi1));rw[show decide (ln (X7 l l.length)=1)=false from decide_eq_false (by rw[VE,hlen];omega),e1,g1]
    exact⟨_,rfl,rfl,.inr ⟨p0.1,p1.2.1,p1.2.2⟩⟩
theorem Qo3(c:Int)(h0:0≤c)(h1:c≤10000000):∃a b,a≤c∧Qan c [1,9]=some [a,b]∧Qc4 c [1,9]=some [a,b]:=by
 have t1:(c*1).tdiv 10=c / 10:=by rw[Int.mul_one,Int.tdiv_eq_ediv_of_nonneg h0]
 have t9:(c*9).tdiv 10=c*9 / 10:=Int.tdiv_eq_ediv_of_nonneg (by omega)
 have hb1:=Int.ediv_nonneg h0 (show(0:Int)≤10 by omega)
 have s4:run (X2 c [1,9] []) (0,0)=some (.brk 10):=by
  rw[Qg];show run (X2 c [1,9] []) (1,1)=_;rw[Qg];show run (X2 c [1,9] []) (10,2)=_;rw[Qg];rfl
 have i6:run (Qai c [1,9] [] [1,9] (ln ([1,9]:List Int))) (0,0)=some (.brk 10):=by
  rw[Qg];show run (Qai c [1,9] [] [1,9] (ln ([1,9]:List Int))) (1,1)=_;rw[Qg];show run (Qai c [1,9] [] [1,9] (ln ([1,9]:List Int))) (10,2)=_;rw[Qg];rfl
 have w1:w64 ((w64 (c*1)).tdiv 10)=c / 10:=by rw[QS (n:=c*1) (by omega) (by omega),t1,QS]<;>omega
 have w9:w64 ((w64 (c*9)).tdiv 10)=c*9 / 10:=by rw[QS (n:=c*9) (by omega) (by omega),t9,QS]<;>omega
 have s13:run (VX c [1,9] 10) ([],c,0)=some ([c / 10,c*9 / 10],c-c / 10-c*9 / 10):=by
  rw[Qg];simp only[VX,show decide ((0:Int)<ln ([1,9]:List Int))=true from rfl,show inb ([1,9]:List Int) 0=true from rfl,show(!decide ((10:Int)=0))=true from rfl,show gt ([1,9]:List Int) 0=1 from rfl,List.nil_append,w1,cond_true,Qa,QR (show([]:List Int).length+1≤2000000 by simp) (show 8≤1024 by omega),show inb ([c / 10]:List Int) 0=true from rfl,show gt ([c / 10]:List Int) 0=c / 10 from rfl,show w64 (0+1)=1 from rfl,Option.bind_some]
  rw[Qg];simp only[VX,show decide ((1:Int)<ln ([1,9]:List Int))=true from rfl,show inb ([1,9]:List Int) 1=true from rfl,show(!decide ((10:Int)=0))=true from rfl,show gt ([1,9]:List Int) 1=9 from rfl,w9,cond_true,Qa,QR (show([c / 10]:List Int).length+1≤2000000 by simp) (show 8≤1024 by omega),show([c / 10]++[c*9 / 10]:List Int)=[c / 10,c*9 / 10]from rfl,show inb ([c / 10,c*9 / 10]:List Int) 1=true from rfl,show gt ([c / 10,c*9 / 10]:List Int) 1=c*9 / 10 from rfl,show w64 (1+1)=2 from rfl,Option.bind_some]
  rw[Qg];simp only[VX,show decide ((2:Int)<ln ([1,9]:List Int))=false from rfl,cond_false,Option.bind_some];rw[QS (n:=c-c / 10) (by omega) (by omega),QS (by omega) (by omega)]
 have i16:run (JH c 10 [1,9] (ln ([1,9]:List Int))) ([],c,0)=some ([c / 10,c*9 / 10],c-c / 10-c*9 / 10):=by
  rw[Qg];simp only[JH,show decide ((0:Int)<ln ([1,9]:List Int))=true from rfl,show inb ([1,9]:List Int) 0=true from rfl,show(!decide ((10:Int)=0))=true from rfl,show gt ([1,9]:List Int) 0=1 from rfl,List.nil_append,w1,cond_true,Qa,QR (show([]:List Int).length+1≤2000000 by simp) (show 8≤1024 by omega),show w64 (0+1)=1 from rfl,Option.bind_some]
  rw[Qg];simp only[JH,show decide ((1:Int)<ln ([1,9]:List Int))=true from rfl,show inb ([1,9]:List Int) 1=true from rfl,show(!decide ((10:Int)=0))=true from rfl,show gt ([1,9]:List Int) 1=9 from rfl,w9,cond_true,Qa,QR (show([c / 10]:List Int).length+1≤2000000 by simp) (show 8≤1024 by omega),show([c / 10]++[c*9 / 10]:List Int)=[c / 10,c*9 / 10]from rfl,show w64 (1+1)=2 from rfl,Option.bind_some]
  rw[Qg];simp only[JH,show decide ((2:Int)<ln ([1,9]:List Int))=false from rfl,cond_false,Option.bind_some];rw[QS (n:=c-c / 10) (by omega) (by omega),QS (by omega) (by omega)]
 have hin1:(decide (0≤c)&&decide (c≤10000000))=true:=by rw[decide_eq_true h0,decide_eq_true h1];rfl
 have hleft:c-c / 10-c*9 / 10=0∨c-c / 10-c*9 / 10=1:=by omega
 refine⟨c / 10+(c-c / 10-c*9 / 10),c*9 / 10,by omega,?_,?_⟩
 ·unfold Qan Qc
  simp only[s4,evO,Option.bind_some,hin1,Bool.not_true,cond_false,show(decide ((1:Int)≤ln ([1,9]:List Int))&&decide (ln ([1,9]:List Int)≤20))=true from rfl,show decide ((10:Int)=0)=false from rfl,Bool.or_self,s13]
  rcases hleft with h|h
  ·rw[h,Qg]
   simp only[XI,show decide ((0:Int)<0)=false from rfl,cond_false,Option.bind_some,Int.add_zero]
  ·rw[h,Qg]
   simp only[XI,show decide ((0:Int)<1)=true from rfl,cond_true,show inb ([c / 10,c*9 / 10]:List Int) 0=true from rfl,Qa,show gt ([c / 10,c*9 / 10]:List Int) 0=c / 10 from rfl,Option.bind_some,show w64 (0+1)=1 from rfl];rw[Qg];simp only[XI,show decide ((1:Int)<1)=false from rfl,cond_false,Option.bind_some];rw[QS (by omega) (by omega)];rfl
 ·unfold Qc4 Qb
  simp only[i6,evO,Option.bind_some,hin1,Bool.not_true,cond_false,show(decide ((1:Int)≤ln ([1,9]:List Int))&&decide (ln ([1,9]:List Int)≤20))=true from rfl,show decide ((10:Int)=0)=false from rfl,i16]
  rcases hleft with h|h
  ·rw[h,Qg]
   simp only[ZP,show decide ((0:Int)<0)=false from rfl,cond_false,Option.bind_some,Int.add_zero]
  ·rw[h,Qg]
   simp only[ZP,show decide ((0:Int)<1)=true from rfl,cond_true,show inb ([c / 10,c*9 / 10]:List Int) 0=true from rfl,Qa,show gt ([c / 10,c*9 / 10]:List Int) 0=c / 10 from rfl,show(!decide (ln (([c / 10,c*9 / 10]:List Int).set (0:Int).toNat (w64 (c / 10+1)))=0))=true from rfl,Option.bind_some,show w64 (1-1)=0 from rfl];rw[Qg];simp only[ZP,show decide ((0:Int)<0)=false from rfl,cond_false,Option.bind_some];rw[QS (by omega) (by omega)];rfl
theorem QvG(p f:Int)(h0:0≤p)(h1:p≤10000000):∃s,Qa4 p f=some s∧Qdq p f=some s∧((¬(1≤f∧f≤999)∧s=[⟨0,p⟩])∨(1≤f∧∃a b,a≤p∧s=[⟨f,a⟩,⟨0,b⟩])):=by
 obtain⟨a,b,hab,s1,s2⟩:=Qo3 p h0 h1;unfold Qa4 Qdq Qc Qb;simp only[Option.bind_some,decide_eq_true h0,decide_eq_true h1,Bool.and_self,Bool.not_true,cond_false,s1,s2,show inb ([a,b]:List Int) 0=true from rfl,show inb ([a,b]:List Int) 1=true from rfl,Qa,show gt ([a,b]:List Int) 0=a from rfl,show gt ([a,b]:List Int) 1=b from rfl];by_cases hf:1≤f∧f≤999
 ·rw[decide_eq_true hf.1,decide_eq_true hf.2]
  exact⟨_,rfl,rfl,.inr ⟨hf.1,a,b,hab,rfl⟩⟩
 ·rw[show(decide (1≤f)&&decide (f≤999))=false from by rw[Bool.eq_false_iff];simpa using fun h=>by omega]
  exact⟨_,rfl,rfl,.inl ⟨hf,rfl⟩⟩
theorem QAw(p f:Int)(h0:0≤p)(h1:p≤10000000):∃s,Qa4 p f=some s∧Qdq p f=some s∧((¬(1≤f∧f≤999)∧s=[⟨0,p⟩])∨(1≤f∧∃a b,s=[⟨f,a⟩,⟨0,b⟩])):=by
 obtain⟨s,s1,s2,s3⟩:=QvG p f h0 h1;refine⟨s,s1,s2,?_⟩
 rcases s3 with h|⟨h,a,b,_,e⟩
 ·exact .inl h
 ·exact .inr ⟨h,a,b,e⟩
end Go.Proofs.YtonidbheohhgdaaGreat
namespace Go.Proofs.YtonidbheohhgdaaGreat
open Go
set_option linter.unusedVariables false
set_option linter.unusedSimpArgs false
theorem QaF(h out:House)(done:List Bool)(hm:Qi h)(ho:Qi out)(hd:done.length≤1048576):VK h out done=some (Qbc h out (done.all id)):=by
 unfold VK Qbc;simp only[(Xp h hm).2,(Xp out ho).2,Jw h hm,Qk7 done hd,Option.bind_some];cases done.all id<;>cases XT h<;>cases XT out<;>rfl
end Go.Proofs.YtonidbheohhgdaaGreat
namespace Go.Proofs.YtonidbheohhgdaaGreat
open Go
set_option linter.unusedVariables false
set_option linter.unusedSimpArgs false
theorem Qua(l:List Find)(hl:l.length≤1048576)(h:V1 l=some true):∀i (hi:i<l.length),0≤l[i].Finder∧l[i].Finder≤999:=by
 have hb:∀f:Find,Xk f=some true→0≤f.Finder∧f.Finder≤999:=by
  intro f hf;obtain⟨b,b1,_,_⟩:=Qi7 f.Thing;unfold Xk Qc at hf;rw[b1]at hf;simp only[Option.bind_some]at hf;revert hf;cases b<;>cases (decide (1≤f.Place)&&decide (f.Place≤30))<;>cases (decide (0≤f.At)&&decide (f.At≤100000))<;>simp
 intro i hi;obtain⟨b,h1,h2,h3⟩:=QaK (n:=l.length) (r:=false) (s1:=QU l) (s2:=QU l) (fun i hi _=>by
   obtain⟨b,q1,q2,_⟩:=Qdp l[i];simp only[QU,Qr hi,Qe hi,Qn hi,Qy (show(i:Int)<9223372036854775807 by omega),cond_true,Qa,q1,Option.bind_some]
   by_cases h0:0<i
   ·simp only[show decide (0<(i:Int))=true from decide_eq_true (by omega),XX h0 (by omega),Qe (show i-1<l.length by omega),cond_true,Qa]
    cases b<;>cases decide (l[i].Thing.Id≤(gt l ((i-1:Nat):Int)).Thing.Id)<;>first|exact⟨true,rfl,rfl⟩|exact⟨false,rfl,rfl⟩
   ·simp only[show decide (0<(i:Int))=false from decide_eq_false (by omega),cond_false]
    cases b<;>first|exact⟨true,rfl,rfl⟩|exact⟨false,rfl,rfl⟩)
  (by simp only[QU,Qv (Nat.le_refl _),cond_false]) (by simp only[QU,Qv (Nat.le_refl _),cond_false])
 have he:=(Qaj (n:=l.length) (k:=20) _ h1).1;have hb':b=true:=by
  unfold V1 at h;rw[show(ln l:Int)=(l.length:Int)from rfl]at h;rw[he]at h;simp at h;exact h.1
 have hstep:=(h3 hb' i hi).1;obtain⟨c,q1,q2,q3⟩:=Qdp l[i];simp only[QU,Qr hi,Qe hi,Qn hi,cond_true,Qa,q1,Option.bind_some]at hstep;cases c with
 |true=>exact hb _ q1
 |false=>simp at hstep
theorem pay(h:House)(a b c:Int)(hm:Qi h):∃r,ZI h.Book ⟨a,b,c,h.Now⟩=some r∧Qay h.Book ⟨a,b,c,h.Now⟩=some r∧r.1.length≤1048576 ∧
  ZB h a b c=some (bif decide (c=0)then(h,true)else(⟨h.No,h.Finds,h.Secrets,h.Slots,h.Claims,h.Trials,h.Chain,r.1,h.Now⟩,r.2)):=by
 obtain⟨r,r1,r2,r3⟩:=QlM h.Book ⟨a,b,c,h.Now⟩ hm.2.2.2.2.2.2;refine⟨r,r1,r2,r3,?_⟩;unfold ZB;rw[r1];cases decide (c=0)<;>rfl
theorem Qk6(h x:House)(b:Bool)(hm:Qi h)(hx:Qi x):((Qk h x b).bind fun r=>some (r.1,r.2))=some (Qbc h x b):=by
 rw[Qci h x b hm hx];rfl
theorem QyA(h:House)(t:Int)(l:List Bid)(hm:Qi h)(hl:l.length≤1048576):∃r,ZM h t l=some r∧Qes h t l=some r∧Qi r.1:=by
 have hm7:=hm;obtain⟨m1,m2,m3,m4,m5,m6,m7⟩:=hm7;obtain⟨w,w1,w2⟩:=Qc2 h.Slots t m3;obtain⟨⟨who,price⟩,p1,p2,p3⟩:=QEP l hl;unfold ZM Qes QbS;simp only[p1,p2,(Jr h.Finds t m1).1,(Jr h.Finds t m1).2,(Xp h hm).1,(Xp h hm).2,XA h hm,Jw h hm,w1,w2,Option.bind_some]
 rcases Qjy h.Finds t with hx|⟨k,hk,hx⟩
 ·rw[hx]
  refine⟨(h,false),rfl,?_,hm⟩;cases XT h<;>rfl
 ·rw[hx,decide_eq_false (show ¬(k:Int)<0 by omega)]
  rcases p3 with p3|⟨q1,q2,q3⟩
  ·injection p3 with e1 e2
   subst e1 e2;refine⟨(h,false),rfl,?_,hm⟩;cases XT h with
   |false=>rfl
   |true =>
    cases Zg h.Slots t with
    |false=>rfl
    |true=>simp only[Qe hk,Qa];rfl
  ·simp only at q1 q2 q3
   rw[show decide (who=0)=false from decide_eq_false (by omega)]
   cases hb:XT h with
   |false=>exact⟨(h,false),rfl,rfl,hm⟩
   |true =>
    have ho:=QgB h hm hb;obtain⟨f,f1,f2⟩:=Qxm h.Finds[k] h.Claims h.Now m4;have hfin:=Qua h.Finds m1 ho.fS k hk;obtain⟨g,g1,g2,g3,g4,g5,g6,g7⟩:=Qot h t 4 who hm;simp only[cond_false,Bool.not_true,Option.bind_some,Qe hk,Qn hk,Qa,f1];by_cases hf:f=3
    ·subst hf
     obtain⟨s,s1,s2,s3⟩:=QAw price h.Finds[k].Finder (by omega) (by omega)
     obtain⟨e,e1,e2,e3,e4⟩:=pay g.1 who 0 price g3;rw[g5,g6]at e1 e2;have hpr:decide (price=0)=false:=decide_eq_false (by omega)
     rw[hpr]at e4;have n:=g3;obtain⟨n1,n2,n3,n4,n5,n6,n7⟩:=n;have o1:Qi ⟨g.1.No,g.1.Finds,g.1.Secrets,g.1.Slots,g.1.Claims,g.1.Trials,g.1.Chain,e.1,g.1.Now⟩:=⟨n1,n2,n3,n4,n5,n6,e3⟩;simp only[decide_true,Bool.not_true,cond_false,g1,e4,s1,Option.bind_some]
     rcases s3 with⟨hno,rfl⟩|⟨hyes,a,b,rfl⟩
     ·have hf0:h.Finds[k].Finder=0:=by omega
      have hspec:(bif decide (ln ([⟨0,price⟩]:List Share)=2)then(none:Option (House×Bool))else some (h,false))=some (h,false):=rfl;simp only[show decide (ln ([⟨0,price⟩]:List Share)=2)=false from rfl,cond_false,Qk6 h _ _ hm o1];refine⟨Qbc h ⟨g.1.No,g.1.Finds,g.1.Secrets,g.1.Slots,g.1.Claims,g.1.Trials,g.1.Chain,e.1,g.1.Now⟩ (g.2&&e.2),?_,?_,Z1 _ _ _ hm o1⟩
      ·cases g.2<;>rfl
      ·cases hi:Zg h.Slots t with
       |false=>rw[g4 hi];rfl
       |true =>
        simp only[Bool.not_true,cond_false,Qe hk,Qn hk,Qa,f2,Option.bind_some,decide_true,Bool.not_true,g2,e2,s2,show decide (h.Finds[k].Finder=0)=true from decide_eq_true hf0];cases e.2<;>simp only[cond_true,cond_false,Bool.not_true,Option.bind_some,QaF h _ _ hm o1 (show[g.2,true,true].length≤1048576 by simp),QaF h _ _ hm o1 (show[g.2,false,true].length≤1048576 by simp),List.all_cons,List.all_nil,Bool.and_true,id_eq]
     ·have hf0:decide (h.Finds[k].Finder=0)=false:=decide_eq_false (by omega)
      obtain⟨d,d1,d2,d3,d4⟩:=pay ⟨g.1.No,g.1.Finds,g.1.Secrets,g.1.Slots,g.1.Claims,g.1.Trials,g.1.Chain,e.1,g.1.Now⟩ 0 h.Finds[k].Finder a o1;simp only[g6]at d1 d2;have o2:Qi ⟨g.1.No,g.1.Finds,g.1.Secrets,g.1.Slots,g.1.Claims,g.1.Trials,g.1.Chain,d.1,g.1.Now⟩:=⟨n1,n2,n3,n4,n5,n6,d3⟩;simp only[show decide (ln ([⟨h.Finds[k].Finder,a⟩,⟨0,b⟩]:List Share)=2)=true from rfl,cond_true,show inb ([⟨h.Finds[k].Finder,a⟩,⟨0,b⟩]:List Share) 0=true from rfl,Qa,show gt ([⟨h.Finds[k].Finder,a⟩,⟨0,b⟩]:List Share) 0=⟨h.Finds[k].Finder,a⟩from rfl,d4,Option.bind_some];refine⟨bif decide (a=0)then Qbc h ⟨g.1.No,g.1.Finds,g.1.Secrets,g.1.Slots,g.1.Claims,g.1.Trials,g.1.Chain,e.1,g.1.Now⟩ (g.2&&e.2)else Qbc h ⟨g.1.No,g.1.Finds,g.1.Secrets,g.1.Slots,g.1.Claims,g.1.Trials,g.1.Chain,d.1,g.1.Now⟩ (g.2&&(e.2&&d.2)),?_,?_,?_⟩
      ·cases decide (a=0)with
       |true=>simp only[cond_true,Qk6 h _ _ hm o1];cases g.2<;>cases e.2<;>rfl
       |false=>simp only[cond_false,Qk6 h _ _ hm o2];cases g.2<;>cases e.2<;>rfl
      ·cases hi:Zg h.Slots t with
       |false =>
        rw[g4 hi];simp only[Bool.not_false,Bool.false_and,Qd3];cases decide (a=0)<;>rfl
       |true =>
        simp only[Bool.not_true,cond_false,Qe hk,Qn hk,Qa,f2,Option.bind_some,decide_true,Bool.not_true,g2,e2,s2,hf0,Bool.not_false,show inb ([⟨h.Finds[k].Finder,a⟩,⟨0,b⟩]:List Share) 0=true from rfl,show gt ([⟨h.Finds[k].Finder,a⟩,⟨0,b⟩]:List Share) 0=⟨h.Finds[k].Finder,a⟩from rfl,cond_true];cases he:e.2 with
        |false =>
         simp only[cond_false,Option.bind_some,QaF h _ _ hm o1 (show[g.2,false,true].length≤1048576 by simp),List.all_cons,List.all_nil,Bool.and_true,id_eq,Bool.false_and,Bool.and_false,Qd3]
         cases decide (a=0)<;>rfl
        |true =>
         cases ha:decide (a=0)with
         |true=>simp only[cond_true,cond_false,Bool.not_true,Option.bind_some,QaF h _ _ hm o1 (show[g.2,true,true].length≤1048576 by simp),List.all_cons,List.all_nil,Bool.and_true,id_eq]
         |false=>simp only[cond_true,cond_false,Bool.not_false,Option.bind_some,d2,QaF h _ _ hm o2 (show[g.2,true,d.2].length≤1048576 by simp),List.all_cons,List.all_nil,Bool.and_true,Bool.true_and,id_eq]
      ·cases decide (a=0)with
       |true=>exact Z1 _ _ _ hm o1
       |false=>exact Z1 _ _ _ hm o2
    ·simp only[decide_eq_false hf,Bool.not_false,cond_true]
     refine⟨(h,false),rfl,?_,hm⟩;cases Zg h.Slots t with
     |false=>rfl
     |true=>simp only[Bool.not_true,cond_false,Qe hk,Qn hk,Qa,f2,Option.bind_some,decide_eq_false hf,Bool.not_false,cond_true]
end Go.Proofs.YtonidbheohhgdaaGreat
namespace Go.Proofs.YtonidbheohhgdaaGreat
open Go
set_option linter.unusedVariables false
set_option linter.unusedSimpArgs false
theorem Qrs(l:List Find)(id:Int):Zf l id=-1∨∃k:Nat,∃hk:k<l.length,Zf l id=(k:Int)∧l[k].Thing.Id=id:=by
 unfold Zf;cases hf:l.findIdx? (fun x=>decide (x.Thing.Id=id))with
 |none=>exact .inl rfl
 |some i =>
  obtain⟨hi,hp⟩:=QaZ hf;exact .inr ⟨i,hi,rfl,by simpa using hp⟩
theorem Qy8(l:List Find)(f:Find)(hl:l.length≤1048576):∃r,QaW l f=some r∧Qfe l f=some r∧r.1.length≤1048576:=by
 obtain⟨k,hk,hr⟩:=QtH (n:=l.length) (fun i=>decide ((gt l (i:Int)).Thing.Id<f.Thing.Id)) (step:=Zm l f)
  (fun i hi=>by
   simp only[Zm,Qr hi,Qe hi,Qy (show(i:Int)<9223372036854775807 by omega),cond_true,Qa,Option.bind_some]
   cases decide ((gt l (i:Int)).Thing.Id<f.Thing.Id)<;>rfl)
  (by simp only[Zm,Qv (Nat.le_refl _),cond_false];rfl)
 have hr2:run (QfA l f l) 0=some (k:Int):=hr;have hlen:=Qek l k hk f;obtain⟨b,b1,b2,b3⟩:=QgC (Vx l (k:Int) [f]) (by omega)
 have hrm:rm (0+l.length) 64=true:=QR (by omega) (by omega)
 have hrm1:rm (0+(cut l 0 (k:Int)).length) 64=true:=QR (by rw[Xx,List.length_take];omega) (by omega)
 have hrm2:rm ((cut l 0 (k:Int)).length+1) 64=true:=QR (by rw[Xx,List.length_take];omega) (by omega)
 have hrm3:rm ((cut l 0 (k:Int)).length+1+(cut l (k:Int) (ln l)).length) 64=true:=QR (by rw[Xx,QdG,List.length_take,List.length_drop];omega) (by omega)
 have hs:QaW l f=some (bif b then(Vx l (k:Int) [f],true)else(l,false)):=by
  unfold QaW;simp only[hr,VE,Qfi hk,Qjg hk,Option.bind_some,Qa];rw[←VE];simp only[hrm1,hrm2,hrm3,hrm,QiF,b1,Qa,Option.bind_some];cases b<;>rfl
 refine⟨_,hs,?_,?_⟩
 ·unfold Qfe Zu
  simp only[hrm,Qa,Option.bind_some,(Jr l f.Thing.Id hl).2,hr2,QkR l k hk f 64 hl (by omega),b2]
  rcases Qrs l f.Thing.Id with h|⟨j,hj,h,hid⟩
  ·rw[h];cases b<;>rfl
  ·rw[h,decide_eq_true (show(0:Int)≤(j:Int)by omega)]
   cases b with
   |false=>rfl
   |true=>exact absurd (Qn8 (fun x:Find=>x.Thing.Id) l k hk f (b3 rfl).2.2 j hj hid) id
 ·cases b with
  |false=>exact hl
  |true=>have:=(b3 rfl).1;show(Vx l (k:Int) [f]).length≤_;omega
theorem Qwd(l:List Secret)(t:Int)(hl:l.length≤1048576):QaC l t=some (-1)∨∃k:Nat,∃hk:k<l.length,QaC l t=some (k:Int)∧l[k].Thing=t:=by
 have hi:=XY l (fun x=>decide (x.Thing=t)) (fun i=>(i:Int)) (step:=Qq l t (ln l))
  (fun i hi=>by
   simp only[Qq,Qdc,Option.bind_some,Qr hi,Qe hi,Qn hi,Qy (show(i:Int)<9223372036854775807 by omega),cond_true,Qa]
   cases decide (l[i].Thing=t)<;>rfl)
  (by simp only[Qq,Qv (Nat.le_refl _),cond_false])
 unfold QaC VJ;rw[hi];cases hf:l.findIdx? (fun x=>decide (x.Thing=t))with
 |none=>exact .inl rfl
 |some i =>
  obtain⟨hi',hp⟩:=QaZ hf;exact .inr ⟨i,hi',rfl,by simpa using hp⟩
theorem QwN{α:Type}{sm:α→Prop}{l:List α}(h:smL sm l)(k:Nat):smL sm (l.take k):=⟨by have:=h.1;rw[List.length_take];omega,fun x hx=>h.2 x (List.mem_of_mem_take hx)⟩
theorem Qwl{α:Type}{sm:α→Prop}{l:List α}(h:smL sm l)(k:Nat):smL sm (l.drop k):=⟨by have:=h.1;rw[List.length_drop];omega,fun x hx=>h.2 x (List.mem_of_mem_drop hx)⟩
theorem Qvo(l:List Secret)(x:Secret)(hm:smL QcL l)(hx:x.Marks.length≤1048576):∃r,ZY l x=some r∧QdR l x=some r∧smL QcL r.1:=by
 have hl:=hm.1;obtain⟨k,hk,hr⟩:=QtH (n:=l.length) (fun i=>decide ((gt l (i:Int)).Thing<x.Thing)) (step:=Jp l x)
  (fun i hi=>by
   simp only[Jp,Qr hi,Qe hi,Qy (show(i:Int)<9223372036854775807 by omega),cond_true,Qa,Option.bind_some]
   cases decide ((gt l (i:Int)).Thing<x.Thing)<;>rfl)
  (by simp only[Jp,Qv (Nat.le_refl _),cond_false];rfl)
 have hr2:run (Qd5 l x l) 0=some (k:Int):=hr;have hlen:=Qek l k hk x;have hmem:∀y∈Vx l (k:Int) [x],QcL y:=by
  intro y hy;simp only[Vx,Int.toNat_natCast,List.singleton_append,List.mem_append,List.mem_cons]at hy
  rcases hy with h|h|h
  ·exact hm.2 y (List.mem_of_mem_take h)
  ·subst h;exact hx
  ·exact hm.2 y (List.mem_of_mem_drop h)
 obtain⟨b,b1,b2,b3⟩:=Qki (Vx l (k:Int) [x]) (by omega) hmem
 have hrm1:rm ((cut l 0 (k:Int)).length+[x].length) 40=true:=QR (by rw[Xx,List.length_take];simp;omega) (by omega)
 have hrm3:rm ((cut l 0 (k:Int)).length+[x].length+(cut l (k:Int) (ln l)).length) 40=true:=QR (by rw[Xx,QdG,List.length_take,List.length_drop];simp;omega) (by omega)
 have c1:V4 (cut l 0 (k:Int))=some (cut l 0 (k:Int)):=by rw[Xx];exact QiH _ (QwN hm k)
 have c2:V4 (cut l (k:Int) (ln l))=some (cut l (k:Int) (ln l)):=by rw[QdG];exact QiH _ (Qwl hm k)
 have c3:V4 [x]=some [x]:=QiH _ ⟨by simp,fun y hy=>by simp at hy;subst hy;exact hx⟩
 have hs:ZY l x=some (bif b then(Vx l (k:Int) [x],true)else(l,false)):=by
  unfold ZY;simp only[hr,Option.bind_some];rw[show slB 0 (k:Int) (ln l)=true from Qfi hk,show slB (k:Int) (ln l) (ln l)=true from Qjg hk];simp only[Qa,c1,c2,c3,hrm1,hrm3,QiF,b1,QiH l hm,Option.bind_some];cases b<;>rfl
 refine⟨_,hs,?_,?_⟩
 ·unfold QdR Jq
  simp only[Qix l hm,Option.bind_some,hr2,QR (show 0+x.Marks.length≤2000000 by omega) (show 16≤1024 by omega),Qa,show(⟨x.Thing,x.Marks,x.Salt⟩:Secret)=x from rfl,QkR l k hk x 40 hl (by omega),b2]
  rcases Qwd l x.Thing hl with h|⟨j,hj,h,hid⟩
  ·rw[h];cases b<;>rfl
  ·rw[h]
   simp only[Option.bind_some,decide_eq_true (show(0:Int)≤(j:Int)by omega)]
   cases b with
   |false=>rfl
   |true=>exact absurd (Qn8 (fun x:Secret=>x.Thing) l k hk x (b3 rfl).2 j hj hid) id
 ·cases b with
  |false=>exact hm
  |true=>exact⟨by have:=(b3 rfl).1;show(Vx l (k:Int) [x]).length≤_;omega,hmem⟩
theorem Qx3(l:List Slot)(x:Thing)(hl:l.length≤1048576):∃r,QaU l x=some r∧Qdm l x=some r∧r.1.length=l.length∧(r.2=true→1≤x.Id∧∃y∈r.1,y.Thing=x.Id):=by
 obtain⟨c,c1,c2,c3⟩:=Qj3 l hl;obtain⟨t,t1,t2,t3⟩:=Qi7 x;have hrm:rm (0+l.length) 24=true:=QR (by omega) (by omega)
 obtain⟨v,hv,hq⟩:=Qei (n:=l.length) (step:=QO l x.Size) (fin:=fun v=>v) (fun i v=>v=-1∨∃j:Nat,j<i∧j<l.length∧v=(j:Int))
  (fun i v hi hv=>by
   have hw:=Qy (show(i:Int)<9223372036854775807 by omega)
   have hcase:QO l x.Size (v,(i:Int))=some (.inl ((i:Int),((i+1:Nat):Int)))∨QO l x.Size (v,(i:Int))=some (.inl (v,((i+1:Nat):Int))):=by
    rcases hv with rfl|⟨j,hj,hjl,rfl⟩
    ·simp only[QO,Qr hi,Qe hi,Qn hi,hw,cond_true,Qa,show decide ((-1:Int)<0)=true from rfl]
     cases decide (l[i].Thing=0)<;>cases decide (x.Size≤l[i].Size)<;>first|exact .inl rfl|exact .inr rfl
    ·simp only[QO,Qr hi,Qe hi,Qn hi,Qe hjl,Qn hjl,hw,cond_true,cond_false,Qa,decide_eq_false (show ¬(j:Int)<0 by omega)]
     cases decide (l[i].Thing=0)<;>cases decide (x.Size≤l[i].Size)<;>cases decide (l[i].Size<l[j].Size)<;>first|exact .inl rfl|exact .inr rfl
   rcases hcase with h|h
   ·exact⟨_,h,.inr ⟨i,by omega,hi,rfl⟩⟩
   ·refine⟨_,h,?_⟩
    rcases hv with h'|⟨j,hj,hjl,h'⟩
    ·exact .inl h'
    ·exact .inr ⟨j,by omega,hjl,h'⟩)
  (fun v _=>by simp only[QO,Qv (Nat.le_refl _),cond_false]) (-1) (.inl rfl)
 have hf:Qfa l x.Size=some v:=by
  unfold Qfa;rw[show Qdd l x.Size l (ln l)=QO l x.Size from by funext ⟨k,i⟩;simp only[Qdd,QO];cases decide (i<ln l)<;>cases inb l i<;>rfl,hv];rfl
 have hsf:Zw l x.Size=some (bif decide (v<0)then 0 else(gt l v).Id):=by
  unfold Zw;rw[hv]
  rcases hq with rfl|⟨j,_,hjl,rfl⟩
  ·rfl
  ·simp only[Option.bind_some,decide_eq_false (show ¬(j:Int)<0 by omega),cond_false,Qe hjl,Qa]
 unfold QaU Qdm Jv;simp only[hrm,Qa,c1,c2,t1,t2,hf,hsf,Qjj l x.Id hl,Qgf l x.Id hl,Option.bind_some];cases c with
 |false=>exact⟨(l,false),rfl,rfl,rfl,fun h=>by cases h⟩
 |true =>
  obtain⟨s1,s2,s3⟩:=c3 rfl;cases t with
  |false=>exact⟨(l,false),rfl,rfl,rfl,fun h=>by cases h⟩
  |true =>
   rcases hq with rfl|⟨k,_,hk,rfl⟩
   ·exact⟨(l,false),rfl,rfl,rfl,fun h=>by cases h⟩
   ·have hid:1≤l[k].Id:=s2 _ (List.getElem_mem hk)
    have hsame:(!decide ((bif decide (x.Id=0)||decide (ZK l x.Id<0)then(0:Int)else(gt l (ZK l x.Id)).Id)=0))=decide (0≤(bif decide (x.Id=0)then(-1:Int)else ZK l x.Id)):=by
     cases decide (x.Id=0)with
     |true=>rfl
     |false =>
      rcases QdP l x.Id with⟨_,h2⟩|⟨j,hj,h2,_,_⟩
      ·rw[h2];rfl
      ·rw[h2]
       have:=s2 _ (List.getElem_mem hj);simp only[Bool.false_or,decide_eq_false (show ¬(j:Int)<0 by omega),cond_false,Qn hj,decide_eq_false (show ¬l[j].Id=0 by omega),decide_eq_true (show(0:Int)≤(j:Int)by omega)];rfl
    simp only[Bool.not_true,cond_false,decide_eq_false (show ¬(k:Int)<0 by omega),Qn hk,Qe hk,Qa,decide_eq_false (show ¬l[k].Id=0 by omega),Int.toNat_natCast,Option.bind_some,hsame]
    cases decide (0≤(bif decide (x.Id=0)then(-1:Int)else ZK l x.Id))with
    |true=>exact⟨(l,false),rfl,rfl,rfl,fun h=>by cases h⟩
    |false =>
     have hr:=Xt (step:=V9 x l[k].Id) (fun i=>(if i≤k then l else l.set k ⟨l[k].Id,l[k].Size,x.Id⟩,(i:Int))) (r:=l.set k ⟨l[k].Id,l[k].Size,x.Id⟩) l.length (fun i hi=>by
       have hw:=Qy (show(i:Int)<9223372036854775807 by omega)
       by_cases hik:i<k
       ·have hne:¬l[i].Id=l[k].Id:=fun e=>by have:=Qfm l s3 i k hi hk e;omega
        simp only[V9,if_pos (show i≤k by omega),if_pos (show i+1≤k by omega),Qr hi,Qe hi,Qn hi,hw,decide_eq_false hne,cond_true,cond_false,Qa]
       ·by_cases hek:i=k
        ·subst hek
         simp only[V9,if_pos (Nat.le_refl i),if_neg (show ¬i+1≤i by omega),Qr hi,Qe hi,Qn hi,hw,decide_true,cond_true,Qa,Int.toNat_natCast]
        ·have hne:¬l[i].Id=l[k].Id:=fun e=>by have:=Qfm l s3 i k hi hk e;omega
         have hi':i<(l.set k ⟨l[k].Id,l[k].Size,x.Id⟩).length:=by rw[List.length_set];exact hi
         have hg:gt (l.set k ⟨l[k].Id,l[k].Size,x.Id⟩) (i:Int)=l[i]:=by rw[QnS l k _ i hi,if_neg hek,Qn hi]
         simp only[V9,if_neg (show ¬i≤k by omega),if_neg (show ¬i+1≤k by omega),Qr hi',Qe hi',hg,hw,decide_eq_false hne,cond_true,cond_false,Qa])
      (by
       simp only[V9,if_neg (show ¬l.length≤k by omega)]
       rw[show decide ((l.length:Int)<ln (l.set k ⟨l[k].Id,l[k].Size,x.Id⟩))=false from decide_eq_false (by rw[VE,List.length_set];omega)]
       rfl)
     simp only[cond_false,show run (V9 x l[k].Id) (l,0)=some (l.set k ⟨l[k].Id,l[k].Size,x.Id⟩)from hr,Option.bind_some];exact⟨_,rfl,rfl,List.length_set,fun _=>⟨t3 rfl,_,List.mem_iff_getElem.2 ⟨k,by simpa using hk,List.getElem_set_self (by simpa using hk)⟩,rfl⟩⟩
theorem QAO(l:List Slot)(x:Thing)(hl:l.length≤1048576):∃r,QaU l x=some r∧Qdm l x=some r∧r.1.length=l.length:=by
 obtain⟨r,r1,r2,r3,_⟩:=Qx3 l x hl;exact⟨r,r1,r2,r3⟩
theorem Qv7(h:House)(f:Find)(m:List Mark)(s:Int)(hm:Qi h)(hk:m.length≤1048576):∃r,ZG h f m s=some r∧Qew h f m s=some r∧Qi r.1:=by
 have hm7:=hm;obtain⟨m1,m2,m3,m4,m5,m6,m7⟩:=hm7;obtain⟨a,a1,a2,a3⟩:=Qy8 h.Finds f m1;obtain⟨b,b1,b2,b3⟩:=Qvo h.Secrets ⟨f.Thing.Id,m,s⟩ m2 hk;obtain⟨c,c1,c2,c3⟩:=QAO h.Slots f.Thing m3;obtain⟨d,d1,d2,d3⟩:=QnM h.Chain ⟨f.Thing.Id,2,h.No,h.Now,0⟩ m6;have w:Qi ⟨h.No,a.1,b.1,c.1,h.Claims,h.Trials,d.1,h.Book,h.Now⟩:=⟨a3,b3,by show c.1.length≤_;omega,m4,m5,d3,m7⟩
 refine⟨Qbc h ⟨h.No,a.1,b.1,c.1,h.Claims,h.Trials,d.1,h.Book,h.Now⟩ (a.2&&(b.2&&(c.2&&d.2))),?_,?_,Z1 _ _ _ hm w⟩
 ·unfold ZG
  simp only[XA h hm,a1,b1,c1,d1,Qci h _ _ hm w,Option.bind_some];cases a.2<;>cases b.2<;>cases c.2<;>rfl
 ·unfold Qew
  simp only[Jw h hm,a2,b2,c2,d2,QaF h _ _ hm w (show[a.2,b.2,c.2,d.2].length≤1048576 by simp),Option.bind_some,List.all_cons,List.all_nil,Bool.and_true,id_eq]
end Go.Proofs.YtonidbheohhgdaaGreat
namespace Go.Proofs.YtonidbheohhgdaaGreat
open Go
set_option linter.unusedVariables false
set_option linter.unusedSimpArgs false
def QaG(l:List Claim)(id:Int):Int:=match l.findIdx? (fun x=>decide (x.Id=id))with|some i=>(i:Int)|none=>-1
theorem Qhs(l:List Claim)(id:Int)(hl:l.length≤1048576):Jj l id=some (QaG l id):=by
 have hi:=XY l (fun x=>decide (x.Id=id)) (fun i=>(i:Int)) (step:=QY l id (ln l))
  (fun i hi=>by
   simp only[QY,Qe4,Option.bind_some,Qr hi,Qe hi,Qn hi,Qy (show(i:Int)<9223372036854775807 by omega),cond_true,Qa]
   cases decide (l[i].Id=id)<;>rfl)
  (by simp only[QY,Qv (Nat.le_refl _),cond_false])
 unfold Jj XW QaG;rw[hi];cases l.findIdx? (fun x=>decide (x.Id=id))<;>rfl
theorem Qfk(l:List Claim)(id:Int):QaG l id=-1∨∃k:Nat,∃hk:k<l.length,QaG l id=(k:Int)∧l[k].Id=id:=by
 unfold QaG;cases hf:l.findIdx? (fun x=>decide (x.Id=id))with
 |none=>exact .inl rfl
 |some i =>
  obtain⟨hi,hp⟩:=QaZ hf;exact .inr ⟨i,hi,rfl,by simpa using hp⟩
theorem Qj5(l:List Claim)(id:Int)(j:Nat)(hj:j<l.length)(h:l[j].Id=id):∃k:Nat,∃hk:k<l.length,QaG l id=(k:Int)∧l[k].Id=id:=by
 rcases Qfk l id with h0|h0
 ·exfalso
  unfold QaG at h0;cases hf:l.findIdx? (fun x=>decide (x.Id=id))with
  |none =>
   have:=List.findIdx?_eq_none_iff.1 hf _ (List.getElem_mem hj);simp[h]at this
  |some i=>rw[hf]at h0;simp only at h0;omega
 ·exact h0
theorem QhQ(h:House)(ht:Xv h=some true):h.Trials.length=h.Claims.length:=by
 by_cases hlen:h.Trials.length=h.Claims.length
 ·exact hlen
 ·exfalso
  unfold Xv at ht;rw[show(!decide (ln h.Trials=ln h.Claims))=true from by rw[VE,VE];simp;omega]at ht
  cases ht
end Go.Proofs.YtonidbheohhgdaaGreat
namespace Go.Proofs.YtonidbheohhgdaaGreat
open Go
set_option linter.unusedVariables false
set_option linter.unusedSimpArgs false
theorem QgI(l:List Claim)(hl:l.length≤2097152)(h:QF l=some true):∀i (hi:i<l.length) (h0:0<i),(l[i-1]'(by omega)).Id<l[i].Id:=by
 intro i hi h0;have ho:=(Qfo l h hl).2 i hi;unfold QcR at ho;simp only[Bool.and_eq_true,Bool.or_eq_true,Qn hi,Qn (show i-1<l.length by omega)]at ho
 have:=ho.2.2.2.2.2.1;simp at this;omega
theorem QvV{α:Type}[Inhabited α](key:α→Int)(l:List α)(k:Nat)(hk:k≤l.length)(x:α)(up:∀i (hi:i<(Vx l (k:Int) [x]).length) (h0:0<i),key ((Vx l (k:Int) [x])[i-1]'(by omega))<key (Vx l (k:Int) [x])[i])(j:Nat)(hj:j<l.length):if j<k then key l[j]<key x else key x<key l[j]:=by
 have hlen:=Qek l k hk x;have hu:=QtG (n:=(Vx l (k:Int) [x]).length) (fun i=>key (gt (Vx l (k:Int) [x]) (i:Int))) (fun i h1 h2=>by
  show key (gt (Vx l (k:Int) [x]) ((i-1:Nat):Int))<key (gt (Vx l (k:Int) [x]) (i:Int));rw[Qn h1,Qn (show i-1<(Vx l (k:Int) [x]).length by omega)];exact up i h1 h2)
 have g1:gt (Vx l (k:Int) [x]) (k:Int)=x:=by
  have hlt:k<(Vx l (k:Int) [x]).length:=by omega
  rw[Qn hlt];have:=QrQ l k hk x;rw[List.getElem?_eq_getElem hlt]at this;exact Option.some.inj this
 have hidx:(if j<k then j else j+1)<(Vx l (k:Int) [x]).length:=by split<;>omega
 have g2:gt (Vx l (k:Int) [x]) ((if j<k then j else j+1:Nat):Int)=l[j]:=by
  rw[Qn hidx];have:=Qto l k hk x j hj;rw[List.getElem?_eq_getElem hidx]at this;exact Option.some.inj this
 by_cases h:j<k
 ·have:=hu k (if j<k then j else j+1) (by rw[if_pos h];exact h) (by omega)
  simp only[g1,g2]at this;rw[if_pos h];exact this
 ·have:=hu (if j<k then j else j+1) k (by rw[if_neg h];omega) hidx
  simp only[g1,g2]at this;rw[if_neg h];exact this
theorem QBi{α:Type}[Inhabited α](key:α→Int)(l:List α)(k1 k2:Nat)(h1:k1≤l.length)(h2:k2≤l.length)(x:α)
  (a1:∀j (hj:j<l.length),k1≤j→¬key l[j]<key x) (a2:∀(h:0<k1),key (l[k1-1]'(by omega))<key x)
  (b1:∀j (hj:j<l.length),j<k2→key l[j]<key x) (b2:∀(h:k2<l.length),¬key l[k2]<key x)
  (up:(∀i (hi:i<(Vx l (k1:Int) [x]).length) (h0:0<i),key ((Vx l (k1:Int) [x])[i-1]'(by omega))<key (Vx l (k1:Int) [x])[i])∨(∀i (hi:i<(Vx l (k2:Int) [x]).length) (h0:0<i),key ((Vx l (k2:Int) [x])[i-1]'(by omega))<key (Vx l (k2:Int) [x])[i])):k1=k2:=by
 rcases up with up|up
 ·have hj:=QvV key l k1 h1 x up
  by_cases h:k1<k2
  ·exact absurd (b1 k1 (by omega) h) (a1 k1 (by omega) (Nat.le_refl _))
  ·by_cases h':k2<k1
   ·have:=hj k2 (by omega)
    rw[if_pos h']at this;exact absurd this (b2 (by omega))
   ·omega
 ·have hj:=QvV key l k2 h2 x up
  by_cases h:k1<k2
  ·exact absurd (b1 k1 (by omega) h) (a1 k1 (by omega) (Nat.le_refl _))
  ·by_cases h':k2<k1
   ·have h3:=hj (k1-1) (by omega)
    rw[if_neg (by omega)]at h3
    have h4:=a2 (by omega)
    omega
   ·omega
theorem QnA{n:Nat}(p:Nat→Bool){step:Int→Option (Int⊕Int)}(h1:∀i,i<n→step (i:Int)=some (bif p i then .inl ((i+1:Nat):Int)else .inr (i:Int)))(h2:step (n:Int)=some (.inr (n:Int))):∃k:Nat,k≤n∧run step 0=some (k:Int)∧(∀j,j<k→p j=true)∧(k<n→p k=false):=by
 have key:∀(m i:Nat),i+m=n→(∀j,j<i→p j=true)→∃k:Nat,k≤n∧run step (i:Int)=some (k:Int)∧(∀j,j<k→p j=true)∧(k<n→p k=false):=by
  intro m
  induction m with
  |zero =>
   intro i hi hp;have:i=n:=by omega
   subst this;exact⟨i,Nat.le_refl _,by rw[Qg,h2];rfl,hp,fun h=>by omega⟩
  |succ m ih =>
   intro i hi hp';cases hp:p i with
   |false=>exact⟨i,by omega,by rw[Qg,h1 i (by omega),hp];rfl,hp',fun _=>hp⟩
   |true =>
    obtain⟨k,k1,k2,k3⟩:=ih (i+1) (by omega) (fun j hj=>by
     by_cases hji:j=i
     ·subst hji;exact hp
     ·exact hp' j (by omega))
    exact⟨k,k1,by rw[Qg,h1 i (by omega),hp];exact k2,k3⟩
 exact key n 0 (by omega) (fun j hj=>by omega)
def Qbf(l:List Claim)(id:Int):Nat→Nat
 |0=>0
 |n+1=>bif decide ((gt l (n:Int)).Id<id)then n+1 else Qbf l id n
theorem Qnu(l:List Claim)(id:Int):∀n,Qbf l id n≤n
 |0=>Nat.le_refl _
 |n+1=>by
  have:=Qnu l id n;unfold Qbf;cases decide ((gt l (n:Int)).Id<id)<;>simp<;>omega
theorem Qnf(l:List Claim)(id:Int):∀n j,Qbf l id n≤j→j<n→¬(gt l (j:Int)).Id<id
 |0,j,_,h=>by omega
 |n+1,j,h1,h2=>by
  unfold Qbf at h1;cases hd:decide ((gt l (n:Int)).Id<id)with
  |true=>rw[hd]at h1;simp at h1;omega
  |false =>
   rw[hd]at h1;by_cases hj:j=n
   ·subst hj;exact of_decide_eq_false hd
   ·exact Qnf l id n j h1 (by omega)
theorem Qnd(l:List Claim)(id:Int):∀n,0<Qbf l id n→(gt l ((Qbf l id n-1:Nat):Int)).Id<id
 |0,h=>by simp[Qbf]at h
 |n+1,h=>by
  unfold Qbf at h ⊢;cases hd:decide ((gt l (n:Int)).Id<id)with
  |true=>simp only[cond_true,Nat.add_sub_cancel];exact of_decide_eq_true hd
  |false=>rw[hd]at h;exact Qnd l id n h
theorem QxF(l:List Claim)(x:Claim)(hl:l.length≤1048576):∃r,QaA l x=some r∧Qeu l x=some r∧r.1.length≤1048576 ∧
  (r.2=true→∃k:Nat,k≤l.length∧r.1=Vx l (k:Int) [x]∧QaG r.1 x.Id=(k:Int)∧(∀j (hj:j<l.length),j<k→l[j].Id<x.Id)∧(∀j (hj:j<l.length),k≤j→¬l[j].Id<x.Id)):=by
 have hs:=Xt (step:=X0 l x) (fun i=>(((Qbf l x.Id i:Nat):Int),(!decide (x.State=0))||(l.take i).any (fun y=>decide (y.Who=x.Who)&&decide (y.Thing=x.Thing)),(i:Int)))
  (r:=(((Qbf l x.Id l.length:Nat):Int),(!decide (x.State=0))||l.any (fun y=>decide (y.Who=x.Who)&&decide (y.Thing=x.Thing)))) l.length (fun i hi=>by
   have hw:=Qy (show(i:Int)<9223372036854775807 by omega)
   have hany:(l.take (i+1)).any (fun y=>decide (y.Who=x.Who)&&decide (y.Thing=x.Thing))=((l.take i).any (fun y=>decide (y.Who=x.Who)&&decide (y.Thing=x.Thing))||(decide (l[i].Who=x.Who)&&decide (l[i].Thing=x.Thing))):=by
    rw[List.take_succ_eq_append_getElem hi,List.any_append];simp
   have ha:Qbf l x.Id (i+1)=bif decide (l[i].Id<x.Id)then i+1 else Qbf l x.Id i:=by
    rw[Qbf,Qn hi]
   simp only[X0,Qr hi,Qe hi,Qn hi,hw,cond_true,Qa,hany,ha];generalize (l.take i).any (fun y=>decide (y.Who=x.Who)&&decide (y.Thing=x.Thing))=q
   cases decide (x.State=0)<;>cases q<;>cases (decide (l[i].Who=x.Who)&&decide (l[i].Thing=x.Thing))<;>cases decide (l[i].Id<x.Id)<;>rfl)
  (by simp only[X0,Qv (Nat.le_refl _),cond_false,List.take_length])
 have hs':run (X0 l x) (0,(!decide (x.State=0)),0)=some (((Qbf l x.Id l.length:Nat):Int),(!decide (x.State=0))||l.any (fun y=>decide (y.Who=x.Who)&&decide (y.Thing=x.Thing))):=by
  have:((!decide (x.State=0))||(l.take 0).any (fun y=>decide (y.Who=x.Who)&&decide (y.Thing=x.Thing)))=!decide (x.State=0):=by simp
  rw[this]at hs;exact hs
 have hk1:=Qnu l x.Id l.length;have hhi:=Qnf l x.Id l.length;have hlo:=Qnd l x.Id l.length;generalize Qbf l x.Id l.length=k1 at hs' hk1 hhi hlo;obtain⟨k2,hk2,hr,hf1,hf2⟩:=QnA (n:=l.length) (fun i=>decide ((gt l (i:Int)).Id<x.Id)) (step:=QaY l x l)
  (fun i hi=>by
   simp only[QaY,Qr hi,Qe hi,Qy (show(i:Int)<9223372036854775807 by omega),cond_true,Qa,Option.bind_some]
   cases decide ((gt l (i:Int)).Id<x.Id)<;>rfl)
  (by simp only[QaY,Qv (Nat.le_refl _),cond_false];rfl)
 have A1:∀j (hj:j<l.length),k1≤j→¬l[j].Id<x.Id:=fun j hj h=>by have:=hhi j h hj;rw[Qn hj]at this;exact this
 have A2:∀(h:0<k1),(l[k1-1]'(by omega)).Id<x.Id:=fun h=>by have:=hlo h;rw[Qn (show k1-1<l.length by omega)]at this;exact this
 have B1:∀j (hj:j<l.length),j<k2→l[j].Id<x.Id:=fun j hj h=>by have:=hf1 j h;simp only[Qn hj,decide_eq_true_eq]at this;exact this
 have B2:∀(h:k2<l.length),¬l[k2].Id<x.Id:=fun h=>by have:=hf2 h;simp only[Qn h,decide_eq_false_iff_not]at this;exact this
 have hl1:=Qek l k1 hk1 x;have hl2:=Qek l k2 hk2 x;obtain⟨b,b1,b2,_⟩:=Qhy (Vx l (k1:Int) [x]) (by omega)
 obtain⟨c,c1,c2,_⟩:=Qhy (Vx l (k2:Int) [x]) (by omega)
 have hone:b=true∨c=true→k1=k2:=fun h=>QBi (fun y:Claim=>y.Id) l k1 k2 hk1 hk2 x A1 A2 B1 B2 (by
  rcases h with rfl|rfl
  ·exact .inl (QgI _ (by omega) b1)
  ·exact .inr (QgI _ (by omega) c1))
 have hbc:b=c:=by
  cases hb:b with
  |true =>
   have:=hone (.inl hb);subst this;rw[b1,hb]at c1;exact Option.some.inj c1
  |false=>cases hc:c with
   |false=>rfl
   |true =>
    have:=hone (.inr hc);subst this;rw[c1,hc]at b1;rw[hb]at b1;cases b1
 have hi:=XY l (fun y=>decide (y.Who=x.Who)&&decide (y.Thing=x.Thing)) (fun i=>(i:Int)) (step:=Q1 l x (ln l))
  (fun i hi=>by
   simp only[Q1,QfC,Qr hi,Qe hi,Qn hi,Qy (show(i:Int)<9223372036854775807 by omega),cond_true,Qa,Option.bind_some]
   cases (decide (l[i].Who=x.Who)&&decide (l[i].Thing=x.Thing))<;>rfl)
  (by simp only[Q1,Qv (Nat.le_refl _),cond_false])
 have hc:Vw l x=some (l.any (fun y=>decide (y.Who=x.Who)&&decide (y.Thing=x.Thing))):=by
  unfold Vw X6;rw[hi];cases hf:l.findIdx? (fun y=>decide (y.Who=x.Who)&&decide (y.Thing=x.Thing))with
  |none =>
   have:l.any (fun y=>decide (y.Who=x.Who)&&decide (y.Thing=x.Thing))=false:=by
    rw[List.any_eq_false];intro y hy;have:=List.findIdx?_eq_none_iff.1 hf y hy;simpa using this
   rw[this];rfl
  |some i =>
   obtain⟨hi',hp⟩:=QaZ hf;rw[List.any_eq_true.2 ⟨_,List.getElem_mem hi',hp⟩];simp only[Option.bind_some,evO,decide_eq_true (show(0:Int)≤(i:Int)by omega)]
 have hrm:rm (0+l.length) 40=true:=QR (by omega) (by omega)
 have hrm1:rm (0+(cut l 0 (k1:Int)).length) 40=true:=QR (by rw[Xx,List.length_take];omega) (by omega)
 have hrm2:rm ((cut l 0 (k1:Int)).length+1) 40=true:=QR (by rw[Xx,List.length_take];omega) (by omega)
 have hrm3:rm ((cut l 0 (k1:Int)).length+1+(cut l (k1:Int) (ln l)).length) 40=true:=QR (by rw[Xx,QdG,List.length_take,List.length_drop];omega) (by omega)
 have hspec:QaA l x=some (bif ((!decide (x.State=0))||l.any (fun y=>decide (y.Who=x.Who)&&decide (y.Thing=x.Thing)))||!b then(l,false)else(Vx l (k1:Int) [x],true)):=by
  unfold QaA;simp only[hs',Option.bind_some];rw[show slB 0 (k1:Int) (ln l)=true from Qfi hk1,show slB (k1:Int) (ln l) (ln l)=true from Qjg hk1];simp only[Qa,hrm,hrm1,hrm2,hrm3,QiF,b1,Option.bind_some];cases ((!decide (x.State=0))||l.any (fun y=>decide (y.Who=x.Who)&&decide (y.Thing=x.Thing)))<;>cases b<;>rfl
 have hdup:∀j:Nat,∀hj:j<l.length,l[j].Id=x.Id→b=true→False:=fun j hj he hb=>by
  subst hb;exact Qn8 (fun y:Claim=>y.Id) l k1 hk1 x (QgI _ (by omega) b1) j hj he
 refine⟨_,hspec,?_,?_,?_⟩
 ·unfold Qeu Vu
  simp only[hrm,Qa,Option.bind_some,Qhs l x.Id hl,hc,hr,QkR l k2 hk2 x 40 hl (by omega),c2]
  rw[←hbc];cases hb:b with
  |false =>
   cases decide (x.State=0)<;>cases decide (0≤QaG l x.Id)<;>cases l.any (fun y=>decide (y.Who=x.Who)&&decide (y.Thing=x.Thing))<;>rfl
  |true =>
   have hk:=hone (.inl hb)
   rcases Qfk l x.Id with h|⟨j,hj,h,hid⟩
   ·rw[h,←hk]
    cases decide (x.State=0)<;>cases l.any (fun y=>decide (y.Who=x.Who)&&decide (y.Thing=x.Thing))<;>rfl
   ·exact absurd hb (fun hb=>hdup j hj hid hb)
 ·cases hb:b with
  |true =>
   subst hb;have:=(Qfo _ b1 (by omega)).1
   cases (((!decide (x.State=0))||l.any (fun y=>decide (y.Who=x.Who)&&decide (y.Thing=x.Thing)))||!true)with
   |true=>exact hl
   |false=>show(Vx l (k1:Int) [x]).length≤_;omega
  |false=>rw[Bool.not_false,Bool.or_true];exact hl
 ·intro h
  have hb:b=true:=by
   cases hb:b with
   |true=>rfl
   |false=>rw[hb,Bool.not_false,Bool.or_true]at h;cases h
  have hq:(((!decide (x.State=0))||l.any (fun y=>decide (y.Who=x.Who)&&decide (y.Thing=x.Thing)))||!b)=false:=by
   cases hq:(((!decide (x.State=0))||l.any (fun y=>decide (y.Who=x.Who)&&decide (y.Thing=x.Thing)))||!b)with
   |false=>rfl
   |true=>rw[hq]at h;cases h
  rw[hq];refine⟨k1,hk1,rfl,?_,?_,A1⟩
  ·subst hb
   have hup:=QgI _ (by omega) b1
   have hlt:k1<(Vx l (k1:Int) [x]).length:=by omega
   have hx:(Vx l (k1:Int) [x])[k1]=x:=by
    have:=QrQ l k1 hk1 x;rw[List.getElem?_eq_getElem hlt]at this;exact Option.some.inj this
   obtain⟨j,hj,h1,h2⟩:=Qj5 (Vx l (k1:Int) [x]) x.Id k1 hlt (by rw[hx])
   show QaG (Vx l (k1:Int) [x]) x.Id=_;rw[h1];have hu:=QtG (n:=(Vx l (k1:Int) [x]).length) (fun i=>(gt (Vx l (k1:Int) [x]) (i:Int)).Id) (fun i h1 h2=>by
    show(gt (Vx l (k1:Int) [x]) ((i-1:Nat):Int)).Id<(gt (Vx l (k1:Int) [x]) (i:Int)).Id;rw[Qn h1,Qn (show i-1<(Vx l (k1:Int) [x]).length by omega)];exact hup i h1 h2)
   by_cases h3:j<k1
   ·have:=hu k1 j h3 hlt
    simp only[Qn hj,Qn hlt,h2,hx]at this;omega
   ·by_cases h4:k1<j
    ·have:=hu j k1 h4 hj
     simp only[Qn hj,Qn hlt,h2,hx]at this;omega
    ·congr 1;omega
  ·intro j hj hjk
   have hk:=hone (.inl hb);exact B1 j hj (by omega)
theorem QCU(h out:House)(ok:Bool)(hm:Qi h)(hb:XT h=false):Qk h out ok=some (h,false):=by
 unfold Qk;simp only[(Xp h hm).1,hb,XA h hm,Option.bind_some];cases ok<;>rfl
theorem QG9(h out:House)(hm:Qi h):Qk h out false=some (h,false):=by
 unfold Qk;simp only[XA h hm,Option.bind_some];rfl
theorem Qvx(h:House)(out:House)(hm:Qi h)(ho:Qi out):Qc6 h out=some (Qbc h out true):=by
 unfold Qc6 Qbc;have:Xj [] false=some false:=by rw[Qk7 [] (by simp)];rfl
 simp only[this,(Xp h hm).2,(Xp out ho).2,Jw h hm,Option.bind_some];cases XT h<;>cases XT out<;>rfl
theorem Qu3(h:House)(m1:h.Finds.length≤1048576)(m2:h.Secrets.length≤1048576)(mm:∀x∈h.Secrets,x.Marks.length≤1048576)(m4:h.Claims.length≤1048576)(ht:Xv h=some true):∀i (hi:i<h.Claims.length) (hi2:i<h.Trials.length),h.Trials[i].Claim=h.Claims[i].Id:=by
 have hlen:=QhQ h ht;unfold Xv at ht;rw[show(!decide (ln h.Trials=ln h.Claims))=false from by rw[VE,VE,hlen];simp]at ht
 have hstep:∀i (hi:i<h.Claims.length) (hi2:i<h.Trials.length),∃o,Vc h h.Claims (ln h.Claims) (i:Int)=some o∧(o=.inl ((i+1:Nat):Int)∨o=.inr (.ret false))∧(o=.inl ((i+1:Nat):Int)→h.Trials[i].Claim=h.Claims[i].Id):=by
  intro i hi hi2;obtain⟨t,_,t2⟩:=QmC h.Trials[i];obtain⟨m,_,k2,k3⟩:=Qn2 h.Secrets h.Claims[i].Thing m2 mm;obtain⟨c,_,s2⟩:=Qe6 m h.Trials[i] k3;have hw:∃w,Qea h.Claims[i].State=some w:=by
   unfold Qea;cases decide (h.Claims[i].State=0)<;>cases decide (h.Claims[i].State=1)<;>cases decide (h.Claims[i].State=3)<;>cases decide (h.Claims[i].State=2)<;>exact⟨_,rfl⟩
  obtain⟨w,hw⟩:=hw;simp only[Vc,Qr hi,Qe hi,Qn hi,Qe hi2,Qn hi2,Qy (show(i:Int)<9223372036854775807 by omega),cond_true,Qa,t2,k2,s2,hw,(Jr h.Finds _ m1).2,Option.bind_some]
  by_cases hc:h.Trials[i].Claim=h.Claims[i].Id
  ·cases decide (Zf h.Finds h.Claims[i].Thing<0)<;>cases decide (h.Trials[i].Claim=h.Claims[i].Id)<;>cases t<;>cases decide (c=w)<;>first|exact⟨_,rfl,.inl rfl,fun _=>hc⟩|exact⟨_,rfl,.inr rfl,fun _=>hc⟩
  ·rw[decide_eq_false hc]
   cases decide (Zf h.Finds h.Claims[i].Thing<0)<;>cases t<;>exact⟨_,rfl,.inr rfl,fun h=>by cases h⟩
 have key:∀(m i:Nat),i+m=h.Claims.length→run (Vc h h.Claims (ln h.Claims)) (i:Int)=some (.brk ())∨run (Vc h h.Claims (ln h.Claims)) (i:Int)=some (.ret false):=by
  intro m
  induction m with
  |zero =>
   intro i hi;have:i=h.Claims.length:=by omega
   subst this;left;rw[Qg];simp only[Vc,Qv (Nat.le_refl _),cond_false];rfl
  |succ m ih =>
   intro i hi;obtain⟨o,h1,h2,_⟩:=hstep i (by omega) (by omega)
   rw[Qg,h1]
   rcases h2 with rfl|rfl
   ·exact ih (i+1) (by omega)
   ·exact .inr rfl
 have key2:∀(m i:Nat),i+m=h.Claims.length→run (Vc h h.Claims (ln h.Claims)) (i:Int)=some (.brk ())→∀j (hj:j<h.Claims.length) (hj2:j<h.Trials.length),i≤j→h.Trials[j].Claim=h.Claims[j].Id:=by
  intro m
  induction m with
  |zero=>intro i hi _ j hj _ hij;omega
  |succ m ih =>
   intro i hi hr j hj hj2 hij;obtain⟨o,h1,h2,h3⟩:=hstep i (by omega) (by omega)
   rw[Qg,h1]at hr
   rcases h2 with rfl|rfl
   ·by_cases hij':i=j
    ·subst hij';exact h3 rfl
    ·exact ih (i+1) (by omega) hr j hj hj2 (by omega)
   ·simp at hr
 intro i hi hi2
 rcases key h.Claims.length 0 (by omega)with hr|hr
 ·exact key2 h.Claims.length 0 (by omega) hr i hi hi2 (by omega)
 ·rw[show run (Vc h h.Claims (ln h.Claims)) 0=some (.ret false)from hr]at ht
  cases ht
theorem Qvk(h:House)(a w t:Int)(hm:Qi h):∃r,Jf h a w t=some r∧QdN h a w t=some r∧Qi r.1:=by
 have hm7:=hm;obtain⟨m1,m2,m3,m4,m5,m6,m7⟩:=hm7;obtain⟨c,c1,c2,c3,c4⟩:=QxF h.Claims ⟨a,w,t,h.Now,0⟩ m4;obtain⟨v,v1,v2⟩:=Qc2 h.Slots t m3;obtain⟨k,hk,hr,hf1,hf2⟩:=QnA (n:=h.Trials.length) (fun i=>decide ((gt h.Trials (i:Int)).Claim<a)) (step:=Js a t h ⟨h.No,h.Finds,h.Secrets,h.Slots,c.1,h.Trials,h.Chain,h.Book,h.Now⟩ c.2)
  (fun i hi=>by
   simp only[Js,Qr hi,Qe hi,Qy (show(i:Int)<9223372036854775807 by omega),cond_true,Qa,Option.bind_some]
   cases decide ((gt h.Trials (i:Int)).Claim<a)<;>rfl)
  (by simp only[Js,Qv (Nat.le_refl _),cond_false];rfl)
 have hrm1:rm (cut h.Trials 0 (k:Int)).length 32=true:=QR (by rw[Xx,List.length_take];omega) (by omega)
 have hrm2:rm ((cut h.Trials 0 (k:Int)).length+1) 32=true:=QR (by rw[Xx,List.length_take];omega) (by omega)
 have hrm3:rm ((cut h.Trials 0 (k:Int)).length+1+(cut h.Trials (k:Int) (ln h.Trials)).length) 32=true:=QR (by rw[Xx,QdG,List.length_take,List.length_drop];omega) (by omega)
 have hspec:Jf h a w t=bif c.2 then(XP h.Slots t).bind fun r3=>Qk h ⟨h.No,h.Finds,h.Secrets,h.Slots,c.1,Vx h.Trials (k:Int) [⟨a,0,0,0⟩],h.Chain,h.Book,h.Now⟩ (!decide (r3=0))else some (h,false):=by
  unfold Jf;simp only[XA h hm,c1,Option.bind_some,hr];rw[show slB 0 (k:Int) (ln h.Trials)=true from Qfi hk,show slB (k:Int) (ln h.Trials) (ln h.Trials)=true from Qjg hk];simp only[Qa,hrm1,hrm2,hrm3,QiF];cases c.2 with
  |false=>simp only[cond_false,QG9 h _ hm,Option.bind_some]
  |true =>
   simp only[cond_true,Qjj h.Slots t m3,Option.bind_some];cases Qk h ⟨h.No,h.Finds,h.Secrets,h.Slots,c.1,Vx h.Trials (k:Int) [⟨a,0,0,0⟩],h.Chain,h.Book,h.Now⟩ (!decide ((bif decide (t=0)||decide (ZK h.Slots t<0)then(0:Int)else(gt h.Slots (ZK h.Slots t)).Id)=0))<;>rfl
 rw[hspec];unfold QdN;simp only[Jw h hm,c2,Option.bind_some,(Xp h hm).2,v1];cases hc:c.2 with
 |false=>exact⟨(h,false),rfl,rfl,hm⟩
 |true =>
  simp only[cond_true,Bool.not_true,cond_false,Qjj h.Slots t m3,Option.bind_some];cases hb:XT h with
  |false =>
   rw[QCU h _ _ hm hb];exact⟨(h,false),rfl,rfl,hm⟩
  |true =>
   have ho:=QgB h hm hb;have hcl:=Qfo _ ho.cS (by omega)
   have htl:=QhQ h ho.trials;obtain⟨k2,hk2,hins,hix,hlo,hhi⟩:=c4 hc;have hids:=Qu3 h m1 m2.1 (fun x hx=>m2.2 x hx) m4 ho.trials
   have hkk:k=k2:=by
    by_cases h1:k<k2
    ·have:=hf2 (by omega)
     simp only[Qn (show k<h.Trials.length by omega),decide_eq_false_iff_not]at this
     rw[hids k (by omega) (by omega)]at this
     exact absurd (hlo k (by omega) h1) this
    ·by_cases h2:k2<k
     ·have:=hf1 k2 h2
      simp only[Qn (show k2<h.Trials.length by omega),decide_eq_true_eq]at this
      rw[hids k2 (by omega) (by omega)]at this
      exact absurd this (hhi k2 (by omega) (Nat.le_refl _))
     ·omega
   have hil:=Qek h.Trials k hk (⟨a,0,0,0⟩:Trial);have wo:Qi ⟨h.No,h.Finds,h.Secrets,h.Slots,c.1,Vx h.Trials (k:Int) [⟨a,0,0,0⟩],h.Chain,h.Book,h.Now⟩:=⟨m1,m2,m3,c3,by show(Vx h.Trials (k:Int) [⟨a,0,0,0⟩]).length≤_;omega,m6,m7⟩
   have hslot:(!decide ((bif decide (t=0)||decide (ZK h.Slots t<0)then(0:Int)else(gt h.Slots (ZK h.Slots t)).Id)=0))=Zg h.Slots t:=by
    unfold Zg;cases decide (t=0)with
    |true=>rfl
    |false =>
     rcases QdP h.Slots t with⟨_,h2⟩|⟨j,hj,h2,_,_⟩
     ·rw[h2];rfl
     ·rw[h2]
      have hs2:1≤h.Slots[j].Id:=by
       obtain⟨q,q1,_,q3⟩:=QlL h.Slots m3;rw[ho.tS]at q1;exact(q3 (Option.some.inj q1).symm).2 _ (List.getElem_mem hj)
      simp only[Bool.false_or,decide_eq_false (show ¬(j:Int)<0 by omega),cond_false,Qn hj,decide_eq_false (show ¬h.Slots[j].Id=0 by omega)]
   rw[hslot,Qci h _ _ hm wo];refine⟨_,rfl,?_,Z1 _ _ _ hm wo⟩;simp only[Bool.not_true,cond_false,Option.bind_some,v2];cases Zg h.Slots t with
   |false=>rfl
   |true =>
    simp only[Bool.not_true,cond_false,Qhs c.1 a c3,hix,Option.bind_some,←hkk,QkR h.Trials k hk (⟨a,0,0,0⟩:Trial) 32 m5 (by omega),Qa,Qvx h _ hm wo]
end Go.Proofs.YtonidbheohhgdaaGreat
namespace Go.Proofs.YtonidbheohhgdaaGreat
open Go
set_option linter.unusedVariables false
set_option linter.unusedSimpArgs false
theorem QbQ(l:List Claim)(id:Int)(hl:l.length≤1048576):J9 l id=some (QaG l id)∧Jj l id=some (QaG l id):=by
 have hs:=XY l (fun x=>decide (x.Id=id)) (fun i=>(i:Int)) (step:=Jl l id)
  (fun i hi=>by
   simp only[Jl,Qr hi,Qe hi,Qn hi,Qy (show(i:Int)<9223372036854775807 by omega),cond_true,Qa]
   cases decide (l[i].Id=id)<;>rfl)
  (by simp only[Jl,Qv (Nat.le_refl _),cond_false])
 refine⟨?_,Qhs l id hl⟩;unfold J9 QaG;rw[hs];cases l.findIdx? (fun x=>decide (x.Id=id))<;>rfl
end Go.Proofs.YtonidbheohhgdaaGreat
