import Derived.Test.YtkgadcbajihilaaGreatDoorFn
import Derived.Test.YtkgadcbajihilaaGreatDoorPl
set_option maxHeartbeats 4000000
set_option linter.unusedVariables false
set_option linter.unusedSimpArgs false
set_option linter.defProp false
set_option maxRecDepth 100000
namespace Go.Proofs.YtkgadcbajihilaaGreatDoor
open Go
def Nk{n b:Nat}(h:n≤1048576)(hb:b≤1024):sO (n:Int) b=true:=by
 unfold sO;have h1:n*b≤1048576*1024:=Nat.mul_le_mul h hb;have h2:=Int.ofNat_le.2 h1;rw[Int.natCast_mul]at h2;have h3:(n:Int)*(b:Int)≤140737488355328:=by omega
 simp only[h3,Int.natCast_nonneg,decide_true,Bool.and_self]
def VU{n b:Nat}(h:n≤2000000)(hb:b≤1024):rm n b=true:=by
 unfold rm;have h1:n*b≤2000000*1024:=Nat.mul_le_mul h hb;have h3:n*b≤140737488355328:=by omega
 simp only[h3,decide_true]
def dn(a:Qo):FY a=some a:=by first|rfl|(simp only[FY,Qa];done)|(simp only[FY,Qa];rfl)
def sG(a:QB):G5 a=some a:=by first|rfl|(simp only[G5,dn,Qa];done)|(simp only[G5,dn,Qa];rfl)
def bo(a:List QB)(h:a.length≤1048576):HI a=some a:=by
 have hr:=II a (λx=>x) (⟨⟨0,0,0,0,0⟩,0,0,0⟩:QB) (step:=Cd a) (by omega) (λi out hi ho=>by
  simp only[Cd,Q0 hi,QP hi,Q3 hi,sG,QP (show i<out.length by omega),Int.toNat_natCast,Vg (show(i:Int)<9223372036854775807 by omega),Qc,QL,Qa])
  (λout=>by simp only[Cd,Q6 (Qg _),Qb])
 unfold HI;rw[Vp,Nk h (by omega),Int.toNat_natCast]
 simp only[QL,hr,List.map_id',Qa]
def rO(a:Mark):Ha a=some a:=by first|rfl|(simp only[Ha,Qa];done)|(simp only[Ha,Qa];rfl)
def ah(a:List Mark)(h:a.length≤1048576):HS a=some a:=by
 have hr:=II a (λx=>x) (⟨0,0⟩:Mark) (step:=Cs a) (by omega) (λi out hi ho=>by
  simp only[Cs,Q0 hi,QP hi,Q3 hi,rO,QP (show i<out.length by omega),Int.toNat_natCast,Vg (show(i:Int)<9223372036854775807 by omega),Qc,QL,Qa])
  (λout=>by simp only[Cs,Q6 (Qg _),Qb])
 unfold HS;rw[Vp,Nk h (by omega),Int.toNat_natCast]
 simp only[QL,hr,List.map_id',Qa]
def tj(a:Qr):G9 a=some a:=by first|rfl|(simp only[G9,Qa];done)|(simp only[G9,Qa];rfl)
def df(a:List Qr)(h:a.length≤1048576):Hv a=some a:=by
 have hr:=II a (λx=>x) (⟨0,0,0⟩:Qr) (step:=Cg a) (by omega) (λi out hi ho=>by
  simp only[Cg,Q0 hi,QP hi,Q3 hi,tj,QP (show i<out.length by omega),Int.toNat_natCast,Vg (show(i:Int)<9223372036854775807 by omega),Qc,QL,Qa])
  (λout=>by simp only[Cg,Q6 (Qg _),Qb])
 unfold Hv;rw[Vp,Nk h (by omega),Int.toNat_natCast]
 simp only[QL,hr,List.map_id',Qa]
def nP(a:Qu):FV a=some a:=by first|rfl|(simp only[FV,Qa];done)|(simp only[FV,Qa];rfl)
def WR(a:List Qu)(h:a.length≤1048576):Gr a=some a:=by
 have hr:=II a (λx=>x) (⟨0,0,0,0,0⟩:Qu) (step:=BQ a) (by omega) (λi out hi ho=>by
  simp only[BQ,Q0 hi,QP hi,Q3 hi,nP,QP (show i<out.length by omega),Int.toNat_natCast,Vg (show(i:Int)<9223372036854775807 by omega),Qc,QL,Qa])
  (λout=>by simp only[BQ,Q6 (Qg _),Qb])
 unfold Gr;rw[Vp,Nk h (by omega),Int.toNat_natCast]
 simp only[QL,hr,List.map_id',Qa]
def mL(a:Qp):F4 a=some a:=by first|rfl|(simp only[F4,Qa];done)|(simp only[F4,Qa];rfl)
def WT(a:List Qp)(h:a.length≤1048576):GG a=some a:=by
 have hr:=II a (λx=>x) (⟨0,0,0,0⟩:Qp) (step:=BE a) (by omega) (λi out hi ho=>by
  simp only[BE,Q0 hi,QP hi,Q3 hi,mL,QP (show i<out.length by omega),Int.toNat_natCast,Vg (show(i:Int)<9223372036854775807 by omega),Qc,QL,Qa])
  (λout=>by simp only[BE,Q6 (Qg _),Qb])
 unfold GG;rw[Vp,Nk h (by omega),Int.toNat_natCast]
 simp only[QL,hr,List.map_id',Qa]
def so(a:Hand):G8 a=some a:=by first|rfl|(simp only[G8,Qa];done)|(simp only[G8,Qa];rfl)
def cg(a:List Hand)(h:a.length≤1048576):Ht a=some a:=by
 have hr:=II a (λx=>x) (⟨0,0,0,0,0⟩:Hand) (step:=Ct a) (by omega) (λi out hi ho=>by
  simp only[Ct,Q0 hi,QP hi,Q3 hi,so,QP (show i<out.length by omega),Int.toNat_natCast,Vg (show(i:Int)<9223372036854775807 by omega),Qc,QL,Qa])
  (λout=>by simp only[Ct,Q6 (Qg _),Qb])
 unfold Ht;rw[Vp,Nk h (by omega),Int.toNat_natCast]
 simp only[QL,hr,List.map_id',Qa]
def nx(a:Entry):FM a=some a:=by first|rfl|(simp only[FM,Qa];done)|(simp only[FM,Qa];rfl)
def WG(a:List Entry)(h:a.length≤1048576):Gv a=some a:=by
 have hr:=II a (λx=>x) (⟨0,0,0,0⟩:Entry) (step:=BR a) (by omega) (λi out hi ho=>by
  simp only[BR,Q0 hi,QP hi,Q3 hi,nx,QP (show i<out.length by omega),Int.toNat_natCast,Vg (show(i:Int)<9223372036854775807 by omega),Qc,QL,Qa])
  (λout=>by simp only[BR,Q6 (Qg _),Qb])
 unfold Gv;rw[Vp,Nk h (by omega),Int.toNat_natCast]
 simp only[QL,hr,List.map_id',Qa]
def gK(a:Qo):HD a a=some true:=by simp[HD]
def lM(a:QB):IE a a=some true:=by simp[IE,gK]
def iP(a:List QB)(h:a.length≤1048576):Hu a a=some true:=by
 have hr:=IF a (step:=B7 a a) (λi (_:Unit)=>(i:Int)) (λ_ _ _=>some (.inl ())) (λ_=>some (.brk ())) ()
  (λi s hi=>by simp only[B7,Q0 hi,QP hi,Q3 hi,lM,Vg (show(i:Int)<9223372036854775807 by omega),Qc,Qb,QL,Qa,Qh,Option.map_some,Sum.map_inl,decide_true])
  (λs=>by simp only[B7,Q6 (Qg _),Qb,Option.map_some])
 rw[DZ (g:=λ_ _=>()) a 0 () (λ_ _ _ _=>rfl)]at hr
 unfold Hu;simp only[decide_true,Qh,Qb];rw[show((0:Int))=((0:Nat):Int)from rfl,hr];rfl
def jV(a:Mark):IQ a a=some true:=by simp[IQ]
def iq(a:List Mark)(h:a.length≤1048576):Hi a a=some true:=by
 have hr:=IF a (step:=Cu a a) (λi (_:Unit)=>(i:Int)) (λ_ _ _=>some (.inl ())) (λ_=>some (.brk ())) ()
  (λi s hi=>by simp only[Cu,Q0 hi,QP hi,Q3 hi,jV,Vg (show(i:Int)<9223372036854775807 by omega),Qc,Qb,QL,Qa,Qh,Option.map_some,Sum.map_inl,decide_true])
  (λs=>by simp only[Cu,Q6 (Qg _),Qb,Option.map_some])
 rw[DZ (g:=λ_ _=>()) a 0 () (λ_ _ _ _=>rfl)]at hr
 unfold Hi;simp only[decide_true,Qh,Qb];rw[show((0:Int))=((0:Nat):Int)from rfl,hr];rfl
def j6(a:Qr):Iy a a=some true:=by simp[Iy]
def gl(a:List Qr)(h:a.length≤1048576):Hy a a=some true:=by
 have hr:=IF a (step:=Cf a a) (λi (_:Unit)=>(i:Int)) (λ_ _ _=>some (.inl ())) (λ_=>some (.brk ())) ()
  (λi s hi=>by simp only[Cf,Q0 hi,QP hi,Q3 hi,j6,Vg (show(i:Int)<9223372036854775807 by omega),Qc,Qb,QL,Qa,Qh,Option.map_some,Sum.map_inl,decide_true])
  (λs=>by simp only[Cf,Q6 (Qg _),Qb,Option.map_some])
 rw[DZ (g:=λ_ _=>()) a 0 () (λ_ _ _ _=>rfl)]at hr
 unfold Hy;simp only[decide_true,Qh,Qb];rw[show((0:Int))=((0:Nat):Int)from rfl,hr];rfl
def iG(a:Qu):HG a a=some true:=by simp[HG]
def dO(a:List Qu)(h:a.length≤1048576):Gz a a=some true:=by
 have hr:=IF a (step:=BO a a) (λi (_:Unit)=>(i:Int)) (λ_ _ _=>some (.inl ())) (λ_=>some (.brk ())) ()
  (λi s hi=>by simp only[BO,Q0 hi,QP hi,Q3 hi,iG,Vg (show(i:Int)<9223372036854775807 by omega),Qc,Qb,QL,Qa,Qh,Option.map_some,Sum.map_inl,decide_true])
  (λs=>by simp only[BO,Q6 (Qg _),Qb,Option.map_some])
 rw[DZ (g:=λ_ _=>()) a 0 () (λ_ _ _ _=>rfl)]at hr
 unfold Gz;simp only[decide_true,Qh,Qb];rw[show((0:Int))=((0:Nat):Int)from rfl,hr];rfl
def gT(a:Qp):HH a a=some true:=by simp[HH]
def dC(a:List Qp)(h:a.length≤1048576):GJ a a=some true:=by
 have hr:=IF a (step:=BI a a) (λi (_:Unit)=>(i:Int)) (λ_ _ _=>some (.inl ())) (λ_=>some (.brk ())) ()
  (λi s hi=>by simp only[BI,Q0 hi,QP hi,Q3 hi,gT,Vg (show(i:Int)<9223372036854775807 by omega),Qc,Qb,QL,Qa,Qh,Option.map_some,Sum.map_inl,decide_true])
  (λs=>by simp only[BI,Q6 (Qg _),Qb,Option.map_some])
 rw[DZ (g:=λ_ _=>()) a 0 () (λ_ _ _ _=>rfl)]at hr
 unfold GJ;simp only[decide_true,Qh,Qb];rw[show((0:Int))=((0:Nat):Int)from rfl,hr];rfl
def kL(a:Hand):IN a a=some true:=by simp[IN]
def gf(a:List Hand)(h:a.length≤1048576):HZ a a=some true:=by
 have hr:=IF a (step:=Cp a a) (λi (_:Unit)=>(i:Int)) (λ_ _ _=>some (.inl ())) (λ_=>some (.brk ())) ()
  (λi s hi=>by simp only[Cp,Q0 hi,QP hi,Q3 hi,kL,Vg (show(i:Int)<9223372036854775807 by omega),Qc,Qb,QL,Qa,Qh,Option.map_some,Sum.map_inl,decide_true])
  (λs=>by simp only[Cp,Q6 (Qg _),Qb,Option.map_some])
 rw[DZ (g:=λ_ _=>()) a 0 () (λ_ _ _ _=>rfl)]at hr
 unfold HZ;simp only[decide_true,Qh,Qb];rw[show((0:Int))=((0:Nat):Int)from rfl,hr];rfl
def gb(a:Entry):Hz a a=some true:=by simp[Hz]
def dP(a:List Entry)(h:a.length≤1048576):GA a a=some true:=by
 have hr:=IF a (step:=Bv a a) (λi (_:Unit)=>(i:Int)) (λ_ _ _=>some (.inl ())) (λ_=>some (.brk ())) ()
  (λi s hi=>by simp only[Bv,Q0 hi,QP hi,Q3 hi,gb,Vg (show(i:Int)<9223372036854775807 by omega),Qc,Qb,QL,Qa,Qh,Option.map_some,Sum.map_inl,decide_true])
  (λs=>by simp only[Bv,Q6 (Qg _),Qb,Option.map_some])
 rw[DZ (g:=λ_ _=>()) a 0 () (λ_ _ _ _=>rfl)]at hr
 unfold GA;simp only[decide_true,Qh,Qb];rw[show((0:Int))=((0:Nat):Int)from rfl,hr];rfl
def tX{α:Type}(ok:α→Prop)(l:List α):Prop:=l.length≤1048576∧∀x∈l,ok x
def Mg{n:Nat}{left:Int}(hn:(n:Int)≤9223372036854775807)(h0:0≤left)(h1:left≤1048576) :
  ∃r,(bif decide (QU (left-(n:Int))<0)then some (-1)else some (QU (left-(n:Int))))=some r∧r≤left∧(r=-1∨(0≤r∧n≤1048576)):=by
 rw[VD (by omega) (by omega)]
 by_cases h:left-(n:Int)<0
 ·exact⟨-1,by rw[Qf h];rfl,by omega,.inl rfl⟩
 ·exact⟨left-n,by rw[Qe h];rfl,by omega,.inr ⟨by omega,by omega⟩⟩
def QjK{α:Type}{l:List α}{sm:α→Prop}{sz:α→Int→Option Int}{step:(Int×Int)→Option ((Int×Int)⊕(Fl Int Int))}
  (hsz:∀x∈l,∀left,0≤left→left≤1048576→∃r,sz x left=some r∧r≤left∧(r=-1∨(0≤r∧sm x)))
  (h1:∀(i:Nat) (left:Int) (h:i<l.length),step (left,(i:Int))=(sz l[i] left).bind λr=>(bif decide (r<0)then some (.inr (.ret (-1)))else some (.inl (r,((i+1:Nat):Int)))))
  (h2:∀left,step (left,(l.length:Int))=some (.inr (.brk left))) :
  ∀(m i:Nat) (left:Int),i+m=l.length→0≤left→left≤1048576→∃c,run step (left,(i:Int))=some c∧(c=.ret (-1)∨∃r,c=.brk r∧0≤r∧r≤left∧∀x∈l.drop i,sm x):=by
 intro m
 induction m with
 |zero =>
  intro i left hi g0 g1;have:i=l.length:=by omega
  subst this;exact⟨.brk left,by rw[Vk,h2];rfl,.inr ⟨left,rfl,g0,Int.le_refl _,by simp⟩⟩
 |succ m ih =>
  intro i left hi g0 g1;have hlt:i<l.length:=by omega
  obtain⟨r,e,hr,h|⟨h,hs⟩⟩:=hsz l[i] (List.getElem_mem hlt) left g0 g1
  ·subst h
   exact⟨.ret (-1),by rw[Vk,h1 i left hlt,e];rfl,.inl rfl⟩
  ·obtain⟨c,e2,h2⟩:=ih (i+1) r (by omega) h (by omega)
   have hd:decide (r<0)=false:=Qe (by omega)
   refine⟨c,by rw[Vk,h1 i left hlt,e];simp only[Qa,hd,Qb];exact e2,?_⟩
   rcases h2 with h2|⟨r',h2,h3,h4,h5⟩
   ·exact .inl h2
   ·refine .inr ⟨r',h2,h3,by omega,λx hx=>?_⟩
    rw[List.drop_eq_getElem_cons hlt]at hx
    rcases List.mem_cons.1 hx with rfl|hx
    ·exact hs
    ·exact h5 x hx
def mZ(a:List QB)(left:Int)(ha:a.length≤9223372036854775807)(h0:0≤left)(h1:left≤1048576):∃r,Hm a left=some r∧r≤left∧(r=-1∨(0≤r∧a.length≤1048576)):=by
 unfold Hm;rw[Vp];exact Mg (by omega) h0 h1
def nD(a:List Mark)(left:Int)(ha:a.length≤9223372036854775807)(h0:0≤left)(h1:left≤1048576):∃r,HJ a left=some r∧r≤left∧(r=-1∨(0≤r∧a.length≤1048576)):=by
 unfold HJ;rw[Vp];exact Mg (by omega) h0 h1
def JU(x:Qm):Prop:=x.Marks.length≤1048576
def jt(a:Qm)(left:Int)(ha:Nj a)(h0:0≤left)(h1:left≤1048576):∃r,EF a left=some r∧r≤left∧(r=-1∨(0≤r∧JU a)):=by
 obtain⟨q0,q1,q2⟩:=ha;unfold EF;obtain⟨r1,e1,l1,h|⟨p1,s1⟩⟩:=nD a.Marks left q1.1 h0 (by omega)
 ·subst h;exact⟨-1,by simp only[e1,Qa,Qb];rfl,by omega,.inl rfl⟩
 exact⟨r1,by simp only[e1,Qe (show ¬r1<0 by omega),Qa,Qb],by omega,.inr ⟨p1,s1⟩⟩
def iA(a:List Qm)(left:Int)(ha:(ft Nj) a)(h0:0≤left)(h1:left≤1048576):∃r,Fi a left=some r∧r≤left∧(r=-1∨(0≤r∧tX JU a)):=by
 have hl:=ha.1;unfold Fi;rw[Vp,VD (by omega) (by omega)]
 by_cases h:left-(a.length:Int)<0
 ·exact⟨-1,by rw[Qf h];rfl,by omega,.inl rfl⟩
 rw[Qe h];obtain⟨c,e,hc⟩:=QjK (l:=a) (sm:=JU) (sz:=EF) (step:=AF a) (λx hx left g0 g1=>jt x left (ha.2 x hx) g0 g1)
  (λi left hi=>by simp only[AF,Q0 hi,QP hi,Q3 hi,Vg (show(i:Int)<9223372036854775807 by omega),Qc,QL])
  (λleft=>by simp only[AF,Q6 (Qg _),Qb]) a.length 0 (left-a.length) (by omega) (by omega) (by omega)
 rcases hc with rfl|⟨r,rfl,g0,g1,g2⟩
 ·exact⟨-1,by simp only[Qb];rw[show(0:Int)=((0:Nat):Int)from rfl,e];rfl,by omega,.inl rfl⟩
 ·exact⟨r,by simp only[Qb];rw[show(0:Int)=((0:Nat):Int)from rfl,e];rfl,by omega,.inr ⟨g0,by omega,by simpa using g2⟩⟩
def mv(a:List Qr)(left:Int)(ha:a.length≤9223372036854775807)(h0:0≤left)(h1:left≤1048576):∃r,Hs a left=some r∧r≤left∧(r=-1∨(0≤r∧a.length≤1048576)):=by
 unfold Hs;rw[Vp];exact Mg (by omega) h0 h1
def kY(a:List Qu)(left:Int)(ha:a.length≤9223372036854775807)(h0:0≤left)(h1:left≤1048576):∃r,GC a left=some r∧r≤left∧(r=-1∨(0≤r∧a.length≤1048576)):=by
 unfold GC;rw[Vp];exact Mg (by omega) h0 h1
def jX(a:List Qp)(left:Int)(ha:a.length≤9223372036854775807)(h0:0≤left)(h1:left≤1048576):∃r,GH a left=some r∧r≤left∧(r=-1∨(0≤r∧a.length≤1048576)):=by
 unfold GH;rw[Vp];exact Mg (by omega) h0 h1
def nK(a:List Hand)(left:Int)(ha:a.length≤9223372036854775807)(h0:0≤left)(h1:left≤1048576):∃r,Hq a left=some r∧r≤left∧(r=-1∨(0≤r∧a.length≤1048576)):=by
 unfold Hq;rw[Vp];exact Mg (by omega) h0 h1
def jp(a:List Entry)(left:Int)(ha:a.length≤9223372036854775807)(h0:0≤left)(h1:left≤1048576):∃r,GB a left=some r∧r≤left∧(r=-1∨(0≤r∧a.length≤1048576)):=by
 unfold GB;rw[Vp];exact Mg (by omega) h0 h1
def QX(x:Ql):Prop:=x.Qt.length≤1048576∧tX JU x.Qn∧x.Qs.length≤1048576∧x.Qv.length≤1048576∧x.Qq.length≤1048576∧x.Qw.length≤1048576∧x.Book.length≤1048576
def oc(a:Ql)(left:Int)(ha:T9 a)(h0:0≤left)(h1:left≤1048576):∃r,HE a left=some r∧r≤left∧(r=-1∨(0≤r∧QX a)):=by
 obtain⟨q0,q1,q2,q3,q4,q5,q6,q7,q8⟩:=ha;unfold HE;obtain⟨r1,e1,l1,h|⟨p1,s1⟩⟩:=mZ a.Qt left q1.1 h0 (by omega)
 ·subst h;exact⟨-1,by simp only[e1,Qa,Qb];rfl,by omega,.inl rfl⟩
 obtain⟨r2,e2,l2,h|⟨p2,s2⟩⟩:=iA a.Qn r1 q2 p1 (by omega)
 ·subst h;exact⟨-1,by simp only[e1,e2,Qe (show ¬r1<0 by omega),Qa,Qb];rfl,by omega,.inl rfl⟩
 obtain⟨r3,e3,l3,h|⟨p3,s3⟩⟩:=mv a.Qs r2 q3.1 p2 (by omega)
 ·subst h;exact⟨-1,by simp only[e1,e2,e3,Qe (show ¬r1<0 by omega),Qe (show ¬r2<0 by omega),Qa,Qb];rfl,by omega,.inl rfl⟩
 obtain⟨r4,e4,l4,h|⟨p4,s4⟩⟩:=kY a.Qv r3 q4.1 p3 (by omega)
 ·subst h;exact⟨-1,by simp only[e1,e2,e3,e4,Qe (show ¬r1<0 by omega),Qe (show ¬r2<0 by omega),Qe (show ¬r3<0 by omega),Qa,Qb];rfl,by omega,.inl rfl⟩
 obtain⟨r5,e5,l5,h|⟨p5,s5⟩⟩:=jX a.Qq r4 q5.1 p4 (by omega)
 ·subst h;exact⟨-1,by simp only[e1,e2,e3,e4,e5,Qe (show ¬r1<0 by omega),Qe (show ¬r2<0 by omega),Qe (show ¬r3<0 by omega),Qe (show ¬r4<0 by omega),Qa,Qb];rfl,by omega,.inl rfl⟩
 obtain⟨r6,e6,l6,h|⟨p6,s6⟩⟩:=nK a.Qw r5 q6.1 p5 (by omega)
 ·subst h;exact⟨-1,by simp only[e1,e2,e3,e4,e5,e6,Qe (show ¬r1<0 by omega),Qe (show ¬r2<0 by omega),Qe (show ¬r3<0 by omega),Qe (show ¬r4<0 by omega),Qe (show ¬r5<0 by omega),Qa,Qb];rfl,by omega,.inl rfl⟩
 obtain⟨r7,e7,l7,h|⟨p7,s7⟩⟩:=jp a.Book r6 q7.1 p6 (by omega)
 ·subst h;exact⟨-1,by simp only[e1,e2,e3,e4,e5,e6,e7,Qe (show ¬r1<0 by omega),Qe (show ¬r2<0 by omega),Qe (show ¬r3<0 by omega),Qe (show ¬r4<0 by omega),Qe (show ¬r5<0 by omega),Qe (show ¬r6<0 by omega),Qa,Qb];rfl,by omega,.inl rfl⟩
 exact⟨r7,by simp only[e1,e2,e3,e4,e5,e6,e7,Qe (show ¬r1<0 by omega),Qe (show ¬r2<0 by omega),Qe (show ¬r3<0 by omega),Qe (show ¬r4<0 by omega),Qe (show ¬r5<0 by omega),Qe (show ¬r6<0 by omega),Qe (show ¬r7<0 by omega),Qa,Qb],by omega,.inr ⟨p7,⟨s1,s2,s3,s4,s5,s6,s7⟩⟩⟩
def ju(a:Qm)(h:JU a):EQ a=some a:=by
 unfold JU at h;have s1:=h
 first|(simp only[EQ,ah _ s1,Qa];done)|(simp only[EQ,ah _ s1,Qa];rfl)
def Tz(a:List Qm)(h:tX JU a):Fo a=some a:=by
 have hl:=h.1;have hr:=II a (λx=>x) (⟨0,[],0⟩:Qm) (step:=AK a) (by omega) (λi out hi ho=>by
  simp only[AK,Q0 hi,QP hi,Q3 hi,ju _ (h.2 _ (List.getElem_mem hi)),QP (show i<out.length by omega),Int.toNat_natCast,Vg (show(i:Int)<9223372036854775807 by omega),Qc,QL,Qa])
  (λout=>by simp only[AK,Q6 (Qg _),Qb])
 unfold Fo;rw[Vp,Nk hl (by omega),Int.toNat_natCast]
 simp only[QL,hr,List.map_id',Qa]
def mO(a:Ql)(h:QX a):Be a=some a:=by
 unfold QX at h;obtain⟨s1,s2,s3,s4,s5,s6,s7⟩:=h
 first|(simp only[Be,bo _ s1,Tz _ s2,df _ s3,WR _ s4,WT _ s5,cg _ s6,WG _ s7,Qa];done)|(simp only[Be,bo _ s1,Tz _ s2,df _ s3,WR _ s4,WT _ s5,cg _ s6,WG _ s7,Qa];rfl)
def dY(a:Qm)(h:JU a):Gw a a=some true:=by
 unfold JU at h;have s1:=h;simp[Gw,iq _ s1]
def ae(a:List Qm)(h:tX JU a):FE a a=some true:=by
 have hl:=h.1;have hr:=IF a (step:=Aq a a) (λi (_:Unit)=>(i:Int)) (λ_ _ _=>some (.inl ())) (λ_=>some (.brk ())) ()
  (λi s hi=>by simp only[Aq,Q0 hi,QP hi,Q3 hi,dY _ (h.2 _ (List.getElem_mem hi)),Vg (show(i:Int)<9223372036854775807 by omega),Qc,Qb,QL,Qa,Qh,Option.map_some,Sum.map_inl,decide_true])
  (λs=>by simp only[Aq,Q6 (Qg _),Qb,Option.map_some])
 rw[DZ (g:=λ_ _=>()) a 0 () (λ_ _ _ _=>rfl)]at hr
 unfold FE;simp only[decide_true,Qh,Qb];rw[show((0:Int))=((0:Nat):Int)from rfl,hr];rfl
def Sz(a:Ql)(h:QX a):CJ a a=some true:=by
 unfold QX at h;obtain⟨s1,s2,s3,s4,s5,s6,s7⟩:=h;simp[CJ,iP _ s1,ae _ s2,gl _ s3,dO _ s4,dC _ s5,gf _ s6,dP _ s7]
end Go.Proofs.YtkgadcbajihilaaGreatDoor
