import Derived.Test.YtkgadcbajihilaaGreatDoorFn
import Derived.Test.YtkgadcbajihilaaGreatDoorPyMk0
set_option maxHeartbeats 4000000
set_option linter.unusedVariables false
set_option linter.unusedSimpArgs false
set_option linter.defProp false
set_option maxRecDepth 100000
namespace Go.Proofs.YtkgadcbajihilaaGreatDoor
open Go
def jM(x:QB):Prop:=True
def vT(a:List QB)(k:Int)(h:a.length≤2097152)(hP:∀x∈a,jM x)(h0:0≤k)(hk:k≤1152921504606846976):∃a' k',Fg a k=some (a',k')∧FG a' k=some k'∧k≤k'∧k'≤k+16777216:=by
 have hW:((a.length:Nat):Int)*8≤2097152*8:=few (by omega) (by omega)
 obtain⟨a',k',e1,e2,e3,e4⟩:=IH (sm:=AL) (sh:=λa=>Ak a) (W:=8) (B:=2305843009213693952) (M:=2097152) (P:=jM) (by omega) (λa k i hi hM hx h0 h1=>by
  refine⟨(⟨⟨k,k+1,k+1+1,k+1+1+1,k+1+1+1+1⟩,k+1+1+1+1+1,k+1+1+1+1+1+1,k+1+1+1+1+1+1+1⟩:QB),k+1+1+1+1+1+1+1+1,?_,by omega,by omega,λb hb hy=>?_⟩
  ·simp(disch:=omega) only[AL,Q0 hi,QP hi,Q3 hi,Int.toNat_natCast,VD,Qc,Qb,QL,Qa,Int.natCast_succ]
  ·simp(disch:=omega) only[Ak,Q0 hb,QP hb,Q3 hb,hy,VD,eq_self,decide_true,Qh,Qc,Qb,QL,Qa,Int.natCast_succ]
  )
  (λa k=>by simp only[AL,Q6 (Qg _),Qb])
  (λa k=>by simp only[Ak,Q6 (Qg _),Qb]) a k h hP h0 (by omega)
 exact⟨a',k',by unfold Fg;rw[e1];rfl,by unfold FG;rw[e2];rfl,e3,by omega⟩
def kD(x:Mark):Prop:=True
def wU(a:List Mark)(k:Int)(h:a.length≤2097152)(hP:∀x∈a,kD x)(h0:0≤k)(hk:k≤1152921504606846976):∃a' k',FC a k=some (a',k')∧Fn a' k=some k'∧k≤k'∧k'≤k+4194304:=by
 have hW:((a.length:Nat):Int)*2≤2097152*2:=few (by omega) (by omega)
 obtain⟨a',k',e1,e2,e3,e4⟩:=IH (sm:=Av) (sh:=λa=>Aw a) (W:=2) (B:=2305843009213693952) (M:=2097152) (P:=kD) (by omega) (λa k i hi hM hx h0 h1=>by
  refine⟨(⟨k,k+1⟩:Mark),k+1+1,?_,by omega,by omega,λb hb hy=>?_⟩
  ·simp(disch:=omega) only[Av,Q0 hi,QP hi,Q3 hi,Int.toNat_natCast,VD,Qc,Qb,QL,Qa,Int.natCast_succ]
  ·simp(disch:=omega) only[Aw,Q0 hb,QP hb,Q3 hb,hy,VD,eq_self,decide_true,Qh,Qc,Qb,QL,Qa,Int.natCast_succ]
  )
  (λa k=>by simp only[Av,Q6 (Qg _),Qb])
  (λa k=>by simp only[Aw,Q6 (Qg _),Qb]) a k h hP h0 (by omega)
 exact⟨a',k',by unfold FC;rw[e1];rfl,by unfold Fn;rw[e2];rfl,e3,by omega⟩
def Mu(x:Qm):Prop:=x.Marks.length≤2097152
def mJ(a:List Qm)(k:Int)(h:a.length≤2097152)(hP:∀x∈a,Mu x)(h0:0≤k)(hk:k≤288230376151711744):∃a' k',DG a k=some (a',k')∧Dh a' k=some k'∧k≤k'∧k'≤k+8796097216512:=by
 have hW:((a.length:Nat):Int)*4194306≤2097152*4194306:=few (by omega) (by omega)
 obtain⟨a',k',e1,e2,e3,e4⟩:=IH (sm:=Zn) (sh:=λa=>Zj a) (W:=4194306) (B:=576460752303423488) (M:=2097152) (P:=Mu) (by omega) (λa k i hi hM hx h0 h1=>by
  have l1:_:=hx;obtain⟨n1,k1,f1,g1,u1,v1⟩:=wU (a[i]).Marks (k+1) l1 (λy hy=>trivial) (by omega) (by omega)
  refine⟨(⟨k,n1,k1⟩:Qm),k1+1,?_,by omega,by omega,λb hb hy=>?_⟩
  ·simp(disch:=omega) only[Zn,Q0 hi,QP hi,Q3 hi,Int.toNat_natCast,VD,Qc,Qb,QL,Qa,Int.natCast_succ,f1]
  ·simp(disch:=omega) only[Zj,Q0 hb,QP hb,Q3 hb,hy,VD,eq_self,decide_true,Qh,Qc,Qb,QL,Qa,Int.natCast_succ,g1,show decide (k1<0)=false from Qe (by omega)]
  )
  (λa k=>by simp only[Zn,Q6 (Qg _),Qb])
  (λa k=>by simp only[Zj,Q6 (Qg _),Qb]) a k h hP h0 (by omega)
 exact⟨a',k',by unfold DG;rw[e1];rfl,by unfold Dh;rw[e2];rfl,e3,by omega⟩
def kx(x:Qr):Prop:=True
def Qax(a:List Qr)(k:Int)(h:a.length≤2097152)(hP:∀x∈a,kx x)(h0:0≤k)(hk:k≤1152921504606846976):∃a' k',FK a k=some (a',k')∧FA a' k=some k'∧k≤k'∧k'≤k+6291456:=by
 have hW:((a.length:Nat):Int)*3≤2097152*3:=few (by omega) (by omega)
 obtain⟨a',k',e1,e2,e3,e4⟩:=IH (sm:=Ap) (sh:=λa=>Az a) (W:=3) (B:=2305843009213693952) (M:=2097152) (P:=kx) (by omega) (λa k i hi hM hx h0 h1=>by
  refine⟨(⟨k,k+1,k+1+1⟩:Qr),k+1+1+1,?_,by omega,by omega,λb hb hy=>?_⟩
  ·simp(disch:=omega) only[Ap,Q0 hi,QP hi,Q3 hi,Int.toNat_natCast,VD,Qc,Qb,QL,Qa,Int.natCast_succ]
  ·simp(disch:=omega) only[Az,Q0 hb,QP hb,Q3 hb,hy,VD,eq_self,decide_true,Qh,Qc,Qb,QL,Qa,Int.natCast_succ]
  )
  (λa k=>by simp only[Ap,Q6 (Qg _),Qb])
  (λa k=>by simp only[Az,Q6 (Qg _),Qb]) a k h hP h0 (by omega)
 exact⟨a',k',by unfold FK;rw[e1];rfl,by unfold FA;rw[e2];rfl,e3,by omega⟩
def fw(x:Qu):Prop:=True
def ua(a:List Qu)(k:Int)(h:a.length≤2097152)(hP:∀x∈a,fw x)(h0:0≤k)(hk:k≤1152921504606846976):∃a' k',Ee a k=some (a',k')∧Eh a' k=some k'∧k≤k'∧k'≤k+10485760:=by
 have hW:((a.length:Nat):Int)*5≤2097152*5:=few (by omega) (by omega)
 obtain⟨a',k',e1,e2,e3,e4⟩:=IH (sm:=ZS) (sh:=λa=>ZD a) (W:=5) (B:=2305843009213693952) (M:=2097152) (P:=fw) (by omega) (λa k i hi hM hx h0 h1=>by
  refine⟨(⟨k,k+1,k+1+1,k+1+1+1,k+1+1+1+1⟩:Qu),k+1+1+1+1+1,?_,by omega,by omega,λb hb hy=>?_⟩
  ·simp(disch:=omega) only[ZS,Q0 hi,QP hi,Q3 hi,Int.toNat_natCast,VD,Qc,Qb,QL,Qa,Int.natCast_succ]
  ·simp(disch:=omega) only[ZD,Q0 hb,QP hb,Q3 hb,hy,VD,eq_self,decide_true,Qh,Qc,Qb,QL,Qa,Int.natCast_succ]
  )
  (λa k=>by simp only[ZS,Q6 (Qg _),Qb])
  (λa k=>by simp only[ZD,Q6 (Qg _),Qb]) a k h hP h0 (by omega)
 exact⟨a',k',by unfold Ee;rw[e1];rfl,by unfold Eh;rw[e2];rfl,e3,by omega⟩
def eB(x:Qp):Prop:=True
def tV(a:List Qp)(k:Int)(h:a.length≤2097152)(hP:∀x∈a,eB x)(h0:0≤k)(hk:k≤1152921504606846976):∃a' k',Eb a k=some (a',k')∧Em a' k=some k'∧k≤k'∧k'≤k+8388608:=by
 have hW:((a.length:Nat):Int)*4≤2097152*4:=few (by omega) (by omega)
 obtain⟨a',k',e1,e2,e3,e4⟩:=IH (sm:=ZU) (sh:=λa=>ZL a) (W:=4) (B:=2305843009213693952) (M:=2097152) (P:=eB) (by omega) (λa k i hi hM hx h0 h1=>by
  refine⟨(⟨k,k+1,k+1+1,k+1+1+1⟩:Qp),k+1+1+1+1,?_,by omega,by omega,λb hb hy=>?_⟩
  ·simp(disch:=omega) only[ZU,Q0 hi,QP hi,Q3 hi,Int.toNat_natCast,VD,Qc,Qb,QL,Qa,Int.natCast_succ]
  ·simp(disch:=omega) only[ZL,Q0 hb,QP hb,Q3 hb,hy,VD,eq_self,decide_true,Qh,Qc,Qb,QL,Qa,Int.natCast_succ]
  )
  (λa k=>by simp only[ZU,Q6 (Qg _),Qb])
  (λa k=>by simp only[ZL,Q6 (Qg _),Qb]) a k h hP h0 (by omega)
 exact⟨a',k',by unfold Eb;rw[e1];rfl,by unfold Em;rw[e2];rfl,e3,by omega⟩
def lu(x:Hand):Prop:=True
def xi(a:List Hand)(k:Int)(h:a.length≤2097152)(hP:∀x∈a,lu x)(h0:0≤k)(hk:k≤1152921504606846976):∃a' k',Fu a k=some (a',k')∧Fq a' k=some k'∧k≤k'∧k'≤k+10485760:=by
 have hW:((a.length:Nat):Int)*5≤2097152*5:=few (by omega) (by omega)
 obtain⟨a',k',e1,e2,e3,e4⟩:=IH (sm:=AM) (sh:=λa=>Ar a) (W:=5) (B:=2305843009213693952) (M:=2097152) (P:=lu) (by omega) (λa k i hi hM hx h0 h1=>by
  refine⟨(⟨k,k+1,k+1+1,k+1+1+1,k+1+1+1+1⟩:Hand),k+1+1+1+1+1,?_,by omega,by omega,λb hb hy=>?_⟩
  ·simp(disch:=omega) only[AM,Q0 hi,QP hi,Q3 hi,Int.toNat_natCast,VD,Qc,Qb,QL,Qa,Int.natCast_succ]
  ·simp(disch:=omega) only[Ar,Q0 hb,QP hb,Q3 hb,hy,VD,eq_self,decide_true,Qh,Qc,Qb,QL,Qa,Int.natCast_succ]
  )
  (λa k=>by simp only[AM,Q6 (Qg _),Qb])
  (λa k=>by simp only[Ar,Q6 (Qg _),Qb]) a k h hP h0 (by omega)
 exact⟨a',k',by unfold Fu;rw[e1];rfl,by unfold Fq;rw[e2];rfl,e3,by omega⟩
def fk(x:Entry):Prop:=True
def sq(a:List Entry)(k:Int)(h:a.length≤2097152)(hP:∀x∈a,fk x)(h0:0≤k)(hk:k≤1152921504606846976):∃a' k',Ek a k=some (a',k')∧El a' k=some k'∧k≤k'∧k'≤k+8388608:=by
 have hW:((a.length:Nat):Int)*4≤2097152*4:=few (by omega) (by omega)
 obtain⟨a',k',e1,e2,e3,e4⟩:=IH (sm:=ZI) (sh:=λa=>ZF a) (W:=4) (B:=2305843009213693952) (M:=2097152) (P:=fk) (by omega) (λa k i hi hM hx h0 h1=>by
  refine⟨(⟨k,k+1,k+1+1,k+1+1+1⟩:Entry),k+1+1+1+1,?_,by omega,by omega,λb hb hy=>?_⟩
  ·simp(disch:=omega) only[ZI,Q0 hi,QP hi,Q3 hi,Int.toNat_natCast,VD,Qc,Qb,QL,Qa,Int.natCast_succ]
  ·simp(disch:=omega) only[ZF,Q0 hb,QP hb,Q3 hb,hy,VD,eq_self,decide_true,Qh,Qc,Qb,QL,Qa,Int.natCast_succ]
  )
  (λa k=>by simp only[ZI,Q6 (Qg _),Qb])
  (λa k=>by simp only[ZF,Q6 (Qg _),Qb]) a k h hP h0 (by omega)
 exact⟨a',k',by unfold Ek;rw[e1];rfl,by unfold El;rw[e2];rfl,e3,by omega⟩
def yW(h:Ql)(k:Int)(l1:h.Qt.length≤2097152)(l2:h.Qn.length≤2097152)(p2:∀x∈h.Qn,Mu x)(l3:h.Qs.length≤2097152)(l4:h.Qv.length≤2097152)(l5:h.Qq.length≤2097152)(l6:h.Qw.length≤2097152)(l7:h.Book.length≤2097152)(h0:0≤k)(hk:k≤1125899906842624):∃h' k',J5 h k=some (h',k')∧BS h' k=some k'∧k≤k'∧k'≤k+8796158033920:=by
 obtain⟨n1,k1,f1,g1,u1,v1⟩:=vT h.Qt (k) l1 (λx _=>trivial) (by omega) (by omega)
 obtain⟨n2,k2,f2,g2,u2,v2⟩:=mJ h.Qn (k1) l2 (p2) (by omega) (by omega)
 obtain⟨n3,k3,f3,g3,u3,v3⟩:=Qax h.Qs (k2) l3 (λx _=>trivial) (by omega) (by omega)
 obtain⟨n4,k4,f4,g4,u4,v4⟩:=ua h.Qv (k3) l4 (λx _=>trivial) (by omega) (by omega)
 obtain⟨n5,k5,f5,g5,u5,v5⟩:=tV h.Qq (k4) l5 (λx _=>trivial) (by omega) (by omega)
 obtain⟨n6,k6,f6,g6,u6,v6⟩:=xi h.Qw (k5) l6 (λx _=>trivial) (by omega) (by omega)
 obtain⟨n7,k7,f7,g7,u7,v7⟩:=sq h.Book (k6) l7 (λx _=>trivial) (by omega) (by omega)
 refine⟨(⟨h.No,n1,n2,n3,n4,n5,n6,n7,h.Now⟩:Ql),k7,?_,?_,by omega,by omega⟩
 ·simp only[J5,f1,f2,f3,f4,f5,f6,f7,Qa]
 ·simp only[BS,g1,show decide (k1<0)=false from Qe (by omega),g2,show decide (k2<0)=false from Qe (by omega),g3,show decide (k3<0)=false from Qe (by omega),g4,show decide (k4<0)=false from Qe (by omega),g5,show decide (k5<0)=false from Qe (by omega),g6,show decide (k6<0)=false from Qe (by omega),g7,show decide (k7<0)=false from Qe (by omega),Qa,Qb]
end Go.Proofs.YtkgadcbajihilaaGreatDoor
