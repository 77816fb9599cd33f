import Derived.Test.YtkgadcbajihilaaGreatDoorPz7
import Derived.Test.YtkgadcbajihilaaGreatDoorPyMkH
set_option linter.unusedVariables false
set_option linter.unusedSimpArgs false
set_option linter.defProp false
namespace Go.Proofs.YtkgadcbajihilaaGreatDoor
open Go
def Lk.of_ok{h:Ql}(ho:T9 h):Lk h:=by
 obtain⟨o1,o2,o3,o4,o5,o6,o7,o8,o9⟩:=ho;exact⟨o1,o9,λx hx=>⟨(o4.2 x hx).1,(o4.2 x hx).2.2⟩,λx hx=>⟨(o5.2 x hx).1,(o5.2 x hx).2.1,(o5.2 x hx).2.2.1⟩,λx hx=>⟨(o7.2 x hx).2.2.1,(o7.2 x hx).2.2.2.1⟩,λx hx=>(o2.2 x hx).1.1⟩
def L3(aH:Ql)(a:List UInt8)(h1:T9 aH)(h2:jL a):As aH a=some true:=by
 unfold As;by_cases hl:1048576<a.length
 ·rw[show decide (1048576<ln a)=true from Qf (by rw[Vp];omega)];rfl
 rw[show decide (1048576<ln a)=false from Qe (by rw[Vp];omega),Qb]
 obtain⟨r,e,hle,h|⟨hp,hs⟩⟩:=oc aH 1048576 h1 (by omega) (by omega)
 ·subst h;rw[e];rfl
 have hd:decide (r<0)=false:=Qe (by omega)
 obtain⟨g,g1,g2,hsm,_⟩:=jy aH a hs (Lk.of_ok h1) (by omega)
 obtain⟨n1,k1,p1,_,p3,p4⟩:=eD aH hs;have hk1:¬k1<0:=by simpa using p3
 obtain⟨n2,k2,q2,q3,hk2,_⟩:=eD g.1 hsm;simp only[e,hd,mO aH hs,g1,g2,Sz g.1 hsm,Sz aH hs,p1,p3,q2,q3,hk2,Qa,Qb,Qh,decide_true,Bool.or_self,Bool.or_false]
end Go.Proofs.YtkgadcbajihilaaGreatDoor
