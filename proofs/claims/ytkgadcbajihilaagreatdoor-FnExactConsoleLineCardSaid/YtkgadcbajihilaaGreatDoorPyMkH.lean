import Derived.Test.YtkgadcbajihilaaGreatDoorMk
import Derived.Test.YtkgadcbajihilaaGreatDoorFam
set_option linter.unusedVariables false
set_option linter.unusedSimpArgs false
set_option linter.defProp false
namespace Go.Proofs.YtkgadcbajihilaaGreatDoor
open Go
def jR{a b:Ql}{k k':Int}(h:J5 a k=some (b,k')):b.No=a.No∧b.Now=a.Now:=by
 simp only[J5,Option.bind_eq_some_iff,Option.some.injEq,Prod.mk.injEq]at h;obtain⟨r1,_,r2,_,r3,_,r4,_,r5,_,r6,_,r7,_,h,_⟩:=h;subst h;exact⟨rfl,rfl⟩
def eD(h:Ql)(hm:QX h):∃n k,J5 h 1=some (n,k)∧BS (⟨h.No,n.Qt,n.Qn,n.Qs,n.Qv,n.Qq,n.Qw,n.Book,h.Now⟩:Ql) 1=some k∧decide (k<0)=false∧k≤8796158033921:=by
 obtain⟨s1,s2,s3,s4,s5,s6,s7⟩:=hm;obtain⟨n,k,q2,q3,u2,v2⟩:=yW h 1 (by omega) (by have:=s2.1;omega) (λx hx=>by have:=s2.2 x hx;unfold JU at this;unfold Mu;omega) (by omega) (by omega) (by omega) (by omega) (by omega) (by omega) (by omega)
 obtain⟨h1,h2⟩:=jR q2;exact⟨n,k,q2,by rw[←h1,←h2];exact q3,Qe (by omega),by omega⟩
end Go.Proofs.YtkgadcbajihilaaGreatDoor
