import Derived.Test.YtkgadcbajihilaaGreatDoorPl
set_option linter.unusedVariables false
set_option linter.unusedSimpArgs false
set_option linter.defProp false
namespace Go.Proofs.YtkgadcbajihilaaGreatDoor
open Go
def kJ{α:Type}{sm:(List α×Int×Int)→Option ((List α×Int×Int)⊕(List α×Int))}{sh:List α→(Int×Int)→Option ((Int×Int)⊕(Fl Int Int))}{W B:Int}{M:Nat}{P:α→Prop}(hW:0≤W)
  (hm:∀(a:List α) (k:Int) (i:Nat) (hi:i<a.length),a.length≤M→P a[i]→0≤k→k≤B→∃y k',sm (a,k,(i:Int))=some (.inl (a.set i y,k',((i+1:Nat):Int)))∧k≤k'∧k'≤k+W ∧
   ∀(b:List α) (hb:i<b.length),b[i]=y→sh b (k,(i:Int))=some (.inl (k',((i+1:Nat):Int))))
  (hme:∀(a:List α) (k:Int),sm (a,k,(a.length:Int))=some (.inr (a,k))) (hhe:∀(a:List α) (k:Int),sh a (k,(a.length:Int))=some (.inr (.brk k))) :
  ∀(m i:Nat) (a:List α) (k:Int),i+m=a.length→a.length≤M→(∀j (hj:j<a.length),i≤j→P a[j])→0≤k→k+(m:Int)*W≤B →
   ∃a' k',run sm (a,k,(i:Int))=some (a',k')∧a'.length=a.length∧a'.take i=a.take i∧run (sh a') (k,(i:Int))=some (.brk k')∧k≤k'∧k'≤k+(m:Int)*W
 |0,i,a,k,hi,hM,hP,h0,hB=>by
  have:i=a.length:=by omega
  subst this;exact⟨a,k,by rw[Vk,hme];rfl,rfl,rfl,by rw[Vk,hhe];rfl,by omega,by simp⟩
 |m+1,i,a,k,hi,hM,hP,h0,hB=>by
  have e1:(((m+1:Nat):Int))*W=(m:Int)*W+W:=by rw[Int.natCast_succ,Int.add_mul,Int.one_mul]
  have h2:0≤(m:Int)*W:=Int.mul_nonneg (Int.natCast_nonneg m) hW;rw[e1]at hB ⊢;have hil:i<a.length:=by omega
  obtain⟨y,k1,q1,q2,q3,q4⟩:=hm a k i hil hM (hP i hil (Qg _)) h0 (by omega)
  obtain⟨a',k',r1,r2,r3,r4,r5,r6⟩:=kJ hW hm hme hhe m (i+1) (a.set i y) k1 (by simp;omega) (by simpa using hM) (λj hj hij=>by
   rw[List.getElem_set_ne (by omega)]
   exact hP j (by simpa using hj) (by omega)) (by omega) (by omega)
  rw[List.length_set]at r2;have hy:a'[i]'(by omega)=y:=by
   have h3:=congrArg (·[i]?) r3
   simp only[List.getElem?_take,Nat.lt_succ_self,if_true]at h3;rw[List.getElem?_eq_getElem (show i<a'.length by omega),List.getElem?_eq_getElem (show i<(a.set i y).length by simpa using hil)]at h3
   injection h3 with h3
   rw[h3];simp
  refine⟨a',k',by rw[Vk,q1];exact r1,r2,?_,by rw[Vk,q4 a' (by omega) hy];exact r4,by omega,by omega⟩
  have h3:=congrArg (·.take i) r3
  simp only[List.take_take]at h3;rw[show min i (i+1)=i by omega]at h3
  rw[h3,List.take_set_of_le (Qg _)]
def IH{α:Type}{sm:(List α×Int×Int)→Option ((List α×Int×Int)⊕(List α×Int))}{sh:List α→(Int×Int)→Option ((Int×Int)⊕(Fl Int Int))}{W B:Int}{M:Nat}{P:α→Prop}(hW:0≤W)
  (hm:∀(a:List α) (k:Int) (i:Nat) (hi:i<a.length),a.length≤M→P a[i]→0≤k→k≤B→∃y k',sm (a,k,(i:Int))=some (.inl (a.set i y,k',((i+1:Nat):Int)))∧k≤k'∧k'≤k+W ∧
   ∀(b:List α) (hb:i<b.length),b[i]=y→sh b (k,(i:Int))=some (.inl (k',((i+1:Nat):Int))))
  (hme:∀(a:List α) (k:Int),sm (a,k,(a.length:Int))=some (.inr (a,k))) (hhe:∀(a:List α) (k:Int),sh a (k,(a.length:Int))=some (.inr (.brk k)))
  (a:List α) (k:Int) (hM:a.length≤M) (hP:∀x∈a,P x) (h0:0≤k) (hB:k+(a.length:Int)*W≤B) :
  ∃a' k',run sm (a,k,0)=some (a',k')∧run (sh a') (k,0)=some (.brk k')∧k≤k'∧k'≤k+(a.length:Int)*W:=by
 obtain⟨a',k',h1,h2,h3,h4,h5,h6⟩:=kJ hW hm hme hhe a.length 0 a k (by omega) hM (λj hj _=>hP _ (List.getElem_mem hj)) h0 hB
 exact⟨a',k',h1,h4,h5,h6⟩
def few{n:Nat}{W M:Int}(hn:(n:Int)≤M)(hW:0≤W):(n:Int)*W≤M*W:=Int.mul_le_mul_of_nonneg_right hn hW
end Go.Proofs.YtkgadcbajihilaaGreatDoor
