import Derived.Test.YtfhnbabcbhgffaaGreatDoorEvD
import Derived.Shelf.Spec.SlicesGrow
set_option linter.unusedVariables false
set_option linter.unusedSimpArgs false
set_option linter.defProp false
namespace Go.Proofs.YtfhnbabcbhgffaaGreatDoor.Am
open Go Go.Proofs
def wT(q:Nat):(Builtin.zeroCells #[Value.int .i64 0] q).size=q:=by
 have:=congrArg List.length (Lp #[Value.int .i64 0] q (by decide))
 simpa using this
def wz[Wd]{P:Program}{g:FuncId}{t:TypeId}(hE:EnterOK P g)
  (hr:∀(base:Option Addr) (l c n:Nat) (w:World),l≤c→c≤9223372036854775807→n≤9223372036854775807→l+n≤c →
   Calls P g #[.slice base l c,.int .i64 n] w λe w'=>e=.returned (.slice base l c)∧w'=w)
  (hg:∀(base:Option Addr) (l c n:Nat) (cs:List Value) (w:World),l≤c→c<l+n→(l+n)*8≤140737488355328→l+n≤4611686018427387904 →
   cs.length=c*1→(base=none→c=0)→(∀a,base=some a→∀j v,cs[j]?=some v→w.cell? (a.add j)=some v) →
   Calls P g #[.slice base l c,.int .i64 n] w λe w'=>∃gc,e=.returned (.slice (some ⟨w.heap.size,0,none⟩) l gc) ∧
    w'=w.drew.alloc (.cells (cs.toArray++Builtin.zeroCells #[Value.int .i64 0] (l+n-c)++Builtin.zeroCells #[Value.int .i64 0] (gc-(l+n))) t))
  (x:Int) (h0:0≤x) (h1:x≤17592186044416):PC P g [.nil,.i .i64 x] (·=.own 1 []):=by
 refine⟨hE,λw vs hI hX=>?_⟩
 simp only[XRs,XR]at hX;obtain⟨v,vs',n1,n2,rfl,hn,⟨⟨a,rfl⟩,_⟩,v',vs'',m1,m2,rfl,hm,⟨rfl,_⟩,rfl,_⟩:=hX;have hx:((x.toNat:Nat):Int)=x:=by omega
 rw[←hx];by_cases hz:x.toNat=0
 ·refine Calls.mono (hr a 0 0 x.toNat w (Qg _) (by decide) (by omega) (by omega)) ?_
  rintro e w' ⟨rfl,rfl⟩;exact⟨_,_,[],rfl,rfl,by simp[XR],List.nodup_nil,by simp,Ext.refl _ _⟩
 ·refine Calls.mono (hg a 0 0 x.toNat [] w (Qg _) (by omega) (by omega) (by omega) rfl (λ_=>rfl) (λ_ _ _ _ h=>by simp at h)) ?_
  rintro e w' ⟨gc,rfl,rfl⟩;refine⟨_,_,[w.heap.size],rfl,rfl,?_,by simp,?_,Ext.of_below ?_ (λ_=>False)⟩
  ·simp only[XR]
   refine .inr ⟨w.heap.size,[],gc,rfl,rfl,Nat.zero_le _,?_,rfl⟩;refine⟨[].toArray++Builtin.zeroCells #[Value.int .i64 0] (0+x.toNat-0)++Builtin.zeroCells #[Value.int .i64 0] (gc-(0+x.toNat)),t,?_,?_⟩
   ·show(w.heap.push _)[w.heap.size]?=_
    rw[Array.getElem?_push_size]
   ·simp only[Array.size_append,wT]
    simp;omega
  ·intro b hb
   simp only[List.mem_singleton]at hb;subst hb;refine⟨Qg _,?_⟩;show w.heap.size<(w.heap.push _).size;simp
  ·refine⟨rfl,rfl,rfl,?_,λb hb=>?_⟩
   ·show w.heap.size≤(w.heap.push _).size
    simp
   ·show(w.heap.push _)[b]?=w.heap[b]?
    rw[Array.getElem?_push_lt hb,Array.getElem?_eq_getElem hb]
end Go.Proofs.YtfhnbabcbhgffaaGreatDoor.Am
