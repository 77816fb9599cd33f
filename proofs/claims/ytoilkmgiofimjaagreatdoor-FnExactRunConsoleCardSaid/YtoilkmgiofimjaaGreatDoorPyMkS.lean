import Derived.Test.YtoilkmgiofimjaaGreatDoorPz1
namespace Go.Proofs.YtoilkmgiofimjaaGreatDoor
open Go
set_option linter.unusedVariables false
set_option linter.unusedSimpArgs false
theorem n0:∀(u:Nat) (k:Int) (o:List UInt8),k.toNat=u→0≤k→k≤9223372036854775807→o.length+u≤9000000000000000000→∃s,run Zp (k,o)=some s∧s.length≤o.length+u:=by
 intro u
 induction u using Nat.strongRecOn with
 |ind u ih =>
  intro k o hu h0 h1 ho;by_cases hk:0<k
  ·have hd:0≤k.tdiv 10∧k.tdiv 10<k:=by
    rw[Int.tdiv_eq_ediv_of_nonneg h0];omega
   have hs:Zp (k,o)=some (.inl (k.tdiv 10,Qr [UInt8.ofNat (IntKind.u8.wrap (w64 (48+(k.tmod 10)))).toNat] o)):=by
    simp only[Zp,Qf hk,Qc,VA (n:=k.tdiv 10) (by omega) (by omega)]
    rw[show ∀x:UInt8,Vb [x] o=true from λx=>by unfold Vb;simp;omega]
    rfl
   obtain⟨s,s1,s2⟩:=ih (k.tdiv 10).toNat (by omega) (k.tdiv 10) (Qr [UInt8.ofNat (IntKind.u8.wrap (w64 (48+(k.tmod 10)))).toNat] o) rfl hd.1 (by omega) (by simp only[Qr,List.length_append,List.length_singleton];omega)
   refine⟨s,by rw[rI hs];exact s1,?_⟩
   simp only[Qr,List.length_append,List.length_singleton]at s2;omega
  ·exact⟨o,rR (by simp only[Zp,Qe hk,Qb]),by omega⟩
noncomputable def mtk(k:Int):List UInt8:=(Aw k).getD []
theorem pT(k:Int)(h:k≤1000000000):Aw k=some (mtk k):=by
 have:∃s,Aw k=some s:=by
  unfold Aw;by_cases h0:k≤0
  ·rw[Qf h0];exact⟨_,rfl⟩
  ·obtain⟨s,s1,s2⟩:=n0 k.toNat k [] rfl (by omega) (by omega) (by simp;omega)
   rw[Qe h0,Qb,s1,Qa,show Vb [109] s=true by unfold Vb;simp at s2 ⊢;omega]
   exact⟨_,rfl⟩
 obtain⟨s,hs⟩:=this;unfold mtk;rw[hs];rfl
theorem cU(a:List (List UInt8))(hl:a.length≤1048576):Co a 1=some ((List.range a.length).map λ(j:Nat)=>mtk ((j:Int)+1),(a.length:Int)+1):=by
 have hr:=X0 (step:=JU) (λi=>((List.range i).map (λ(j:Nat)=>mtk ((j:Int)+1))++a.drop i,(i:Int)+1,(i:Int))) (r:=((List.range a.length).map (λ(j:Nat)=>mtk ((j:Int)+1)),(a.length:Int)+1)) a.length (λi hi=>by
   have hlen:((List.range i).map (λ(j:Nat)=>mtk ((j:Int)+1))++a.drop i).length=a.length:=by simp;omega
   have e1:decide ((i:Int)<ln ((List.range i).map (λ(j:Nat)=>mtk ((j:Int)+1))++a.drop i))=true:=Qf (by rw[Q5,hlen];omega)
   have e2:inb ((List.range i).map (λ(j:Nat)=>mtk ((j:Int)+1))++a.drop i) (i:Int)=true:=Qs (by rw[hlen];exact hi)
   simp only[JU,e1,e2,Qc,Qn,pT ((i:Int)+1) (by omega),Qa,VA (n:=(i:Int)+1+1) (by omega) (by omega),QM (show(i:Int)<9223372036854775807 by omega),Int.toNat_natCast]
   have e3:((List.range i).map (λ(j:Nat)=>mtk ((j:Int)+1))++a.drop i).set i (mtk ((i:Int)+1))=(List.range (i+1)).map (λ(j:Nat)=>mtk ((j:Int)+1))++a.drop (i+1):=by
    have h0:i-((List.range i).map (λ(j:Nat)=>mtk ((j:Int)+1))).length=0:=by simp
    rw[List.set_append_right _ _ (by simp),h0,List.drop_eq_getElem_cons hi,List.set_cons_zero,List.range_succ,List.map_append,List.append_assoc]
    rfl
   rw[e3];rfl) (by
   have e1:decide ((a.length:Int)<ln ((List.range a.length).map (λ(j:Nat)=>mtk ((j:Int)+1))++a.drop a.length))=false:=Qe (by rw[Q5];simp)
   simp only[List.drop_length,List.append_nil]at e1 ⊢;simp only[JU,e1,Qb])
 unfold Co;simp only[List.range_zero,List.map_nil,List.drop_zero,List.nil_append]at hr;rw[show(a,(1:Int),(0:Int))=(a,((0:Nat):Int)+1,((0:Nat):Int))from rfl,hr];rfl
theorem eD(n:Nat)(hn:n≤1048576):AH ((List.range n).map λ(j:Nat)=>mtk ((j:Int)+1)) 1=some ((n:Int)+1):=by
 have hr:=X0 (step:=XS ((List.range n).map λ(j:Nat)=>mtk ((j:Int)+1))) (λi=>((i:Int)+1,(i:Int))) (r:=.brk ((n:Int)+1)) n (λi hi=>by
   have hi':i<((List.range n).map λ(j:Nat)=>mtk ((j:Int)+1)).length:=by simpa using hi
   simp only[XS,Qy hi',Qs hi',QC hi',Qc,Qn,pT ((i:Int)+1) (by omega),Qa,VA (n:=(i:Int)+1+1) (by omega) (by omega),QM (show(i:Int)<9223372036854775807 by omega)]
   simp) (by
   have e1:decide ((n:Int)<ln ((List.range n).map λ(j:Nat)=>mtk ((j:Int)+1)))=false:=Qe (by rw[Q5];simp)
   simp only[XS,e1,Qb])
 unfold AH;have hr':run (XS ((List.range n).map λ(j:Nat)=>mtk ((j:Int)+1))) (1,0)=some (.brk ((n:Int)+1)):=hr
 rw[hr'];rfl
end Go.Proofs.YtoilkmgiofimjaaGreatDoor
