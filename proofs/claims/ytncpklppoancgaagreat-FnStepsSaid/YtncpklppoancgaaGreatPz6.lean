import Derived.Test.YtncpklppoancgaaGreatPz5
import Derived.Test.YtncpklppoancgaaGreatPz4
import Derived.Test.YtncpklppoancgaaGreatPz3
import Derived.Test.YtncpklppoancgaaGreatFam
import Derived.Test.YtncpklppoancgaaGreatPz1
namespace Go.Proofs.YtncpklppoancgaaGreat
open Go
set_option linter.unusedVariables false
set_option linter.unusedSimpArgs false
theorem QJQ (a : House) (t : Int) (l : List Bid) (hm : Qg a) (hl : l.length ≤ 1048576) : Dd (fun o=>Out a t 4 o ∧ ∃ tl,o.Book = a.Book ++ tl ∧ Jm tl 0 ≤ Qcv tl 0) (QbG a t l):=by
 unfold QbG
 refine Dd.bind fun r hr=>Dd.bind fun r2 h2=>Dd.bind fun b hb=>Dd.cond (fun _=>Dd.bind fun _ _=>Dd.no) fun hbf=>Dd.bind fun r6 h6=>Dd.bind fun r7 h7=>Dd.nd fun _=>Dd.bind fun r8 h8=>?_
 subst hbf
 have hw0 : r2.1 ≠ 0:=by
  intro h0
  rw [decide_eq_true h0] at hb
  cases hd : decide (r < 0) <;> rw [hd] at hb <;> cases hb
 obtain ⟨q,q1,_,q3⟩:=QxY l hl
 rw [h2] at q1
 injection q1 with q1
 subst q1
 have hp : 1 ≤ r2.1 ∧ 1 ≤ r2.2 ∧ r2.2 ≤ 10000000:=by
  rcases q3 with h | h
  ·rw [h] at hw0; exact absurd rfl hw0
  ·exact h
 obtain ⟨o1,o2,o3⟩:=QyV a t 4 r2.1 hm h6
 obtain ⟨p1,p2,_,p4,p5⟩:=QFV _ _ _ _ h7
 rw [if_neg (show ¬ r2.2 = 0 by omega),o2] at p5
 obtain ⟨s,s1,_,s3⟩:=Qqw r2.2 (gt a.Finds r).Finder (by omega) (by omega)
 rw [h8] at s1
 injection s1 with s1
 subst s1
 have e1 : Qcv [⟨r2.1,0,r2.2,r6.1.Now⟩] 0 = r2.2:=by simp [Qcv]
 have e2 : Jm [⟨r2.1,0,r2.2,r6.1.Now⟩] 0 = 0:=by simp [Jm,hw0]
 rcases s3 with ⟨_,rfl⟩ | ⟨hf,x,y,hx,rfl⟩
 ·refine Dd.cond (fun h=>by cases h) fun _=>Dd.cond (fun b6=>Dd.done fun b7=>⟨?_,[⟨r2.1,0,r2.2,r6.1.Now⟩],p5 b7,by rw [e1,e2]; omega⟩) fun _=>Dd.donF
  have:=o1 b6
  unfold Out
  rw [p1,p2]
  exact this
 ·refine Dd.cond (fun _=>Dd.nd fun _=>Dd.bind fun r9 h9=>Dd.cond (fun b6=>Dd.cond (fun b7=>Dd.done fun b9=>?_) fun _=>Dd.donF) fun _=>Dd.donF) fun h=>by cases h
  obtain ⟨u1,u2,_,_,u5⟩:=QFV _ _ _ _ h9
  have u5:=u5 b9
  refine ⟨?_,[⟨r2.1,0,r2.2,r6.1.Now⟩] ++ (if x = 0 then [] else [⟨0,(gt a.Finds r).Finder,x,r7.1.Now⟩]),?_,?_⟩
  ·have:=o1 b6
   unfold Out
   rw [u1,u2,p1,p2]
   exact this
  ·rw [u5,p5 b7,List.append_assoc]
   rfl
  ·rw [Qom,Qk4,e1,e2]
   have hf0 : (gt a.Finds r).Finder ≠ 0:=by omega
   by_cases h0 : x = 0
   ·rw [if_pos h0]; simp [Qcv,Jm]; omega
   ·rw [if_neg h0]; simp [Qcv,Jm,hf0]; omega
end Go.Proofs.YtncpklppoancgaaGreat
namespace Go.Proofs.YtncpklppoancgaaGreat
open Go
set_option linter.unusedVariables false
set_option linter.unusedSimpArgs false
theorem QG8 (h : House) (hf : h.Finds.length ≤ 1048576) (hs : h.Slots.length ≤ 1048576) : Jq h = some ((h.Finds.filter fun x=>Ji h.Slots x.Thing.Id).map fun x=>x.Thing.Id):=by
 have hr:=Qtn h.Finds (fun x=>Ji h.Slots x.Thing.Id) (fun x=>x.Thing.Id) (step:=QbF h h.Finds (ln h.Finds)) (fun i out hi ho=>by
   obtain ⟨c,c1,c2⟩:=Qd4 h.Slots h.Finds[i].Thing.Id hs
   have c3 : decide (0 ≤ c) = Ji h.Slots h.Finds[i].Thing.Id:=by
    have : decide (0 ≤ c) = !decide (c < 0):=by
     by_cases hc : c < 0
     ·rw [decide_eq_true hc,decide_eq_false (show ¬ 0 ≤ c by omega)]; rfl
     ·rw [decide_eq_false hc,decide_eq_true (show 0 ≤ c by omega)]; rfl
    rw [this,c2,Bool.not_not]
   simp only [QbF,QG hi,Qj hi,QF hi,Q0 (show (i : Int) < 9223372036854775807 by omega),VQ (show out.length + 1 ≤ 2000000 by omega) (show 8 ≤ 1024 by omega),cond_true,Qc,c1,c3,Option.bind_some]
   cases Ji h.Slots h.Finds[i].Thing.Id <;> rfl)
  (fun out=>by simp only [QbF,QS (Nat.le_refl _),cond_false])
 unfold Jq; rw [hr]; rfl
theorem Qmw (l : List Slot) (t : Int) : decide (QaG l t < 0) = !l.any (fun x=>decide (x.Thing = t)):=by
 rcases QdP l t with ⟨h1,h2⟩ | ⟨k,hk,h2,_,h3⟩
 ·rw [h1,h2]; rfl
 ·rw [h2,h3]; exact decide_eq_false (by omega)
theorem QQY (h : House) (f : Find) (hf : f ∈ h.Finds) (h1 : 1 ≤ f.Thing.Id) (h2 : ∃ y ∈ h.Slots,y.Thing = f.Thing.Id) : f.Thing.Id ∈ (h.Finds.filter fun x=>Ji h.Slots x.Thing.Id).map fun x=>x.Thing.Id:=by
 refine List.mem_map.2 ⟨f,List.mem_filter.2 ⟨hf,?_⟩,rfl⟩
 obtain ⟨y,y1,y2⟩:=h2
 unfold Ji
 rw [decide_eq_false (show ¬ f.Thing.Id = 0 by omega),Qmw,List.any_eq_true.2 ⟨y,y1,by simpa using y2⟩]
 rfl
theorem QwL (h : House) (t : Int) (h2 : ∀ y ∈ h.Slots,y.Thing ≠ t) : ¬ t ∈ (h.Finds.filter fun x=>Ji h.Slots x.Thing.Id).map fun x=>x.Thing.Id:=by
 intro hm
 obtain ⟨f,hf,rfl⟩:=List.mem_map.1 hm
 have hi:=(List.mem_filter.1 hf).2
 unfold Ji at hi
 rw [Qmw,List.any_eq_false.2 (fun x hx=>by simpa using h2 x hx)] at hi
 rw [Bool.not_false,Bool.or_true] at hi
 cases hi
theorem QwF (h : House) : ((h.Finds.filter fun x=>Ji h.Slots x.Thing.Id).map fun x=>x.Thing.Id).length ≤ h.Finds.length:=by
 rw [List.length_map]; exact List.length_filter_le _ _
end Go.Proofs.YtncpklppoancgaaGreat
namespace Go.Proofs.YtncpklppoancgaaGreat
open Go
set_option linter.unusedVariables false
set_option linter.unusedSimpArgs false
theorem QwT (l : List Int) (v : Int) (hl : l.length ≤ 1048576) : V6 l v = some (decide (v ∈ l)):=by
 have hr:=Qf3 l (fun x=>decide (x = v)) (r:=true) (step:=Zw l v)
  (fun i hi=>by
   simp only [Zw,QG hi,Qj hi,QF hi,Q0 (show (i : Int) < 9223372036854775807 by omega),cond_true,Qc]
   cases decide (l[i] = v) <;> rfl)
  (by simp only [Zw,QS (Nat.le_refl _),cond_false])
 unfold V6
 rw [hr]
 by_cases h : v ∈ l
 ·rw [decide_eq_true h,List.any_eq_true.2 ⟨v,h,by simp⟩]; rfl
 ·rw [decide_eq_false h,List.any_eq_false.2 (fun x hx=>by simp; rintro rfl; exact h hx)]; rfl
end Go.Proofs.YtncpklppoancgaaGreat
namespace Go.Proofs.YtncpklppoancgaaGreat
open Go
set_option linter.unusedVariables false
set_option linter.unusedSimpArgs false
theorem Qtw (l : List Hand) (x : Hand) (hl : (l ++ [x]).length ≤ 1048576) : Qbc (l ++ [x]) x.Thing = (J5 x.Holder).bind fun r=>some r:=by
 have hk : l.length < (l ++ [x]).length:=by simp
 have hg : gt (l ++ [x]) (l.length : Int) = x:=by rw [QF hk]; simp
 have e : Xs (l ++ [x]) x.Thing (l ++ [x]).length = (l.length : Int):=by
  rw [show (l ++ [x]).length = l.length + 1 by simp]
  unfold Xs
  rw [hg,if_pos rfl]
 unfold Qbc
 rw [Qoj _ _ hl,e]
 simp only [Option.bind_some,decide_eq_false (show ¬ (l.length : Int) < 0 by omega),cond_false,Qj hk,Qc,hg]
end Go.Proofs.YtncpklppoancgaaGreat
namespace Go.Proofs.YtncpklppoancgaaGreat
open Go
set_option linter.unusedVariables false
set_option linter.unusedSimpArgs false
theorem QtA (a : House) (n : Int) (h : Qg a) : Qg ⟨a.No,a.Finds,a.Secrets,a.Slots,a.Claims,a.Trials,a.Chain,a.Book,n⟩:=h
theorem QxL (c : List Int) (hc : c.length ≤ 1048576) : ∃ r,Qap c = some r ∧ Qg r.1 ∧ r.2.2.1.length ≤ 1048576:=by
 obtain ⟨cu,e0,k0⟩:=QeI c hc
 obtain ⟨c1,a,e1,k1,s1⟩:=QcZ cu k0
 obtain ⟨c2,x2,e2,k2,_⟩:=Qw c1 12 k1
 obtain ⟨c3,x3,e3,k3⟩:=QoO c2 (w64 (1 + x2)) k2
 obtain ⟨c4,x4,e4,k4,_⟩:=Qw c3 30 k3
 obtain ⟨c5,b5,e5,k5⟩:=Qex c4 6 k4
 obtain ⟨x6,e6⟩ : ∃ x,Qbw x3.At a.Now = some x:=by unfold Qbw; cases decide (a.Now < x3.At) <;> exact ⟨_,rfl⟩
 obtain ⟨c7,m,e7,k7,n7⟩:=QwM c5 k5
 obtain ⟨c8,x8,e8,k8,_⟩:=QdE c7 [0,7,1000000,1000001] k7 (by simp)
 unfold Qap
 simp only [e0,e1,e2,e3,e4,e5,e6,e7,e8,Option.bind_some]
 cases b5 with
 | true=>exact ⟨_,rfl,s1,by show m.length ≤ _; omega⟩
 | false=>exact ⟨_,rfl,s1,by show m.length ≤ _; omega⟩
theorem QvL (c : List Int) (hc : c.length ≤ 1048576) : ∃ r,ZF c = some r ∧ Qg r.1:=by
 obtain ⟨cu,e0,k0⟩:=QeI c hc
 obtain ⟨c1,a,e1,k1,s1⟩:=QcZ cu k0
 obtain ⟨c2,x2,e2,k2,_⟩:=QdE c1 [1,2,3,6,7,999,1000] k1 (by simp)
 obtain ⟨c3,x3,e3,k3,_⟩:=Qw c2 6 k2
 obtain ⟨c4,x4,e4,k4,_⟩:=Qw c3 5 k3
 unfold ZF
 simp only [e0,e1,e2,e3,e4,Option.bind_some]
 exact ⟨_,rfl,s1⟩
theorem Qsw (c : List Int) (hc : c.length ≤ 1048576) : ∃ r,Zb c = some r ∧ Qg r.1:=by
 obtain ⟨cu,e0,k0⟩:=QeI c hc
 obtain ⟨c1,a,e1,k1,s1⟩:=QcZ cu k0
 obtain ⟨c2,x2,e2,k2,_⟩:=Qw c1 6 k1
 obtain ⟨x3,e3⟩:=Qnh a (w64 (1 + x2)) s1
 obtain ⟨c4,b4,e4,k4⟩:=Qex c2 3 k2
 obtain ⟨c5,x5,e5,k5,_⟩:=Qw c4 9 k4
 unfold Zb
 simp only [e0,e1,e2,e3,e4,e5,Option.bind_some]
 cases b4 <;> exact ⟨_,rfl,s1⟩
theorem QwJ (c : List Int) (hc : c.length ≤ 1048576) : ∃ r,ZH c = some r ∧ Qg r.1:=by
 obtain ⟨cu,e0,k0⟩:=QeI c hc
 obtain ⟨c1,a,e1,k1,s1⟩:=QcZ cu k0
 obtain ⟨c2,x2,e2,k2,_⟩:=Qw c1 5 k1
 unfold ZH
 simp only [e0,e1,e2,Option.bind_some]
 exact ⟨_,rfl,s1⟩
theorem Qz8 (c : List Int) (hc : c.length ≤ 1048576) : ∃ r,Qal c = some r ∧ Qg r.1 ∧ r.2.2.length ≤ 1048576:=by
 obtain ⟨cu,e0,k0⟩:=QeI c hc
 obtain ⟨c1,a,e1,k1,s1⟩:=QcZ cu k0
 obtain ⟨c2,b2,e2,k2⟩:=Qex c1 3 k1
 obtain ⟨c3,x3,e3,k3,_⟩:=Qw c2 5 k2
 obtain ⟨c4,l,e4,k4,n4⟩:=Qwi c3 k3
 unfold Qal
 simp only [e0,e1,e2,e3,e4,Option.bind_some]
 cases b2 with
 | true=>exact ⟨_,rfl,s1,by show l.length ≤ _; omega⟩
 | false=>exact ⟨_,rfl,QtA a 6000 s1,by show l.length ≤ _; omega⟩
theorem Qwk (c : List Int) (hc : c.length ≤ 1048576) : ∃ r,ZK c = some r ∧ Qg r.1:=by
 obtain ⟨cu,e0,k0⟩:=QeI c hc
 obtain ⟨c1,a,e1,k1,s1⟩:=QcZ cu k0
 obtain ⟨c2,b2,e2,k2⟩:=Qex c1 3 k1
 obtain ⟨c3,x3,e3,k3,_⟩:=Qw c2 5 k2
 unfold ZK
 simp only [e0,e1,e2,e3,Option.bind_some]
 cases b2 with
 | true=>exact ⟨_,rfl,s1⟩
 | false=>exact ⟨_,rfl,QtA a 6000 s1⟩
theorem Qy3 (c : List Int) (hc : c.length ≤ 1048576) : ∃ r,Qaq c = some r ∧ Qg r.1:=by
 obtain ⟨cu,e0,k0⟩:=QeI c hc
 obtain ⟨c1,a,e1,k1,s1⟩:=QcZ cu k0
 obtain ⟨c2,b2,e2,k2⟩:=Qex c1 9 k1
 obtain ⟨c3,x3,e3,k3,_⟩:=QdE c2 [1,24,10000,10001,0] k2 (by simp)
 unfold Qaq
 simp only [e0,e1,e2,e3,Option.bind_some]
 cases b2 with
 | true=>exact ⟨_,rfl,QtA a 99999 s1⟩
 | false=>exact ⟨_,rfl,s1⟩
end Go.Proofs.YtncpklppoancgaaGreat
