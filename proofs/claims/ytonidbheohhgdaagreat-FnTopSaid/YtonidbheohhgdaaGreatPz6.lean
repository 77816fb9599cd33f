import Derived.Test.YtonidbheohhgdaaGreatPz5
import Derived.Test.YtonidbheohhgdaaGreatPz4
import Derived.Test.YtonidbheohhgdaaGreatPz3
import Derived.Test.YtonidbheohhgdaaGreatFam
namespace Go.Proofs.YtonidbheohhgdaaGreat
open Go
set_option linter.unusedVariables false
set_option linter.unusedSimpArgs false
theorem QLS (a : House) (t : Int) (l : List Bid) (hm : Qf a) (hl : l.length ≤ 1048576) : Dd (fun o=>Out a t 4 o ∧ ∃ tl,o.Book = a.Book ++ tl ∧ Vo tl 0 ≤ Jk tl 0) (Jl a t l):=by
 unfold Jl
 refine Dd.bind fun r hr=>Dd.bind fun r2 h2=>Dd.bind fun b hb=>Dd.cond (fun _=>Dd.bind fun _ _=>Dd.no) fun hbf=>Dd.bind fun r6 h6=>Dd.bind fun r7 h7=>Dd.nd fun _=>Dd.bind fun r8 h8=>?_
 subst hbf
 have hw0 : r2.1 ≠ 0:=by
  intro h0
  rw [decide_eq_true h0] at hb
  cases hd : decide (r < 0) <;> rw [hd] at hb <;> cases hb
 obtain ⟨q,q1,_,q3⟩:=QwG l hl
 rw [h2] at q1
 injection q1 with q1
 subst q1
 have hp : 1 ≤ r2.1 ∧ 1 ≤ r2.2 ∧ r2.2 ≤ 10000000:=by
  rcases q3 with h | h
  ·rw [h] at hw0; exact absurd rfl hw0
  ·exact h
 obtain ⟨o1,o2,o3⟩:=QPg a t 4 r2.1 hm h6
 obtain ⟨p1,p2,_,p4,p5⟩:=Qw7 _ _ _ _ h7
 rw [if_neg (show ¬ r2.2 = 0 by omega),o2] at p5
 obtain ⟨s,s1,_,s3⟩:=QpI r2.2 (gt a.Finds r).Finder (by omega) (by omega)
 rw [h8] at s1
 injection s1 with s1
 subst s1
 have e1 : Jk [⟨r2.1,0,r2.2,r6.1.Now⟩] 0 = r2.2:=by simp [Jk]
 have e2 : Vo [⟨r2.1,0,r2.2,r6.1.Now⟩] 0 = 0:=by simp [Vo,hw0]
 rcases s3 with ⟨_,rfl⟩ | ⟨hf,x,y,hx,rfl⟩
 ·refine Dd.cond (fun h=>by cases h) fun _=>Dd.cond (fun b6=>Dd.done fun b7=>⟨?_,[⟨r2.1,0,r2.2,r6.1.Now⟩],p5 b7,by rw [e1,e2]; omega⟩) fun _=>Dd.donF
  have:=o1 b6
  unfold Out
  rw [p1,p2]
  exact this
 ·refine Dd.cond (fun _=>Dd.nd fun _=>Dd.bind fun r9 h9=>Dd.cond (fun b6=>Dd.cond (fun b7=>Dd.done fun b9=>?_) fun _=>Dd.donF) fun _=>Dd.donF) fun h=>by cases h
  obtain ⟨u1,u2,_,_,u5⟩:=Qw7 _ _ _ _ h9
  have u5:=u5 b9
  refine ⟨?_,[⟨r2.1,0,r2.2,r6.1.Now⟩] ++ (if x = 0 then [] else [⟨0,(gt a.Finds r).Finder,x,r7.1.Now⟩]),?_,?_⟩
  ·have:=o1 b6
   unfold Out
   rw [u1,u2,p1,p2]
   exact this
  ·rw [u5,p5 b7,List.append_assoc]
   rfl
  ·rw [QnU,Qkm,e1,e2]
   have hf0 : (gt a.Finds r).Finder ≠ 0:=by omega
   by_cases h0 : x = 0
   ·rw [if_pos h0]; simp [Jk,Vo]; omega
   ·rw [if_neg h0]; simp [Jk,Vo,hf0]; omega
end Go.Proofs.YtonidbheohhgdaaGreat
namespace Go.Proofs.YtonidbheohhgdaaGreat
open Go
set_option linter.unusedVariables false
set_option linter.unusedSimpArgs false
theorem QDR (h : House) (hf : h.Finds.length ≤ 1048576) (hs : h.Slots.length ≤ 1048576) : Qda h = some ((h.Finds.filter fun x=>XT h.Slots x.Thing.Id).map fun x=>x.Thing.Id):=by
 have hr:=Qsg h.Finds (fun x=>XT h.Slots x.Thing.Id) (fun x=>x.Thing.Id) (step:=Qa5 h h.Finds (ln h.Finds)) (fun i out hi ho=>by
   obtain ⟨c,c1,c2⟩:=Qbv h.Slots h.Finds[i].Thing.Id hs
   have c3 : decide (0 ≤ c) = XT h.Slots h.Finds[i].Thing.Id:=by
    have : decide (0 ≤ c) = !decide (c < 0):=by
     by_cases hc : c < 0
     ·rw [decide_eq_true hc,decide_eq_false (show ¬ 0 ≤ c by omega)]; rfl
     ·rw [decide_eq_false hc,decide_eq_true (show 0 ≤ c by omega)]; rfl
    rw [this,c2,Bool.not_not]
   simp only [Qa5,Qt hi,Qe hi,Qm hi,QD (show (i : Int) < 9223372036854775807 by omega),Vz (show out.length + 1 ≤ 2000000 by omega) (show 8 ≤ 1024 by omega),cond_true,Qa,c1,c3,Option.bind_some]
   cases XT h.Slots h.Finds[i].Thing.Id <;> rfl)
  (fun out=>by simp only [Qa5,Qx (Nat.le_refl _),cond_false])
 unfold Qda; rw [hr]; rfl
end Go.Proofs.YtonidbheohhgdaaGreat
namespace Go.Proofs.YtonidbheohhgdaaGreat
open Go
set_option linter.unusedVariables false
set_option linter.unusedSimpArgs false
set_option maxRecDepth 100000
theorem Qv7 : ∀ {a b : List Int},a.Pairwise (· < ·) → b.Pairwise (· < ·) → (∀ x,x ∈ a ↔ x ∈ b) → a = b
 | [],[],_,_,_=>rfl
 | [],y :: b,_,_,h=>by have:=(h y).2 (by simp); simp at this
 | x :: a,[],_,_,h=>by have:=(h x).1 (by simp); simp at this
 | x :: a,y :: b,ha,hb,h=>by
  obtain ⟨ha1,ha2⟩:=List.pairwise_cons.1 ha
  obtain ⟨hb1,hb2⟩:=List.pairwise_cons.1 hb
  have hxy : x = y:=by
   have h1:=(h x).1 (by simp)
   have h2:=(h y).2 (by simp)
   rcases List.mem_cons.1 h1 with h1 | h1
   ·exact h1
   ·rcases List.mem_cons.1 h2 with h2 | h2
    ·exact h2.symm
    ·have:=hb1 x h1
     have:=ha1 y h2
     omega
  subst hxy
  refine congrArg _ (Qv7 ha2 hb2 fun z=>?_)
  have hz:=h z
  constructor
  ·intro hza
   rcases List.mem_cons.1 (hz.1 (List.mem_cons_of_mem _ hza)) with e | e
   ·have:=ha1 z hza; omega
   ·exact e
  ·intro hzb
   rcases List.mem_cons.1 (hz.2 (List.mem_cons_of_mem _ hzb)) with e | e
   ·have:=hb1 z hzb; omega
   ·exact e
theorem QnB {zs : List Int} (hs : zs.Pairwise (· ≤ ·)) : ∀ m,m ≤ zs.length → (Lib.compactUpTo zs.toArray m).Pairwise (· < ·) ∧ (∀ x,x ∈ Lib.compactUpTo zs.toArray m ↔ x ∈ zs.take m)
 | 0,_=>by simp [Lib.compactUpTo]
 | m + 1,hm=>by
  obtain ⟨h1,h2⟩:=QnB hs m (by omega)
  have hmz : m < zs.length:=by omega
  have hget : zs.toArray[m]! = zs[m]:=by rw [getElem!_pos _ m (by simpa using hmz)]; simp
  rw [Lib.compactUpTo_succ,List.take_succ_eq_append_getElem hmz]
  by_cases h0 : m = 0
  ·subst h0
   rw [Lib.keeps_lt_one _ 0 (by omega),if_pos rfl,hget]
   simp [Lib.compactUpTo]
  ·have hget' : zs.toArray[m - 1]! = zs[m - 1]:=by rw [getElem!_pos _ (m - 1) (by simp; omega)]; simp
   have hle : ∀ x ∈ zs.take m,x ≤ zs[m - 1]:=by
    intro x hx
    obtain ⟨i,hi,rfl⟩:=List.mem_iff_getElem.1 hx
    rw [List.length_take] at hi
    rw [List.getElem_take]
    by_cases hi' : i = m - 1
    ·subst hi'; omega
    ·exact List.pairwise_iff_getElem.1 hs i (m - 1) (by omega) (by omega) (by omega)
   have hlast : zs[m - 1] ∈ zs.take m:=by
    rw [List.mem_iff_getElem]
    exact ⟨m - 1,by rw [List.length_take]; omega,List.getElem_take⟩
   have hstep : zs[m - 1] ≤ zs[m]:=List.pairwise_iff_getElem.1 hs (m - 1) m (by omega) (by omega) (by omega)
   by_cases he : zs[m] = zs[m - 1]
   ·rw [Lib.keeps_neg (by omega) (by rw [hget,hget',he])]
    simp only [Bool.false_eq_true,if_false,List.append_nil]
    refine ⟨h1,fun x=>?_⟩
    rw [h2,List.mem_append,List.mem_singleton]
    exact ⟨.inl,fun h=>h.elim id fun h=>by rw [h,he]; exact hlast⟩
   ·rw [Lib.keeps_pos (by rw [hget,hget']; exact he),if_pos rfl,hget]
    refine ⟨List.pairwise_append.2 ⟨h1,by simp,fun x hx y hy=>?_⟩,fun x=>?_⟩
    ·simp only [List.mem_singleton] at hy
     subst hy
     have:=hle x ((h2 x).1 hx)
     omega
    ·rw [List.mem_append,List.mem_append,h2]
theorem QvD (l : List Int) : (Xv (Xi l)).Pairwise (· < ·) ∧ ∀ x,x ∈ Xv (Xi l) ↔ x ∈ l:=by
 have hs : (Xi l).Pairwise (· ≤ ·):=by
  have:=List.pairwise_mergeSort (le:=fun x y : Int=>decide (x ≤ y)) (fun a b c h1 h2=>by simp at *; omega) (fun a b=>by simp; omega) l
  unfold Xi
  exact this.imp fun h=>by simpa using h
 obtain ⟨h1,h2⟩:=QnB hs (Xi l).length (Nat.le_refl _)
 refine ⟨h1,fun x=>?_⟩
 have:=h2 x
 rw [List.take_length] at this
 exact this.trans (by unfold Xi; rw [List.mem_mergeSort])
theorem Qz6 (a : List Int) (hal : a.length ≤ 2097152) : Qbr a = some (Xv (Xi a)):=by
 have hl2 : ln [a,[]] = 2:=rfl
 have hc : ZE [a,[]] = some a:=by
  unfold ZE
  have w0 : w64 (0 + ln a) = ln a:=by rw [Vj] <;> unfold ln <;> omega
  have w1 : w64 (ln a + ln ([] : List Int)) = ln a:=by rw [Vj] <;> unfold ln <;> simp <;> omega
  have hneg : decide (ln a < 0) = false:=decide_eq_false (by unfold ln; omega)
  have s0 : Vv [a,[]] [a,[]] (ln [a,[]]) (0,0) = some (.inl (ln a,1)):=by
   have g0 : gt [a,([] : List Int)] 0 = a:=rfl
   simp only [Vv,hl2,g0,show inb [a,([] : List Int)] 0 = true from rfl,show decide ((0 : Int) < 2) = true from rfl,w0,hneg,cond_true,cond_false,Qa,show w64 (0 + 1) = 1 from rfl]
  have s1 : Vv [a,[]] [a,[]] (ln [a,[]]) (ln a,1) = some (.inl (ln a,2)):=by
   have g1 : gt [a,([] : List Int)] 1 = []:=rfl
   simp only [Vv,hl2,g1,show inb [a,([] : List Int)] 1 = true from rfl,show decide ((1 : Int) < 2) = true from rfl,w1,hneg,cond_true,cond_false,Qa,show w64 (1 + 1) = 2 from rfl]
  have s2 : Vv [a,[]] [a,[]] (ln [a,[]]) (ln a,2) = some (.inr (ln a)):=rfl
  have r1 : run (Vv [a,[]] [a,[]] (ln [a,[]])) (0,0) = some (ln a):=by
   rw [Qh,s0]; show run _ (ln a,1) = _
   rw [Qh,s1]; show run _ (ln a,2) = _
   rw [Qh,s2]; rfl
  have hg : Zv (ln a) = some []:=by
   unfold Zv nd
   rw [show (decide (0 ≤ ln a) && decide (ln a ≤ 17592186044416)) = true by unfold ln; simp; omega]
   rfl
  have t0 : V3 [a,[]] (ln [a,[]]) ([],0) = some (.inl (a,1)):=by
   have hrm : rm (([] : List Int).length + a.length) 8 = true:=by unfold rm; exact decide_eq_true (by simp; omega)
   show (bif decide ((0 : Int) < 2) then nd (inb [a,[]] 0) <| nd (rm (([] : List Int).length + a.length) 8) <| some (Sum.inl ([] ++ a,w64 (0 + 1))) else some (Sum.inr [])) = _
   rw [hrm]; rfl
  have t1 : V3 [a,[]] (ln [a,[]]) (a,1) = some (.inl (a,2)):=by
   have hrm : rm (a.length + ([] : List Int).length) 8 = true:=by unfold rm; exact decide_eq_true (by simp; omega)
   show (bif decide ((1 : Int) < 2) then nd (inb [a,[]] 1) <| nd (rm (a.length + ([] : List Int).length) 8) <| some (Sum.inl (a ++ [],w64 (1 + 1))) else some (Sum.inr a)) = _
   rw [hrm,List.append_nil]; rfl
  have t2 : V3 [a,[]] (ln [a,[]]) (a,2) = some (.inr a):=rfl
  have r2 : run (V3 [a,[]] (ln [a,[]])) ([],0) = some a:=by
   rw [Qh,t0]; show run _ (a,1) = _
   rw [Qh,t1]; show run _ (a,2) = _
   rw [Qh,t2]; rfl
  rw [r1]
  simp only [Option.bind_some,hg,r2]
 unfold Qbr
 have hsl : (Xi a).length = a.length:=by unfold Xi; simp
 simp only [Option.bind_some,hc,hsl,show decide (a.length < 4611686018427387904) = true from decide_eq_true (by omega),Qa]
end Go.Proofs.YtonidbheohhgdaaGreat
namespace Go.Proofs.YtonidbheohhgdaaGreat
open Go
set_option linter.unusedVariables false
set_option linter.unusedSimpArgs false
def Qr2 (h : House) (x : Hand) : Prop:=∃ c ∈ h.Claims,c.State = 3 ∧ c.Thing = x.Thing ∧ c.Who = x.Who
def QqR (a : House) (x : Hand) : Prop:=∃ id,∃ k : Nat,∃ hk : k < a.Claims.length,XM a.Claims x.Thing = some id ∧ ZW a.Claims id = (k : Int) ∧ a.Claims[k].Who = x.Who
def Gone (a : House) (kind : Int) (o : House) (x : Hand) : Prop:=∃ k : Nat,∃ hk : k < a.Finds.length,Xg a.Finds x.Thing = (k : Int) ∧ (∃ v,Jb a.Finds[k] a.Claims a.Now = some v ∧ v ≠ 0) ∧
 ((x.Holder = 3 ∧ Qr2 o x) ∨ (Qcv a.Finds[k] x.At = some true ∧ (x.Holder = 3 → a.Finds[k].Finder = x.Who))) ∧ (x.Holder = 3 → kind = 4 → QqR a x)
structure Rel (a : House) (kind : Int) (o : House) : Prop where
 finds : ∀ g ∈ a.Finds,g ∈ o.Finds
 findsO : ∀ g ∈ o.Finds,g ∈ a.Finds ∨ ∃ x ∈ o.Chain,x.Thing = g.Thing.Id
 claims : ∀ c ∈ a.Claims,c.State = 3 → c ∈ o.Claims
 chain : ∃ tl,o.Chain = a.Chain ++ tl ∧ ∀ x ∈ tl,3 ≤ x.Holder → Gone a kind o x
 book : ∃ tb,o.Book = a.Book ++ tb ∧ Vo tb 0 ≤ Jk tb 0
theorem Qd7 (b : List Entry) : ∃ tb,b = b ++ tb ∧ Vo tb 0 ≤ Jk tb 0:=⟨[],by simp,by simp [Vo,Jk]⟩
theorem Qs0 {α : Type} (l : List α) (b : Int) (hb : slB 0 b (ln l) = true) (g : α) : (g ∈ cut l 0 b ∨ g ∈ cut l b (ln l)) ↔ g ∈ l:=by
 unfold slB at hb
 rw [VA] at hb
 simp only [Bool.and_eq_true,decide_eq_true_eq] at hb
 have e : cut l 0 b = l.take b.toNat:=by simp [cut]
 have e2 : cut l b (ln l) = l.drop b.toNat:=by simp [cut,VA]
 rw [e,e2,← List.mem_append,List.take_append_drop]
theorem QM0 (a : House) (f : Find) (m : List Mark) (s : Int) (hm : Qf a) : Dd (Rel a 1) (ZP a f m s):=by
 unfold ZP
 simp only [V5 a hm,Option.bind_some]
 refine Dd.bind fun r2 h2=>Dd.bind fun r3 h3=>Dd.bind fun r4 h4=>Dd.bind fun r5 h5=>Dd.cond (fun b2=>Dd.cond (fun b3=>Dd.cond (fun b4=>Dd.done fun b5=>?_) fun _=>Dd.donF) fun _=>Dd.donF) fun _=>Dd.donF
 obtain ⟨q,hq⟩:=QhE a.Chain _ h5 b5
 have hf : ∀ g,g ∈ r2.1 ↔ g ∈ a.Finds ∨ g = f:=by
  intro g
  unfold QcE at h2
  obtain ⟨k,_,h2⟩:=Option.bind_eq_some_iff.1 h2
  obtain ⟨w1,h2⟩:=VK h2
  obtain ⟨_,h2⟩:=VK h2
  obtain ⟨_,h2⟩:=VK h2
  obtain ⟨_,h2⟩:=VK h2
  obtain ⟨_,h2⟩:=VK h2
  obtain ⟨b,_,h2⟩:=Option.bind_eq_some_iff.1 h2
  cases b with
  | false=>obtain ⟨_,h⟩:=VK (show (nd (rm (0 + a.Finds.length) 64) <| some (a.Finds,false)) = some r2 from h2); injection h with h; subst h; cases b2
  | true =>
   injection h2 with h2
   rw [← h2,← Qs0 a.Finds k w1 g]
   simp only [List.mem_append,List.mem_singleton]
   constructor
   ·rintro ((h | h) | h)
    ·exact .inl (.inl h)
    ·exact .inr h
    ·exact .inl (.inr h)
   ·rintro ((h | h) | h)
    ·exact .inl (.inl h)
    ·exact .inr h
    ·exact .inl (.inr h)
 refine ⟨fun g hg=>(hf g).2 (.inl hg),fun g hg=>?_,fun c hc _=>hc,⟨_,hq,fun x hx h=>?_⟩,Qd7 _⟩
 ·rcases (hf g).1 hg with h | h
  ·exact .inl h
  ·subst h
   refine .inr ⟨⟨g.Thing.Id,2,a.No,a.Now,q⟩,?_,rfl⟩
   show _ ∈ r5.1
   rw [hq]
   exact List.mem_append_right _ (List.mem_singleton.2 rfl)
 ·rw [List.mem_singleton.1 hx] at h
  exact absurd (show (3 : Int) ≤ 2 from h) (by omega)
theorem QGj (a : House) (x y z : Int) (hm : Qf a) : Dd (Rel a 2) (Jv a x y z):=by
 unfold Jv
 simp only [V5 a hm,Option.bind_some]
 refine Dd.bind fun r2 h2=>Dd.bind fun b _=>Dd.nd fun _=>Dd.nd fun _=>Dd.nd fun _=>Dd.nd fun _=>Dd.nd fun _=>Dd.cond (fun b2=>Dd.bind fun r3 _=>Dd.done fun _=>?_) fun _=>Dd.donF
 have hc : ∀ c ∈ a.Claims,c ∈ r2.1:=by
  intro c hc
  unfold Qb6 at h2
  obtain ⟨k,_,h2⟩:=Option.bind_eq_some_iff.1 h2
  obtain ⟨w1,h2⟩:=VK h2
  obtain ⟨_,h2⟩:=VK h2
  obtain ⟨_,h2⟩:=VK h2
  obtain ⟨_,h2⟩:=VK h2
  obtain ⟨_,h2⟩:=VK h2
  obtain ⟨b,_,h2⟩:=Option.bind_eq_some_iff.1 h2
  cases b with
  | true=>obtain ⟨_,h⟩:=VK (show (nd (rm (0 + a.Claims.length) 40) <| some (a.Claims,false)) = some r2 from h2); injection h with h; subst h; cases b2
  | false =>
   injection h2 with h2
   rw [← h2]
   simp only [List.mem_append,List.mem_singleton]
   rcases (Qs0 a.Claims k.1 w1 c).2 hc with h | h
   ·exact .inl (.inl h)
   ·exact .inr h
 exact ⟨fun g hg=>hg,fun g hg=>.inl hg,fun c h _=>hc c h,⟨[],by simp,by simp⟩,Qd7 _⟩
theorem QA8 (a : House) (x y : Int) (hm : Qf a) : Dd (Rel a 3) (JW a x y):=by
 unfold JW
 simp only [V5 a hm,Option.bind_some]
 refine Dd.bind fun r2 h2=>Dd.bind fun b hb=>Dd.cond (fun _=>Dd.no) fun hbf=>Dd.nd fun hin=>Dd.bind fun r4 _=>Dd.nd fun _=>Dd.bind fun r5 _=>Dd.nd fun _=>Dd.bind fun r6 _=>?_
 subst hbf
 have h0 : (gt a.Claims r2).State = 0:=by
  cases hd : decide (r2 < 0) with
  | true=>rw [hd] at hb; cases hb
  | false =>
   rw [hd] at hb
   obtain ⟨r3,_,hb⟩:=Option.bind_eq_some_iff.1 (show ((QV a).bind fun _=>_) = some false from hb)
   cases r3 with
   | false=>cases hb
   | true =>
    obtain ⟨_,hb⟩:=VK (show (nd (inb a.Claims r2) <| some (!decide ((gt a.Claims r2).State = 0))) = some false from hb)
    injection hb with hb
    simpa using hb
 have hcl : ∀ (q : Claim) c,c ∈ a.Claims → c.State = 3 → c ∈ a.Claims.set r2.toNat q:=by
  intro q c hc h3
  obtain ⟨i,hi,rfl⟩:=List.getElem_of_mem hc
  have hne : r2.toNat ≠ i:=by
   rintro rfl
   rw [QcV] at hin
   have e : r2 = (r2.toNat : Int):=by omega
   rw [e,Qm hi] at h0
   omega
  exact List.mem_iff_getElem.2 ⟨i,by rw [List.length_set]; exact hi,by rw [List.getElem_set_ne hne]⟩
 refine Dd.cond (fun _=>Dd.nd fun _=>Dd.done fun _=>?_) fun _=>Dd.cond (fun _=>Dd.nd fun _=>Dd.done fun _=>?_) fun _=>Dd.done fun _=>?_
 ·exact ⟨fun g hg=>hg,fun g hg=>.inl hg,hcl _,⟨[],by simp,by simp⟩,Qd7 _⟩
 ·exact ⟨fun g hg=>hg,fun g hg=>.inl hg,hcl _,⟨[],by simp,by simp⟩,Qd7 _⟩
 ·exact ⟨fun g hg=>hg,fun g hg=>.inl hg,fun c hc _=>hc,⟨[],by simp,by simp⟩,Qd7 _⟩
theorem QHY (a : House) (n : Int) (hm : Qf a) : Dd (Rel a 7) (ZR a n):=by
 unfold ZR
 simp only [V5 a hm,Option.bind_some]
 exact Dd.bind fun b _=>Dd.cond (fun _=>Dd.no) fun _=>Dd.done fun _=>⟨fun g hg=>hg,fun g hg=>.inl hg,fun c hc _=>hc,⟨[],by simp,by simp⟩,Qd7 _⟩
theorem QFu (a : House) (t hd w : Int) (hm : Qf a) {g : House × Bool} (hg : Jd a t hd w = some g) : (g.2 = true → ∃ s,g.1.Chain = a.Chain ++ [⟨t,hd,w,a.Now,s⟩]) ∧ g.1.Finds = a.Finds ∧ g.1.Claims = a.Claims ∧ g.1.Book = a.Book ∧ g.1.Now = a.Now:=by
 unfold Jd at hg
 rw [V5 a hm] at hg
 obtain ⟨r2,h2,hg⟩:=Option.bind_eq_some_iff.1 (show ((QaF a.Slots t).bind fun _=>_) = some g from hg)
 obtain ⟨r3,h3,hg⟩:=Option.bind_eq_some_iff.1 hg
 cases hb : r2.2 with
 | true =>
  rw [hb] at hg
  simp only [cond_true] at hg
  injection hg with hg
  subst hg
  exact ⟨fun h=>QhE a.Chain _ h3 h,rfl,rfl,rfl,rfl⟩
 | false =>
  rw [hb] at hg
  simp only [cond_false] at hg
  injection hg with hg
  subst hg
  exact ⟨fun h=>(by cases h),rfl,rfl,rfl,rfl⟩
theorem QED (a : House) (f t c : Int) {r : House × Bool} (hr : JA a f t c = some r) : r.1.Claims = a.Claims ∧ (r.2 = true → a.Book.length ≤ 1048576 → c = 0 ∨ 1 ≤ c):=by
 unfold JA at hr
 by_cases h0 : c = 0
 ·rw [decide_eq_true h0] at hr
  injection hr with hr
  subst hr
  exact ⟨rfl,fun _ _=>.inl h0⟩
 ·rw [decide_eq_false h0] at hr
  obtain ⟨q,hq,hr⟩:=Option.bind_eq_some_iff.1 (show ((J7 a.Book (⟨f,t,c,a.Now⟩ : Entry)).bind fun _=>_) = some r from hr)
  injection hr with hr
  subst hr
  refine ⟨rfl,fun hd hl=>?_⟩
  unfold J7 at hq
  obtain ⟨_,hq⟩:=VK hq
  obtain ⟨_,hq⟩:=VK hq
  obtain ⟨b,hb,hq⟩:=Option.bind_eq_some_iff.1 hq
  cases b with
  | false=>obtain ⟨_,h⟩:=VK (show (nd (rm (0 + a.Book.length) 32) <| some (a.Book,false)) = some q from hq); injection h with h; subst h; cases hd
  | true =>
   obtain ⟨b,e1,_,e3⟩:=Qf4 (a.Book ++ [⟨f,t,c,a.Now⟩]) (by simp; omega)
   rw [hb] at e1
   injection e1 with e1
   subst e1
   have hn:=(e3 rfl).1
   exact .inr (Qhu _ (by omega) hb ⟨f,t,c,a.Now⟩ (by simp)).1
theorem Qfq (l : List Find) (t : Int) (hl : l.length ≤ 1048576) {r : Int} (h : Xb l t = some r) (h0 : ¬ r < 0) : ∃ k : Nat,∃ hk : k < l.length,r = (k : Int) ∧ Xg l t = (k : Int) ∧ l[k].Thing.Id = t:=by
 rw [(VZ l t hl).1] at h
 injection h with h
 rcases Qft l t with h1 | ⟨k,hk,h1,h2⟩
 ·omega
 ·exact ⟨k,hk,by omega,h1,h2⟩
theorem Qp2 (l : List Claim) (hl : l.length ≤ 1048576) (h : QS l = some true) (i j : Nat) (hi : i < l.length) (hj : j < l.length) (he : l[i].Id = l[j].Id) : i = j:=by
 have up:=QeY l (by omega) h
 have hu:=Qnp (n:=l.length) (fun i=>(gt l (i : Int)).Id) (fun i h1 h2=>by
  show (gt l ((i - 1 : Nat) : Int)).Id < (gt l (i : Int)).Id
  rw [Qm h1,Qm (show i - 1 < l.length by omega)]; exact up i h1 h2)
 by_cases h1 : i < j
 ·have:=hu j i h1 hj
  simp only [Qm hi,Qm hj] at this; omega
 ·by_cases h2 : j < i
  ·have:=hu i j h2 hi
   simp only [Qm hi,Qm hj] at this; omega
  ·omega
theorem QoL (l : List Claim) (t id : Int) (hl : l.length ≤ 1048576) (hp : XM l t = some id) (h0 : id ≠ 0) {r : List Claim × Bool} (hr : Qb8 l id 3 = some r) (hd : r.2 = true) :
  ∃ k : Nat,∃ hk : k < l.length,ZW l id = (k : Int) ∧ l[k].Thing = t ∧ (⟨l[k].Id,l[k].Who,l[k].Thing,l[k].At,3⟩ : Claim) ∈ r.1 ∧ ∀ c ∈ l,c.State = 3 → c ∈ r.1:=by
 obtain ⟨c,e1,_,e3⟩:=Qjd l t hl
 rw [hp] at e1
 injection e1 with e1
 subst e1
 obtain ⟨j,hj,j1,j2,j3⟩:=e3.resolve_left h0
 obtain ⟨k,hk,k1,k2⟩:=Qgg l id j hj j1
 unfold Qb8 at hr
 obtain ⟨_,hr⟩:=VK hr
 rw [(Z6 l id hl).1] at hr
 simp only [Option.bind_some,k1,decide_eq_false (show ¬ (k : Int) < 0 by omega),cond_false,Qe hk,Qm hk,Qa,Int.toNat_natCast] at hr
 obtain ⟨b,hb,hr⟩:=Option.bind_eq_some_iff.1 hr
 obtain ⟨v,hv,hb⟩:=Option.bind_eq_some_iff.1 hb
 cases v with
 | false =>
  injection hb with hb
  subst hb
  injection hr with hr
  subst hr
  cases hd
 | true =>
  injection hb with hb
  subst hb
  have hkj : k = j:=Qp2 l hl hv k j hk hj (by rw [k2,j1])
  subst hkj
  rw [j3] at hr
  obtain ⟨b2,_,hr⟩:=Option.bind_eq_some_iff.1 hr
  cases b2 with
  | true =>
   obtain ⟨_,h⟩:=VK (show (nd (rm (0 + l.length) 40) <| some (l,false)) = some r from hr)
   injection h with h
   subst h
   cases hd
  | false =>
   injection hr with hr
   subst hr
   refine ⟨k,hk,k1,j2,List.mem_iff_getElem.2 ⟨k,by rw [List.length_set]; exact hk,by rw [List.getElem_set_self]⟩,fun c hc h3=>?_⟩
   obtain ⟨i,hi,rfl⟩:=List.getElem_of_mem hc
   have hne : k ≠ i:=by rintro rfl; omega
   exact List.mem_iff_getElem.2 ⟨i,by rw [List.length_set]; exact hi,by rw [List.getElem_set_ne hne]⟩
theorem Qqf (f : Find) (l : List Claim) (now id : Int) (h : XM l f.Thing.Id = some id) (h0 : id ≠ 0) : Jb f l now = some 1:=by
 unfold Jb
 rw [h]
 simp only [Option.bind_some,decide_eq_false h0,Bool.not_false,cond_true]
theorem QEx (a : House) (t : Int) (hm : Qf a) : Dd (Rel a 4) (Zm a t):=by
 unfold Zm
 refine Dd.bind fun r h1=>Dd.bind fun r2 h2=>Dd.bind fun b hb=>Dd.cond (fun _=>Dd.bind fun _ _=>Dd.no) fun hbf=>Dd.bind fun r5 h5=>Dd.nd fun hin=>Dd.bind fun g hg=>Dd.bind fun r7 h7=>Dd.nd fun _=>Dd.bind fun r8 _=>Dd.bind fun r9 h9=>Dd.cond (fun b6=>Dd.cond (fun b7=>Dd.done fun b9=>?_) fun _=>Dd.donF) fun _=>Dd.donF
 subst hbf
 have hr0 : r ≠ 0:=by
  intro h0
  rw [decide_eq_true h0] at hb
  cases hb
 have h20 : ¬ r2 < 0:=by
  intro h0
  rw [decide_eq_false hr0,decide_eq_true h0] at hb
  cases hb
 obtain ⟨k,hk,_,k2,k3⟩:=Qfq a.Finds t hm.1 h2 h20
 obtain ⟨j,hj,j1,j2,j3,j4⟩:=QoL a.Claims t r hm.2.2.2.1 h1 hr0 h7 b7
 have e5 : r5 = (j : Int):=by
  rw [(Z6 a.Claims r hm.2.2.2.1).1] at h5
  injection h5 with h5
  rw [← h5,j1]
 subst e5
 rw [Qm hj] at hg h9
 obtain ⟨o1,o2,o3,o4,o5⟩:=QFu a t 3 _ hm hg
 obtain ⟨q1,q2⟩:=QED _ _ _ _ h9
 obtain ⟨_,p2,p3,_,p5⟩:=Qw7 _ _ _ _ h9
 obtain ⟨s,o1⟩:=o1 b6
 have q2:=q2 b9 (by show g.1.Book.length ≤ _; rw [o4]; exact hm.2.2.2.2.2.2)
 have p5:=p5 b9
 have hserved : Qr2 r9.1 ⟨t,3,a.Claims[j].Who,a.Now,s⟩:=by
  refine ⟨⟨a.Claims[j].Id,a.Claims[j].Who,a.Claims[j].Thing,a.Claims[j].At,3⟩,?_,rfl,j2,rfl⟩
  rw [q1]; exact j3
 refine ⟨fun x hx=>?_,fun x hx=>?_,fun c hc h3=>?_,⟨[⟨t,3,a.Claims[j].Who,a.Now,s⟩],?_,fun x hx _=>?_⟩,⟨if r8 = 0 then [] else [⟨a.Claims[j].Who,0,r8,g.1.Now⟩],?_,?_⟩⟩
 ·rw [p3]; show x ∈ g.1.Finds; rw [o2]; exact hx
 ·rw [p3] at hx; rw [← o2]; exact .inl hx
 ·rw [q1]; exact j4 c hc h3
 ·rw [p2]; exact o1
 ·rw [List.mem_singleton.1 hx]
  exact ⟨k,hk,k2,⟨1,Qqf _ _ _ r (by rw [k3]; exact h1) hr0,by decide⟩,.inl ⟨rfl,hserved⟩,fun _ _=>⟨r,j,hj,h1,j1,rfl⟩⟩
 ·rw [p5]; show g.1.Book ++ _ = _; rw [o4]
 ·rcases q2 with h0 | h0
  ·rw [if_pos h0]; simp [Jk,Vo]
  ·rw [if_neg (by omega)]
   simp only [Jk,Vo,List.map_cons,List.map_nil,List.sum_cons,List.sum_nil]
   split <;> simp <;> omega
theorem QwJ (f : Find) (l : List Claim) (now v : Int) (h : Jb f l now = some v) (hv : 2 ≤ v) : Qcv f now = some true:=by
 unfold Jb at h
 obtain ⟨p,_,h⟩:=Option.bind_eq_some_iff.1 h
 cases hp : decide (p = 0) with
 | false=>rw [hp] at h; injection h with h; omega
 | true =>
  rw [hp] at h
  obtain ⟨o,ho,h⟩:=Option.bind_eq_some_iff.1 (show ((run (Zq l now f) 0).bind _) = some v from h)
  cases o with
  | ret q =>
   injection h with h
   subst h
   have : q = 0:=by
    have:=Ql2 (step:=Zq l now f) (fun s=>True) (fun o=>∀ r,o = .ret r → r = 0)
     (fun s s' _ _=>trivial)
     (fun s o _ e=>by
      intro r hr
      subst hr
      unfold Zq at e
      cases h1 : decide (s < ln l) with
      | false=>rw [h1] at e; cases e
      | true =>
       rw [h1] at e
       obtain ⟨b,_,e⟩:=Option.bind_eq_some_iff.1 e
       cases b with
       | true=>injection e with e; injection e with e; injection e with e; exact e.symm
       | false=>cases e)
     (s:=0) trivial ho q rfl
    exact this
   omega
  | brk u =>
   obtain ⟨d,hd,h⟩:=Option.bind_eq_some_iff.1 (show ((Qcv f now).bind _) = some v from h)
   cases d with
   | true=>exact hd
   | false=>injection h with h; omega
theorem Dd.and {p q : House → Prop} {x : Option (House × Bool)} (h1 : Dd p x) (h2 : Dd q x) : Dd (fun o=>p o ∧ q o) x:=fun r hr hd=>⟨h1 r hr hd,h2 r hr hd⟩
theorem Dd.imp {p q : House → Prop} {x : Option (House × Bool)} (h1 : Dd p x) (h : ∀ o,p o → q o) : Dd q x:=fun r hr hd=>h _ (h1 r hr hd)
def OutR (a : House) (kind : Int) (o : House) : Prop:=o.Finds = a.Finds ∧ o.Claims = a.Claims ∧ ∃ x,o.Chain = a.Chain ++ [x] ∧ Gone a kind o x
theorem OutR.rel {a o : House} {kind : Int} (h : OutR a kind o) (hb : ∃ tb,o.Book = a.Book ++ tb ∧ Vo tb 0 ≤ Jk tb 0) : Rel a kind o:=by
 obtain ⟨h1,h2,x,h3,h4⟩:=h
 exact ⟨fun g hg=>by rw [h1]; exact hg,fun g hg=>.inl (by rw [← h1]; exact hg),fun c hc _=>by rw [h2]; exact hc,⟨[x],h3,fun y hy _=>by rw [List.mem_singleton.1 hy]; exact h4⟩,hb⟩
theorem QsP {a o : House} {kind t v w : Int} {hd s : Int} {k : Nat} (hk : k < a.Finds.length) (h1 : Xg a.Finds t = (k : Int)) (h2 : Jb a.Finds[k] a.Claims a.Now = some v) (hv : 2 ≤ v) (h4 : kind ≠ 4) (hw : hd = 3 → a.Finds[k].Finder = w) : Gone a kind o ⟨t,hd,w,a.Now,s⟩ :=
 ⟨k,hk,h1,⟨v,h2,by omega⟩,.inr ⟨QwJ _ _ _ v h2 hv,hw⟩,fun _ h=>absurd h h4⟩
theorem QHB (a : House) (t : Int) (l : List Bid) (hm : Qf a) (hl : l.length ≤ 1048576) : Dd (Rel a 5) (Jl a t l):=by
 refine Dd.imp (Dd.and (p:=OutR a 5) ?_ (QLS a t l hm hl)) fun o h=>h.1.rel h.2.2
 unfold Jl
 refine Dd.bind fun r h1=>Dd.bind fun r2 _=>Dd.bind fun b hb=>Dd.cond (fun _=>Dd.bind fun _ _=>Dd.no) fun hbf=>Dd.bind fun r6 h6=>Dd.bind fun r7 h7=>Dd.nd fun _=>Dd.bind fun r8 _=>?_
 subst hbf
 have h10 : ¬ r < 0:=by
  intro h0
  rw [decide_eq_true h0] at hb
  cases hb
 obtain ⟨k,hk,rfl,k2,k3⟩:=Qfq a.Finds t hm.1 h1 h10
 have hf : Jb a.Finds[k] a.Claims a.Now = some 3:=by
  rw [decide_eq_false h10] at hb
  cases hz : decide (r2.1 = 0) with
  | true=>rw [hz] at hb; cases hb
  | false =>
   rw [hz] at hb
   obtain ⟨r3,_,hb⟩:=Option.bind_eq_some_iff.1 (show ((QV a).bind fun _=>_) = some false from hb)
   cases r3 with
   | false=>cases hb
   | true =>
    obtain ⟨_,hb⟩:=VK (show (nd (inb a.Finds (k : Int)) <| (Jb (gt a.Finds (k : Int)) a.Claims a.Now).bind fun r4=>some (!decide (r4 = 3))) = some false from hb)
    obtain ⟨r4,e4,hb⟩:=Option.bind_eq_some_iff.1 hb
    injection hb with hb
    have : r4 = 3:=by simpa using hb
    rw [Qm hk] at e4
    rw [e4,this]
 obtain ⟨o1,o2,o3,o4,o5⟩:=QFu a t 4 _ hm h6
 have fin : ∀ o : House,r6.2 = true → o.Finds = r6.1.Finds → o.Claims = r6.1.Claims → o.Chain = r6.1.Chain → OutR a 5 o:=by
  intro o b6 e1 e2 e3
  obtain ⟨s,o1⟩:=o1 b6
  exact ⟨by rw [e1,o2],by rw [e2,o3],_,by rw [e3]; exact o1,QsP hk k2 hf (by decide) (by decide) (fun h=>absurd h (by decide))⟩
 obtain ⟨q1,_⟩:=QED _ _ _ _ h7
 obtain ⟨_,p2,p3,_,_⟩:=Qw7 _ _ _ _ h7
 refine Dd.cond (fun _=>Dd.nd fun _=>Dd.bind fun r9 h9=>Dd.cond (fun b6=>Dd.cond (fun b7=>Dd.done fun b9=>?_) fun _=>Dd.donF) fun _=>Dd.donF) fun _=>Dd.cond (fun b6=>Dd.done fun b7=>fin _ b6 p3 q1 p2) fun _=>Dd.donF
 obtain ⟨u1,_⟩:=QED _ _ _ _ h9
 obtain ⟨_,v2,v3,_,_⟩:=Qw7 _ _ _ _ h9
 exact fin _ b6 (by rw [v3,p3]) (by rw [u1,q1]) (by rw [v2,p2])
theorem QFs (a : House) (t : Int) (hm : Qf a) : Dd (Rel a 6) (Zp a t):=by
 unfold Zp
 refine Dd.bind fun r h1=>Dd.bind fun b hb=>Dd.cond (fun _=>Dd.bind fun _ _=>Dd.no) fun hbf=>Dd.nd fun _=>Dd.bind fun r4 h4=>?_
 subst hbf
 have h10 : ¬ r < 0:=by
  intro h0
  rw [decide_eq_true h0] at hb
  cases hb
 obtain ⟨k,hk,rfl,k2,k3⟩:=Qfq a.Finds t hm.1 h1 h10
 rw [Qm hk] at h4
 have fin : ∀ (hd w : Int) (g : House × Bool),Jd a t hd w = some g → g.2 = true → 2 ≤ r4 → (hd = 3 → a.Finds[k].Finder = w) → Rel a 6 g.1:=by
  intro hd w g hg b h2 hw
  obtain ⟨o1,o2,o3,o4,o5⟩:=QFu a t hd w hm hg
  obtain ⟨s,o1⟩:=o1 b
  exact OutR.rel ⟨o2,o3,_,o1,QsP hk k2 h4 h2 (by decide) hw⟩ (by rw [o4]; exact Qd7 _)
 refine Dd.cond (fun hq=>Dd.bind fun g hg=>Dd.done fun b6=>fin 3 _ g hg b6 (by have:=of_decide_eq_true hq; omega) (fun _=>by rw [Qm hk])) fun _=>Dd.cond (fun hq=>Dd.cond (fun _=>Dd.bind fun g hg=>Dd.done fun b6=>fin 5 0 g hg b6 (by have:=of_decide_eq_true hq; omega) (fun h=>absurd h (by decide))) fun _=>Dd.bind fun _ _=>Dd.no) fun _=>Dd.cond (fun hq=>Dd.bind fun g hg=>Dd.done fun b6=>fin 5 0 g hg b6 (by have:=of_decide_eq_true hq; omega) (fun h=>absurd h (by decide))) fun _=>Dd.bind fun _ _=>Dd.no
end Go.Proofs.YtonidbheohhgdaaGreat
namespace Go.Proofs.YtonidbheohhgdaaGreat
open Go
set_option linter.unusedVariables false
set_option linter.unusedSimpArgs false
structure Inv (h : House) : Prop where
 ok : QV h = some true
 acc : ∀ f ∈ h.Finds,∃ x ∈ h.Chain,x.Thing = f.Thing.Id
 own : ∀ x ∈ h.Chain,3 ≤ x.Holder → (x.Holder = 3 ∧ Qr2 h x) ∨ ∃ f ∈ h.Finds,f.Thing.Id = x.Thing ∧ Qcv f x.At = some true ∧ (x.Holder = 3 → f.Finder = x.Who)
 bal : Vo h.Book 0 ≤ Jk h.Book 0
theorem Qx9 {a o : House} {kind : Int} (h : Inv a) (hv : QV o = some true) (hr : Rel a kind o) : Inv o:=by
 obtain ⟨r1,r2,r3,⟨tl,c1,c2⟩,tb,b1,b2⟩:=hr
 refine ⟨hv,fun g hg=>?_,fun x hx h3=>?_,?_⟩
 ·rcases r2 g hg with h1 | h1
  ·obtain ⟨x,x1,x2⟩:=h.acc g h1
   exact ⟨x,by rw [c1]; exact List.mem_append_left _ x1,x2⟩
  ·exact h1
 ·rw [c1] at hx
  rcases List.mem_append.1 hx with hx | hx
  ·rcases h.own x hx h3 with ⟨q,c,q1,q2,q3,q4⟩ | ⟨f,f1,f2⟩
   ·exact .inl ⟨q,c,r3 c q1 q2,q2,q3,q4⟩
   ·exact .inr ⟨f,r1 f f1,f2⟩
  ·obtain ⟨k,hk,k1,_,k3,_⟩:=c2 x hx h3
   rcases k3 with k3 | ⟨k3,k4⟩
   ·exact .inl k3
   ·refine .inr ⟨a.Finds[k],r1 _ (List.getElem_mem hk),?_,k3,k4⟩
    rcases Qft a.Finds x.Thing with e | ⟨j,hj,e,ej⟩
    ·omega
    ·have : j = k:=by omega
     subst this
     exact ej
 ·have:=h.bal
  rw [b1,QnU,Qkm]; omega
theorem Dd.pair {p : House → Prop} {o : Option (House × Bool)} (h : Dd p o) : Dd p (o.bind fun r=>some (r.1,r.2)):=fun r hr hd=>by
 obtain ⟨y,hy,e⟩:=Option.bind_eq_some_iff.1 hr
 injection e with e; subst e
 exact h y hy hd
theorem QF7 (a : House) (e : Event) (hm : Qf a) (hl : e.Bids.length ≤ 1048576) : Dd (Rel a e.Kind) (JT a e):=by
 unfold JT
 simp only [V5 a hm,Option.bind_some]
 exact Dd.cond (fun h=>by rw [of_decide_eq_true h]; exact (QM0 a _ _ _ hm).pair) fun _ =>
  Dd.cond (fun h=>by rw [of_decide_eq_true h]; exact (QGj a _ _ _ hm).pair) fun _ =>
  Dd.cond (fun h=>by rw [of_decide_eq_true h]; exact (QA8 a _ _ hm).pair) fun _ =>
  Dd.cond (fun h=>by rw [of_decide_eq_true h]; exact (QEx a _ hm).pair) fun _ =>
  Dd.cond (fun h=>by rw [of_decide_eq_true h]; exact (QHB a _ _ hm hl).pair) fun _ =>
  Dd.cond (fun h=>by rw [of_decide_eq_true h]; exact (QFs a _ hm).pair) fun _ =>
  Dd.cond (fun h=>by rw [of_decide_eq_true h]; exact (QHY a _ hm).pair) fun _=>Dd.no
theorem Qus (a : House) (e : Event) (hm : Qf a) (hl : e.Bids.length ≤ 1048576) (hi : Inv a) {r : House × Bool} (h : JT a e = some r) :
  Inv r.1 ∧ ∃ tl,r.1.Chain = a.Chain ++ tl ∧ ∀ x ∈ tl,3 ≤ x.Holder → Gone a e.Kind r.1 x:=by
 obtain ⟨q1,q2⟩:=Qpu a e hm r h
 cases hb : r.2 with
 | true =>
  have hr:=QF7 a e hm hl r h hb
  exact ⟨Qx9 hi (q1 hb).2 hr,hr.chain⟩
 | false =>
  rw [q2 hb]
  exact ⟨hi,[],by simp,by simp⟩
end Go.Proofs.YtonidbheohhgdaaGreat
namespace Go.Proofs.YtonidbheohhgdaaGreat
open Go
set_option linter.unusedVariables false
set_option linter.unusedSimpArgs false
theorem QjW {n : Nat} {step : Int → Option (Int ⊕ (Fl Bool Unit))} {p : Nat → Prop} {k : Option Bool} (h1 : ∀ i : Nat,i < n → step (i : Int) = some (.inr (.ret false)) ∨ (step (i : Int) = some (.inl ((i + 1 : Nat) : Int)) ∧ p i)) (h2 : step (n : Int) = some (.inr (.brk ())))
  (h : (run step 0).bind (evO (fun r=>some r) fun _=>k) = some true) : (∀ i,i < n → p i) ∧ k = some true:=by
 have key : ∀ (m i : Nat),i + m = n → run step (i : Int) = some (.ret false) ∨ (run step (i : Int) = some (.brk ()) ∧ ∀ j,i ≤ j → j < n → p j):=by
  intro m
  induction m with
  | zero =>
   intro i hi
   have : i = n:=by omega
   subst this
   right
   exact ⟨by rw [Qh,h2]; rfl,fun j h3 h4=>by omega⟩
  | succ m ih =>
   intro i hi
   rcases h1 i (by omega) with h3 | ⟨h3,h4⟩
   ·left; rw [Qh,h3]; rfl
   ·rcases ih (i + 1) (by omega) with h5 | ⟨h5,h6⟩
    ·left; rw [Qh,h3]; exact h5
    ·right
     refine ⟨by rw [Qh,h3]; exact h5,fun j h7 h8=>?_⟩
     by_cases hij : j = i
     ·subst hij; exact h4
     ·exact h6 j (by omega) h8
 rcases key n 0 (by omega) with h3 | ⟨h3,h4⟩
 ·rw [show run step 0 = some (.ret false) from h3] at h; cases h
 ·rw [show run step 0 = some (.brk ()) from h3] at h
  exact ⟨fun i hi=>h4 i (by omega) hi,h⟩
theorem Qgi {n : Nat} {step : Int → Option (Int ⊕ (Fl Bool Unit))} (h1 : ∀ i : Nat,i < n → step (i : Int) = some (.inl ((i + 1 : Nat) : Int))) (h2 : step (n : Int) = some (.inr (.brk ()))) : run step 0 = some (.brk ()) :=
 XP (step:=step) (fun i=>(i : Int)) (r:=.brk ()) n h1 h2
theorem QnQ (h : House) (m1 : h.Finds.length ≤ 1048576) (m3 : h.Slots.length ≤ 1048576) (m6 : h.Chain.length ≤ 100) (c1 : Vx h.Chain = some true) (c2 : VQ h.Chain = some true) (hk : J0 h = some true) :
  ∃ r,X3 h.Chain h.No = some r ∧ r.length ≤ 100 ∧ (∀ i (hi : i < h.Finds.length),decide (h.Finds[i].Thing.Id ∈ r) = XT h.Slots h.Finds[i].Thing.Id) ∧ ∀ t ∈ r,∃ k : Nat,∃ hk : k < h.Finds.length,h.Finds[k].Thing.Id = t:=by
 obtain ⟨_,r,_,e2,_,_,e3⟩:=QsS h.Chain h.No m6 c1 c2
 unfold J0 at hk
 cases hd : (!decide (ln h.Secrets = ln h.Finds)) with
 | true=>rw [hd] at hk; cases hk
 | false =>
 have hs : h.Secrets.length = h.Finds.length:=by
  have : decide (ln h.Secrets = ln h.Finds) = true:=by simpa using hd
  have:=of_decide_eq_true this
  rw [VA,VA] at this; omega
 rw [hd,cond_false,e2,Option.bind_some] at hk
 obtain ⟨q1,hk⟩:=QjW (n:=h.Finds.length) (p:=fun i=>∀ hi : i < h.Finds.length,decide (h.Finds[i].Thing.Id ∈ r) = XT h.Slots h.Finds[i].Thing.Id) (fun i hi=>by
   obtain ⟨c,w1,w2⟩:=Qbv h.Slots h.Finds[i].Thing.Id m3
   have w3 : decide (0 ≤ c) = XT h.Slots h.Finds[i].Thing.Id:=by
    have : decide (0 ≤ c) = !decide (c < 0):=by
     by_cases hc : c < 0
     ·rw [decide_eq_true hc,decide_eq_false (show ¬ 0 ≤ c by omega)]; rfl
     ·rw [decide_eq_false hc,decide_eq_true (show 0 ≤ c by omega)]; rfl
    rw [this,w2,Bool.not_not]
   simp only [Ja,Qt hi,Qe hi,Qm hi,Qe (show i < h.Secrets.length by omega),QD (show (i : Int) < 9223372036854775807 by omega),cond_true,Qa,w1,w3,QDA r _ (show r.length ≤ 1048576 by omega),Option.bind_some]
   cases (!decide ((gt h.Secrets (i : Int)).Thing = h.Finds[i].Thing.Id)) with
   | true=>exact .inl rfl
   | false =>
    cases hA : XT h.Slots h.Finds[i].Thing.Id <;> cases hB : decide (h.Finds[i].Thing.Id ∈ r) <;> first | exact .inl rfl | exact .inr ⟨rfl,fun _=>hB.trans hA.symm⟩)
  (by simp only [Ja,Qx (Nat.le_refl _),cond_false]) hk
 obtain ⟨o,ho,hk⟩:=Option.bind_eq_some_iff.1 hk
 have t3:=Qg2 h.Slots (fun x=>decide (x.Thing = 0) || !decide (Xg h.Finds x.Thing < 0)) (r:=false) (step:=Xe h r h.Slots (ln h.Slots))
  (fun i hi=>by
   simp only [Xe,Qt hi,Qe hi,Qm hi,QD (show (i : Int) < 9223372036854775807 by omega),cond_true,Qa,(VZ h.Finds _ m1).2,Option.bind_some]
   cases decide (h.Slots[i].Thing = 0) <;> cases decide (Xg h.Finds h.Slots[i].Thing < 0) <;> rfl)
  (by simp only [Xe,Qx (Nat.le_refl _),cond_false])
 rw [t3] at ho
 cases ha : h.Slots.all (fun x=>decide (x.Thing = 0) || !decide (Xg h.Finds x.Thing < 0)) with
 | false=>rw [ha] at ho; injection ho with ho; subst ho; cases hk
 | true =>
  rw [ha] at ho; injection ho with ho; subst ho
  obtain ⟨q2,_⟩:=QjW (n:=r.length) (p:=fun i=>∀ hi : i < r.length,∃ k : Nat,∃ hk : k < h.Finds.length,h.Finds[k].Thing.Id = r[i]) (fun i hi=>by
    simp only [XJ,Qt hi,Qe hi,Qm hi,QD (show (i : Int) < 9223372036854775807 by omega),cond_true,Qa,(VZ h.Finds _ m1).2,Option.bind_some]
    rcases Qft h.Finds r[i] with e | ⟨k,hk,e,e2⟩
    ·rw [e]; exact .inl rfl
    ·rw [e,decide_eq_false (show ¬ (k : Int) < 0 by omega)]
     exact .inr ⟨rfl,fun _=>⟨k,hk,e2⟩⟩)
   (by simp only [XJ,Qx (Nat.le_refl _),cond_false]) hk
  refine ⟨r,e2,e3,fun i hi=>q1 i hi hi,fun t ht=>?_⟩
  obtain ⟨i,hi,rfl⟩:=List.getElem_of_mem ht
  exact q2 i hi hi
theorem Qpb (h : House) (m1 : h.Finds.length ≤ 1048576) (m2 : h.Secrets.length ≤ 1048576) (mm : ∀ x ∈ h.Secrets,x.Marks.length ≤ 1048576) (m4 : h.Claims.length ≤ 1048576) (ht : VL h = some true) :
  ∀ i (hi : i < h.Claims.length) (hi2 : i < h.Trials.length),h.Trials[i].Claim = h.Claims[i].Id ∧ ∃ m c,J1 h.Secrets h.Claims[i].Thing = some m ∧ VU m h.Trials[i] = some c ∧ Jt h.Claims[i].State = some c:=by
 have hlen:=Qeg h ht
 unfold VL at ht
 rw [show (!decide (ln h.Trials = ln h.Claims)) = false from by rw [VA,VA,hlen]; simp,cond_false] at ht
 obtain ⟨q,_⟩:=QjW (n:=h.Claims.length) (p:=fun i=>∀ (hi : i < h.Claims.length) (hi2 : i < h.Trials.length),h.Trials[i].Claim = h.Claims[i].Id ∧ ∃ m c,J1 h.Secrets h.Claims[i].Thing = some m ∧ VU m h.Trials[i] = some c ∧ Jt h.Claims[i].State = some c) (fun i hi=>by
   have hi2 : i < h.Trials.length:=by omega
   obtain ⟨t,_,t2⟩:=QiI h.Trials[i]
   obtain ⟨m,_,k2,k3⟩:=Qk5 h.Secrets h.Claims[i].Thing m2 mm
   obtain ⟨c,_,s2⟩:=Qd8 m h.Trials[i] k3
   obtain ⟨w,hw⟩ : ∃ w,Jt h.Claims[i].State = some w:=by
    unfold Jt
    cases decide (h.Claims[i].State = 0) <;> cases decide (h.Claims[i].State = 2) <;> exact ⟨_,rfl⟩
   simp only [QR,Qt hi,Qe hi,Qm hi,Qe hi2,Qm hi2,QD (show (i : Int) < 9223372036854775807 by omega),cond_true,Qa,t2,k2,s2,hw,(VZ h.Finds _ m1).2,Option.bind_some]
   by_cases hc : h.Trials[i].Claim = h.Claims[i].Id
   ·by_cases hcw : c = w
    ·subst hcw
     rw [decide_eq_true hc]
     cases decide (Xg h.Finds h.Claims[i].Thing < 0) <;> cases t <;> first | exact .inl rfl | exact .inr ⟨by rw [decide_eq_true (rfl : c = c)]; rfl,fun _ _=>⟨hc,m,c,by first | exact k2 | rfl,by first | exact s2 | rfl,by first | exact hw | rfl⟩⟩
    ·rw [decide_eq_true hc,decide_eq_false hcw]
     cases decide (Xg h.Finds h.Claims[i].Thing < 0) <;> cases t <;> exact .inl rfl
   ·rw [decide_eq_false hc]
    cases decide (Xg h.Finds h.Claims[i].Thing < 0) <;> cases t <;> exact .inl rfl)
  (by simp only [QR,Qx (Nat.le_refl _),cond_false]) ht
 exact fun i hi hi2=>q i hi hi hi2
end Go.Proofs.YtonidbheohhgdaaGreat
namespace Go.Proofs.YtonidbheohhgdaaGreat
open Go
set_option linter.unusedVariables false
set_option linter.unusedSimpArgs false
def Qem (l : List Entry) : List Int:=l.flatMap fun x=>[x.From,x.To]
theorem Ql0 (l : List Entry) : (Qem l).length = 2 * l.length:=by
 unfold Qem
 induction l with
 | nil=>rfl
 | cons x l ih=>rw [List.flatMap_cons,List.length_append,ih]; simp; omega
theorem QAK (l : List Entry) (hl : l.length ≤ 1048576) : QaV l = some (Xv (Xi (Qem l))):=by
 have hrun : run (Xw l (ln l)) ([],0) = some (Qem l):=by
  have:=XP (step:=Xw l (ln l)) (fun i=>(Qem (l.take i),(i : Int))) (r:=Qem l) l.length (fun i hi=>by
    have hlen : (Qem (l.take i)).length ≤ 2 * i:=by rw [Ql0,List.length_take]; omega
    have hrm : rm ((Qem (l.take i)).length + 2) 8 = true:=by unfold rm; exact decide_eq_true (by omega)
    have he : Qem (l.take (i + 1)) = Qem (l.take i) ++ [l[i].From,l[i].To]:=by unfold Qem; rw [List.take_succ_eq_append_getElem hi,List.flatMap_append]; rfl
    simp only [Xw,Qt hi,Qe hi,Qm hi,cond_true,Qa,hrm,he,QD (show (i : Int) < 9223372036854775807 by omega)])
   (by simp only [Xw,Qx (Nat.le_refl _),cond_false,List.take_length])
  simpa [Qem] using this
 unfold QaV
 rw [hrun]
 simp only [Option.bind_some,Qz6 (Qem l) (by rw [Ql0]; omega)]
theorem QlC (t c : Int) : ∀ (A : List Int),A.Pairwise (· < ·) → t ∈ A → (A.map fun a=>if t = a then c else 0).sum = c
 | [],_,h=>by cases h
 | x :: A,hp,h=>by
  obtain ⟨h1,h2⟩:=List.pairwise_cons.1 hp
  rw [List.map_cons,List.sum_cons]
  by_cases htx : t = x
  ·subst htx
   have : (A.map fun a=>if t = a then c else 0).sum = 0:=by
    have hz : ∀ B : List Int,(∀ b ∈ B,t < b) → (B.map fun a=>if t = a then c else 0).sum = 0:=by
     intro B
     induction B with
     | nil=>intro _; rfl
     | cons y B ih =>
      intro hb
      have:=hb y (by simp)
      rw [List.map_cons,List.sum_cons,if_neg (by omega),ih (fun b hb'=>hb b (by simp [hb']))]
      rfl
    exact hz A h1
   rw [if_pos rfl,this]; omega
  ·rw [if_neg htx,QlC t c A h2 ((List.mem_cons.1 h).resolve_left htx)]; omega
theorem Qoe (f g : Int → Int) : ∀ A : List Int,(A.map fun a=>f a + g a).sum = (A.map f).sum + (A.map g).sum
 | []=>rfl
 | x :: A=>by rw [List.map_cons,List.map_cons,List.map_cons,List.sum_cons,List.sum_cons,List.sum_cons,Qoe f g A]; omega
theorem QtC (f g : Int → Int) : ∀ A : List Int,(A.map fun a=>f a - g a).sum = (A.map f).sum - (A.map g).sum
 | []=>rfl
 | x :: A=>by rw [List.map_cons,List.map_cons,List.map_cons,List.sum_cons,List.sum_cons,List.sum_cons,QtC f g A]; omega
theorem QlR : ∀ A : List Int,(A.map fun _=>(0 : Int)).sum = 0
 | []=>rfl
 | x :: A=>by rw [List.map_cons,List.sum_cons,QlR A]; rfl
theorem Qw6 (A : List Int) (hp : A.Pairwise (· < ·)) : ∀ l : List Entry,(∀ x ∈ l,x.To ∈ A) → (A.map fun a=>Jk l a).sum = (l.map fun x=>x.Cents).sum
 | [],_=>QlR A
 | x :: l,h=>by
  have e : (A.map fun a=>Jk (x :: l) a) = A.map fun a=>(if x.To = a then x.Cents else 0) + Jk l a:=by
   congr 1
  rw [e,Qoe,QlC _ _ A hp (h x (by simp)),Qw6 A hp l (fun y hy=>h y (by simp [hy])),List.map_cons,List.sum_cons]
theorem Qpi (A : List Int) (hp : A.Pairwise (· < ·)) : ∀ l : List Entry,(∀ x ∈ l,x.From ∈ A) → (A.map fun a=>Vo l a).sum = (l.map fun x=>x.Cents).sum
 | [],_=>QlR A
 | x :: l,h=>by
  have e : (A.map fun a=>Vo (x :: l) a) = A.map fun a=>(if x.From = a then x.Cents else 0) + Vo l a:=by
   congr 1
  rw [e,Qoe,QlC _ _ A hp (h x (by simp)),Qpi A hp l (fun y hy=>h y (by simp [hy])),List.map_cons,List.sum_cons]
theorem QyY (h : House) (hl : h.Book.length ≤ 1048576) (hv : Vr h.Book = some true) (hb : Vo h.Book 0 ≤ Jk h.Book 0) : Qa0 h = some true:=by
 obtain ⟨hp,hm⟩:=QvD (Qem h.Book)
 have hacc : ∀ x ∈ h.Book,x.From ∈ Qem h.Book ∧ x.To ∈ Qem h.Book:=fun x hx=>⟨List.mem_flatMap.2 ⟨x,hx,by simp⟩,List.mem_flatMap.2 ⟨x,hx,by simp⟩⟩
 have hlen : (Xv (Xi (Qem h.Book))).length ≤ 2097152:=by
  have h1 : (Xv (Xi (Qem h.Book))).length ≤ (Xi (Qem h.Book)).length:=by
   unfold Xv Lib.compact Lib.compactUpTo
   rw [List.length_map]
   exact Nat.le_trans (List.length_filter_le _ _) (by simp)
  have h2 : (Xi (Qem h.Book)).length = (Qem h.Book).length:=by unfold Xi; simp
  rw [h2,Ql0] at h1; omega
 have hz : ((Xv (Xi (Qem h.Book))).map fun a=>Jk h.Book a - Vo h.Book a).sum = 0:=by
  rw [QtC,Qw6 _ hp _ (fun x hx=>(hm _).2 (hacc x hx).2),Qpi _ hp _ (fun x hx=>(hm _).2 (hacc x hx).1)]; omega
 unfold Qa0
 rw [QAK h.Book hl,Option.bind_some]
 generalize hA : Xv (Xi (Qem h.Book)) = A at *
 have hr:=XP (step:=Xx h A (ln A)) (fun i=>(w64 (((A.take i).map fun a=>Jk h.Book a - Vo h.Book a).sum),(i : Int))) (r:=0) A.length (fun i hi=>by
   simp only [Xx,Qt hi,Qe hi,Qm hi,cond_true,Qa,Qp5 h.Book _ hl hv,Option.bind_some,QD (show (i : Int) < 9223372036854775807 by omega),Qyl]
   rw [List.take_succ_eq_append_getElem hi,List.map_append,List.sum_append]
   simp)
  (by
   simp only [Xx,Qx (Nat.le_refl _),cond_false,List.take_length,hz]; rfl)
 rw [show run (Xx h A (ln A)) (0,0) = some 0 from hr]
 simp only [Option.bind_some,decide_true,cond_true,Qp5 h.Book 0 hl hv]
 rw [decide_eq_true (by omega)]
end Go.Proofs.YtonidbheohhgdaaGreat
namespace Go.Proofs.YtonidbheohhgdaaGreat
open Go
set_option linter.unusedVariables false
set_option linter.unusedSimpArgs false
def inQ (l : List Hand) (house : Int) (j : Nat) : Bool:=decide ((gt l (j : Int)).Holder = 2) && (decide ((gt l (j : Int)).Who = house) && decide (Xf l (gt l (j : Int)).Thing l.length = (j : Int)))
theorem QqQ (l : List Hand) (house : Int) (hl : l.length ≤ 100) (c2 : VQ l = some true) {r : List Int} (hr : X3 l house = some r) : r.Pairwise (· < ·):=by
 have hrun:=XP (step:=Xd l house l (ln l)) (fun i=>(((List.range i).filter (inQ l house)).map fun j : Nat=>(gt l (j : Int)).Thing,(i : Int))) (r:=((List.range l.length).filter (inQ l house)).map fun j : Nat=>(gt l (j : Int)).Thing) l.length (fun i hi=>by
   have hlen : (((List.range i).filter (inQ l house)).map fun j : Nat=>(gt l (j : Int)).Thing).length ≤ i:=by
    rw [List.length_map]; exact Nat.le_trans (List.length_filter_le _ _) (by simp)
   have hrm : rm ((((List.range i).filter (inQ l house)).map fun j : Nat=>(gt l (j : Int)).Thing).length + 1) 8 = true:=Vz (by omega) (by omega)
   have hq : inQ l house i = (decide (l[i].Holder = 2) && (decide (l[i].Who = house) && decide (Xf l l[i].Thing l.length = (i : Int)))):=by unfold inQ; rw [Qm hi]
   rw [List.range_succ,List.filter_append,List.map_append]
   simp only [Xd,Qt hi,Qe hi,Qm hi,cond_true,Qa,QD (show (i : Int) < 9223372036854775807 by omega),QjV l _ (show l.length ≤ 1048576 by omega),Option.bind_some,hrm,List.filter_cons,List.filter_nil,hq]
   cases decide (l[i].Holder = 2) <;> cases decide (l[i].Who = house) <;> cases decide (Xf l l[i].Thing l.length = (i : Int)) <;> simp [Qm hi])
  (by simp only [Xd,Qx (Nat.le_refl _),cond_false])
 unfold X3 at hr
 rw [c2] at hr
 simp only [Option.bind_some,Bool.not_true,cond_false] at hr
 rw [show run (Xd l house l (ln l)) ([],0) = _ from hrun] at hr
 obtain ⟨_,hr⟩:=VK (show (nd _ <| some _) = some r from hr)
 injection hr with hr
 subst hr
 have hn : (((List.range l.length).filter (inQ l house)).map fun j : Nat=>(gt l (j : Int)).Thing).Pairwise (· ≠ ·):=by
  rw [List.pairwise_map]
  refine List.Pairwise.imp_of_mem (fun {a b} ha hb hab he=>?_) (List.Pairwise.filter _ List.pairwise_lt_range)
  have q1:=(List.mem_filter.1 ha).2
  have q2:=(List.mem_filter.1 hb).2
  unfold inQ at q1 q2
  simp only [Bool.and_eq_true,decide_eq_true_eq] at q1 q2
  have h1:=q1.2.2
  have h2:=q2.2.2
  rw [he,h2] at h1
  omega
 generalize (((List.range l.length).filter (inQ l house)).map fun j : Nat=>(gt l (j : Int)).Thing) = b at hn
 have hs : (Xi b).Pairwise (· ≤ ·):=by
  have:=List.pairwise_mergeSort (le:=fun x y : Int=>decide (x ≤ y)) (fun a b c h1 h2=>by simp at *; omega) (fun a b=>by simp; omega) b
  unfold Xi
  exact this.imp fun h=>by simpa using h
 have hn2 : (Xi b).Pairwise (· ≠ ·):=(List.mergeSort_perm b (fun x y : Int=>decide (x ≤ y))).symm.nodup_iff.1 hn
 exact (hs.and hn2).imp fun h=>by omega
theorem Qq0 (l : List Find) (hl : l.length ≤ 1048576) (h : V1 l = some true) : l.Pairwise fun x y=>x.Thing.Id < y.Thing.Id:=by
 obtain ⟨b,e1,_,e3⟩:=QjB l (by omega)
 rw [h] at e1
 injection e1 with e1
 subst e1
 have up:=(e3 rfl).2.2
 have hu:=Qnp (n:=l.length) (fun i=>(gt l (i : Int)).Thing.Id) (fun i h1 h2=>by
  show (gt l ((i - 1 : Nat) : Int)).Thing.Id < (gt l (i : Int)).Thing.Id
  rw [Qm h1,Qm (show i - 1 < l.length by omega)]; exact up i h1 h2)
 refine List.pairwise_iff_getElem.2 fun i j hi hj hij=>?_
 have:=hu j i hij hj
 simp only [Qm hi,Qm hj] at this
 exact this
theorem Ql3 (h : House) (hm : Qf h) (ho : HouseOk h) : ∃ r,X3 h.Chain h.No = some r ∧ Qda h = some r ∧ r.length ≤ 100:=by
 obtain ⟨b,e1,_,e3⟩:=QiA h.Chain
 rw [ho.nS] at e1
 injection e1 with e1
 subst e1
 obtain ⟨r,r1,r2,r3,r4⟩:=QnQ h hm.1 hm.2.2.1 (e3 rfl).1 ho.nS ho.nI ho.kept
 have ra:=QqQ h.Chain h.No (e3 rfl).1 ho.nI r1
 have sa : ((h.Finds.filter fun x=>XT h.Slots x.Thing.Id).map fun x=>x.Thing.Id).Pairwise (· < ·):=by
  rw [List.pairwise_map]
  exact List.Pairwise.filter _ (Qq0 h.Finds hm.1 ho.fS)
 have e : ((h.Finds.filter fun x=>XT h.Slots x.Thing.Id).map fun x=>x.Thing.Id) = r:=Qv7 sa ra fun t=>by
  constructor
  ·intro ht
   obtain ⟨f,hf,rfl⟩:=List.mem_map.1 ht
   obtain ⟨hf,hs⟩:=List.mem_filter.1 hf
   obtain ⟨i,hi,rfl⟩:=List.getElem_of_mem hf
   have:=r3 i hi
   rw [hs] at this
   exact of_decide_eq_true this
  ·intro ht
   obtain ⟨k,hk,rfl⟩:=r4 t ht
   have:=r3 k hk
   rw [decide_eq_true ht] at this
   exact List.mem_map.2 ⟨h.Finds[k],List.mem_filter.2 ⟨List.getElem_mem hk,this.symm⟩,rfl⟩
 exact ⟨r,r1,by rw [QDR h hm.1 hm.2.2.1,e],r2⟩
theorem QmZ (l : List Int) (hl : l.length ≤ 1048576) : Qcg l l = some true:=by
 have hr:=Qgi (n:=l.length) (step:=Zd l l) (fun i hi=>by
   simp only [Zd,Qt hi,Qe hi,Qm hi,cond_true,Qa,decide_true,Bool.not_true,cond_false,QD (show (i : Int) < 9223372036854775807 by omega)])
  (by simp only [Zd,Qx (Nat.le_refl _),cond_false])
 unfold Qcg
 rw [hr,decide_eq_true rfl]; rfl
end Go.Proofs.YtonidbheohhgdaaGreat
