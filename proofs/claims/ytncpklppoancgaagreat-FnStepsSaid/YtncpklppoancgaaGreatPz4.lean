import Derived.Test.YtncpklppoancgaaGreatPz3
import Derived.Test.YtncpklppoancgaaGreatPz2
import Derived.Test.YtncpklppoancgaaGreatFn
import Derived.Test.YtncpklppoancgaaGreatPl
namespace Go.Proofs.YtncpklppoancgaaGreat
open Go
set_option linter.unusedVariables false
set_option linter.unusedSimpArgs false
theorem Qvl {n : Nat} (p : Nat → Bool) {step : Int → Option (Int ⊕ Int)} (h1 : ∀ i,i < n → step (i : Int) = some (bif p i then .inl ((i + 1 : Nat) : Int) else .inr (i : Int))) (h2 : step (n : Int) = some (.inr (n : Int))) : ∃ k : Nat,k ≤ n ∧ run step 0 = some (k : Int):=by
 have key : ∀ (m i : Nat),i + m = n → ∃ k : Nat,k ≤ n ∧ run step (i : Int) = some (k : Int):=by
  intro m
  induction m with
  | zero =>
   intro i hi
   have : i = n:=by omega
   subst this
   exact ⟨i,Nat.le_refl _,by rw [Qn,h2]; rfl⟩
  | succ m ih =>
   intro i hi
   cases hp : p i with
   | false=>exact ⟨i,by omega,by rw [Qn,h1 i (by omega),hp]; rfl⟩
   | true =>
    obtain ⟨k,k1,k2⟩:=ih (i + 1) (by omega)
    exact ⟨k,k1,by rw [Qn,h1 i (by omega),hp]; exact k2⟩
 exact key n 0 (by omega)
theorem Qey {α : Type} (l : List α) (k : Nat) : cut l (k : Int) (ln l) = l.drop k:=by
 unfold cut ln
 simp
theorem QiU {k n : Nat} (h : k ≤ n) : slB (k : Int) (n : Int) (n : Int) = true:=by unfold slB; simp; omega
theorem Qi4 {α : Type} (l : List α) (k : Nat) (x : α) : (cut l 0 (k : Int) ++ [x]) ++ cut l (k : Int) (ln l) = Vl l (k : Int) [x]:=by
 rw [Ja,Qey]; simp [Vl]
theorem Qff {α : Type} (l : List α) (k : Nat) (hk : k ≤ l.length) (x : α) : (Vl l (k : Int) [x]).length = l.length + 1:=by
 simp [Vl]; omega
theorem QlQ {α : Type} (l : List α) (k : Nat) (hk : k ≤ l.length) (x : α) (b : Nat) (hl : l.length ≤ 1048576) (hb : b ≤ 1024) : Qd6 l (k : Int) [x] b = true:=by
 unfold Qd6
 have : (l.length + 1) * b ≤ 1048577 * 1024:=Nat.mul_le_mul (by omega) hb
 simp; omega
theorem Qsk {α : Type} (l : List α) (k : Nat) (hk : k ≤ l.length) (x : α) : (Vl l (k : Int) [x])[k]? = some x:=by
 simp [Vl,List.getElem?_append,Nat.min_eq_left hk]
theorem QuS {α : Type} (l : List α) (k : Nat) (hk : k ≤ l.length) (x : α) (j : Nat) (hj : j < l.length) : (Vl l (k : Int) [x])[if j < k then j else j + 1]? = some l[j]:=by
 by_cases h : j < k
 ·rw [if_pos h]; simp [Vl,List.getElem?_append,Nat.min_eq_left hk,h]
 ·rw [if_neg h]
  simp only [Vl,Int.toNat_natCast,List.singleton_append]
  rw [List.getElem?_append_right (by simp; omega)]
  simp only [List.length_take,Nat.min_eq_left hk]
  rw [show j + 1 - k = (j - k) + 1 by omega,List.getElem?_cons_succ,List.getElem?_drop,show k + (j - k) = j by omega,List.getElem?_eq_getElem hj]
theorem Qpj {α : Type} [Inhabited α] (key : α → Int) (l : List α) (k : Nat) (hk : k ≤ l.length) (x : α) (up : ∀ i (hi : i < (Vl l (k : Int) [x]).length) (h0 : 0 < i),key ((Vl l (k : Int) [x])[i - 1]'(by omega)) < key (Vl l (k : Int) [x])[i]) (j : Nat) (hj : j < l.length) (he : key l[j] = key x) : False:=by
 have hlen:=Qff l k hk x
 have hu:=QtG (n:=(Vl l (k : Int) [x]).length) (fun i=>key (gt (Vl l (k : Int) [x]) (i : Int))) (fun i h1 h2=>by
  show key (gt (Vl l (k : Int) [x]) ((i - 1 : Nat) : Int)) < key (gt (Vl l (k : Int) [x]) (i : Int))
  rw [QF h1,QF (show i - 1 < (Vl l (k : Int) [x]).length by omega)]; exact up i h1 h2)
 have g1 : gt (Vl l (k : Int) [x]) (k : Int) = x:=by
  have hlt : k < (Vl l (k : Int) [x]).length:=by omega
  rw [QF hlt]
  have:=Qsk l k hk x
  rw [List.getElem?_eq_getElem hlt] at this
  exact Option.some.inj this
 have hidx : (if j < k then j else j + 1) < (Vl l (k : Int) [x]).length:=by split <;> omega
 have g2 : gt (Vl l (k : Int) [x]) ((if j < k then j else j + 1 : Nat) : Int) = l[j]:=by
  rw [QF hidx]
  have:=QuS l k hk x j hj
  rw [List.getElem?_eq_getElem hidx] at this
  exact Option.some.inj this
 by_cases h : j < k
 ·have:=hu k (if j < k then j else j + 1) (by rw [if_pos h]; exact h) (by omega)
  simp only [g1,g2] at this; omega
 ·have:=hu (if j < k then j else j + 1) k (by rw [if_neg h]; omega) hidx
  simp only [g1,g2] at this; omega
end Go.Proofs.YtncpklppoancgaaGreat
namespace Go.Proofs.YtncpklppoancgaaGreat
open Go
set_option linter.unusedVariables false
set_option linter.unusedSimpArgs false
theorem QsL (l : List Find) (id : Int) : ZS l id = -1 ∨ ∃ k : Nat,∃ hk : k < l.length,ZS l id = (k : Int) ∧ l[k].Thing.Id = id:=by
 unfold ZS
 cases hf : l.findIdx? (fun x=>decide (x.Thing.Id = id)) with
 | none=>exact .inl rfl
 | some i =>
  obtain ⟨hi,hp⟩:=Qch hf
  exact .inr ⟨i,hi,rfl,by simpa using hp⟩
theorem QAY (l : List Find) (f : Find) (hl : l.length ≤ 1048576) : ∃ r,Qbb l f = some r ∧ Qdq l f = some r ∧ r.1.length ≤ 1048576:=by
 obtain ⟨k,hk,hr⟩:=Qvl (n:=l.length) (fun i=>decide ((gt l (i : Int)).Thing.Id < f.Thing.Id)) (step:=Z0 l f)
  (fun i hi=>by
   simp only [Z0,QG hi,Qj hi,Q0 (show (i : Int) < 9223372036854775807 by omega),cond_true,Qc,Option.bind_some]
   cases decide ((gt l (i : Int)).Thing.Id < f.Thing.Id) <;> rfl)
  (by simp only [Z0,QS (Nat.le_refl _),cond_false]; rfl)
 have hr2 : run (QcV l f l) 0 = some (k : Int):=hr
 have hlen:=Qff l k hk f
 obtain ⟨b,b1,b2,b3⟩:=QoE (Vl l (k : Int) [f]) (by omega)
 have hrm : rm (0 + l.length) 64 = true:=VQ (by omega) (by omega)
 have hrm1 : rm (0 + (cut l 0 (k : Int)).length) 64 = true:=VQ (by rw [Ja,List.length_take]; omega) (by omega)
 have hrm2 : rm ((cut l 0 (k : Int)).length + 1) 64 = true:=VQ (by rw [Ja,List.length_take]; omega) (by omega)
 have hrm3 : rm ((cut l 0 (k : Int)).length + 1 + (cut l (k : Int) (ln l)).length) 64 = true:=VQ (by rw [Ja,Qey,List.length_take,List.length_drop]; omega) (by omega)
 have hs : Qbb l f = some (bif b then (Vl l (k : Int) [f],true) else (l,false)):=by
  unfold Qbb
  simp only [hr,Vw,Qga hk,QiU hk,Option.bind_some,Qc]
  rw [← Vw]
  simp only [hrm1,hrm2,hrm3,hrm,Qi4,b1,Qc,Option.bind_some]
  cases b <;> rfl
 refine ⟨_,hs,?_,?_⟩
 ·unfold Qdq X9
  simp only [hrm,Qc,Option.bind_some,(JY l f.Thing.Id hl).2,hr2,QlQ l k hk f 64 hl (by omega),b2]
  rcases QsL l f.Thing.Id with h | ⟨j,hj,h,hid⟩
  ·rw [h]; cases b <;> rfl
  ·rw [h,decide_eq_true (show (0 : Int) ≤ (j : Int) by omega)]
   cases b with
   | false=>rfl
   | true=>exact absurd (Qpj (fun x : Find=>x.Thing.Id) l k hk f (b3 rfl).2.2 j hj hid) id
 ·cases b with
  | false=>exact hl
  | true=>have:=(b3 rfl).1; show (Vl l (k : Int) [f]).length ≤ _; omega
theorem Qxk (l : List Secret) (t : Int) (hl : l.length ≤ 1048576) : Zk l t = some (-1) ∨ ∃ k : Nat,∃ hk : k < l.length,Zk l t = some (k : Int) ∧ l[k].Thing = t:=by
 have hi:=XY l (fun x=>decide (x.Thing = t)) (fun i=>(i : Int)) (step:=Qo l t (ln l))
  (fun i hi=>by
   simp only [Qo,Qbn,Option.bind_some,QG hi,Qj hi,QF hi,Q0 (show (i : Int) < 9223372036854775807 by omega),cond_true,Qc]
   cases decide (l[i].Thing = t) <;> rfl)
  (by simp only [Qo,QS (Nat.le_refl _),cond_false])
 unfold Zk Vc
 rw [hi]
 cases hf : l.findIdx? (fun x=>decide (x.Thing = t)) with
 | none=>exact .inl rfl
 | some i =>
  obtain ⟨hi',hp⟩:=Qch hf
  exact .inr ⟨i,hi',rfl,by simpa using hp⟩
theorem QxE {α : Type} {sm : α → Prop} {l : List α} (h : smL sm l) (k : Nat) : smL sm (l.take k):=⟨by have:=h.1; rw [List.length_take]; omega,fun x hx=>h.2 x (List.mem_of_mem_take hx)⟩
theorem Qxx {α : Type} {sm : α → Prop} {l : List α} (h : smL sm l) (k : Nat) : smL sm (l.drop k):=⟨by have:=h.1; rw [List.length_drop]; omega,fun x hx=>h.2 x (List.mem_of_mem_drop hx)⟩
theorem Qv2 (l : List Secret) (x : Secret) (hm : smL Qdf l) (hx : x.Marks.length ≤ 1048576) : ∃ r,QaL l x = some r ∧ QbX l x = some r ∧ smL Qdf r.1:=by
 have hl:=hm.1
 obtain ⟨k,hk,hr⟩:=Qvl (n:=l.length) (fun i=>decide ((gt l (i : Int)).Thing < x.Thing)) (step:=JW l x)
  (fun i hi=>by
   simp only [JW,QG hi,Qj hi,Q0 (show (i : Int) < 9223372036854775807 by omega),cond_true,Qc,Option.bind_some]
   cases decide ((gt l (i : Int)).Thing < x.Thing) <;> rfl)
  (by simp only [JW,QS (Nat.le_refl _),cond_false]; rfl)
 have hr2 : run (QbR l x l) 0 = some (k : Int):=hr
 have hlen:=Qff l k hk x
 have hmem : ∀ y ∈ Vl l (k : Int) [x],Qdf y:=by
  intro y hy
  simp only [Vl,Int.toNat_natCast,List.singleton_append,List.mem_append,List.mem_cons] at hy
  rcases hy with h | h | h
  ·exact hm.2 y (List.mem_of_mem_take h)
  ·subst h; exact hx
  ·exact hm.2 y (List.mem_of_mem_drop h)
 obtain ⟨b,b1,b2,b3⟩:=Qk8 (Vl l (k : Int) [x]) (by omega) hmem
 have hrm1 : rm ((cut l 0 (k : Int)).length + [x].length) 40 = true:=VQ (by rw [Ja,List.length_take]; simp; omega) (by omega)
 have hrm3 : rm ((cut l 0 (k : Int)).length + [x].length + (cut l (k : Int) (ln l)).length) 40 = true:=VQ (by rw [Ja,Qey,List.length_take,List.length_drop]; simp; omega) (by omega)
 have c1 : XG (cut l 0 (k : Int)) = some (cut l 0 (k : Int)):=by rw [Ja]; exact Qja _ (QxE hm k)
 have c2 : XG (cut l (k : Int) (ln l)) = some (cut l (k : Int) (ln l)):=by rw [Qey]; exact Qja _ (Qxx hm k)
 have c3 : XG [x] = some [x]:=Qja _ ⟨by simp,fun y hy=>by simp at hy; subst hy; exact hx⟩
 have hs : QaL l x = some (bif b then (Vl l (k : Int) [x],true) else (l,false)):=by
  unfold QaL
  simp only [hr,Option.bind_some]
  rw [show slB 0 (k : Int) (ln l) = true from Qga hk,show slB (k : Int) (ln l) (ln l) = true from QiU hk]
  simp only [Qc,c1,c2,c3,hrm1,hrm3,Qi4,b1,Qja l hm,Option.bind_some]
  cases b <;> rfl
 refine ⟨_,hs,?_,?_⟩
 ·unfold QbX Xu
  simp only [Qjc l hm,Option.bind_some,hr2,VQ (show 0 + x.Marks.length ≤ 2000000 by omega) (show 16 ≤ 1024 by omega),Qc,show (⟨x.Thing,x.Marks,x.Salt⟩ : Secret) = x from rfl,QlQ l k hk x 40 hl (by omega),b2]
  rcases Qxk l x.Thing hl with h | ⟨j,hj,h,hid⟩
  ·rw [h]; cases b <;> rfl
  ·rw [h]
   simp only [Option.bind_some,decide_eq_true (show (0 : Int) ≤ (j : Int) by omega)]
   cases b with
   | false=>rfl
   | true=>exact absurd (Qpj (fun x : Secret=>x.Thing) l k hk x (b3 rfl).2 j hj hid) id
 ·cases b with
  | false=>exact hm
  | true=>exact ⟨by have:=(b3 rfl).1; show (Vl l (k : Int) [x]).length ≤ _; omega,hmem⟩
theorem Qqz (l : List Slot) (x : Thing) (hl : l.length ≤ 1048576) : ∃ r,Qcg l x = some r ∧ Qcj l x = some r ∧ r.1.length = l.length ∧ (r.2 = true → 1 ≤ x.Id ∧ ∃ y ∈ r.1,y.Thing = x.Id):=by
 obtain ⟨c,c1,c2,c3⟩:=Qkl l hl
 obtain ⟨t,t1,t2,t3⟩:=QjG x
 have hrm : rm (0 + l.length) 24 = true:=VQ (by omega) (by omega)
 obtain ⟨v,hv,hq⟩:=QlU (n:=l.length) (step:=Vm l x.Size) (fin:=fun v=>v) (fun i v=>v = -1 ∨ ∃ j : Nat,j < i ∧ j < l.length ∧ v = (j : Int))
  (fun i v hi hv=>by
   have hw:=Q0 (show (i : Int) < 9223372036854775807 by omega)
   have hcase : Vm l x.Size (v,(i : Int)) = some (.inl ((i : Int),((i + 1 : Nat) : Int))) ∨ Vm l x.Size (v,(i : Int)) = some (.inl (v,((i + 1 : Nat) : Int))):=by
    rcases hv with rfl | ⟨j,hj,hjl,rfl⟩
    ·simp only [Vm,QG hi,Qj hi,QF hi,hw,cond_true,Qc,show decide ((-1 : Int) < 0) = true from rfl]
     cases decide (l[i].Thing = 0) <;> cases decide (x.Size ≤ l[i].Size) <;> first | exact .inl rfl | exact .inr rfl
    ·simp only [Vm,QG hi,Qj hi,QF hi,Qj hjl,QF hjl,hw,cond_true,cond_false,Qc,decide_eq_false (show ¬ (j : Int) < 0 by omega)]
     cases decide (l[i].Thing = 0) <;> cases decide (x.Size ≤ l[i].Size) <;> cases decide (l[i].Size < l[j].Size) <;> first | exact .inl rfl | exact .inr rfl
   rcases hcase with h | h
   ·exact ⟨_,h,.inr ⟨i,by omega,hi,rfl⟩⟩
   ·refine ⟨_,h,?_⟩
    rcases hv with h' | ⟨j,hj,hjl,h'⟩
    ·exact .inl h'
    ·exact .inr ⟨j,by omega,hjl,h'⟩)
  (fun v _=>by simp only [Vm,QS (Nat.le_refl _),cond_false]) (-1) (.inl rfl)
 have hf : Qdw l x.Size = some v:=by
  unfold Qdw
  rw [show Qbv l x.Size l (ln l) = Vm l x.Size from by funext ⟨k,i⟩; simp only [Qbv,Vm]; cases decide (i < ln l) <;> cases inb l i <;> rfl,hv]; rfl
 have hsf : Qad l x.Size = some (bif decide (v < 0) then 0 else (gt l v).Id):=by
  unfold Qad
  rw [hv]
  rcases hq with rfl | ⟨j,_,hjl,rfl⟩
  ·rfl
  ·simp only [Option.bind_some,decide_eq_false (show ¬ (j : Int) < 0 by omega),cond_false,Qj hjl,Qc]
 unfold Qcg Qcj Xy
 simp only [hrm,Qc,c1,c2,t1,t2,hf,hsf,QlR l x.Id hl,Qg1 l x.Id hl,Option.bind_some]
 cases c with
 | false=>exact ⟨(l,false),rfl,rfl,rfl,fun h=>by cases h⟩
 | true =>
  obtain ⟨s1,s2,s3⟩:=c3 rfl
  cases t with
  | false=>exact ⟨(l,false),rfl,rfl,rfl,fun h=>by cases h⟩
  | true =>
   rcases hq with rfl | ⟨k,_,hk,rfl⟩
   ·exact ⟨(l,false),rfl,rfl,rfl,fun h=>by cases h⟩
   ·have hid : 1 ≤ l[k].Id:=s2 _ (List.getElem_mem hk)
    have hsame : (!decide ((bif decide (x.Id = 0) || decide (QaG l x.Id < 0) then (0 : Int) else (gt l (QaG l x.Id)).Id) = 0)) = decide (0 ≤ (bif decide (x.Id = 0) then (-1 : Int) else QaG l x.Id)):=by
     cases decide (x.Id = 0) with
     | true=>rfl
     | false =>
      rcases QdP l x.Id with ⟨_,h2⟩ | ⟨j,hj,h2,_,_⟩
      ·rw [h2]; rfl
      ·rw [h2]
       have:=s2 _ (List.getElem_mem hj)
       simp only [Bool.false_or,decide_eq_false (show ¬ (j : Int) < 0 by omega),cond_false,QF hj,decide_eq_false (show ¬ l[j].Id = 0 by omega),decide_eq_true (show (0 : Int) ≤ (j : Int) by omega)]; rfl
    simp only [Bool.not_true,cond_false,decide_eq_false (show ¬ (k : Int) < 0 by omega),QF hk,Qj hk,Qc,decide_eq_false (show ¬ l[k].Id = 0 by omega),Int.toNat_natCast,Option.bind_some,hsame]
    cases decide (0 ≤ (bif decide (x.Id = 0) then (-1 : Int) else QaG l x.Id)) with
    | true=>exact ⟨(l,false),rfl,rfl,rfl,fun h=>by cases h⟩
    | false =>
     have hr:=Xr (step:=XN x l[k].Id) (fun i=>(if i ≤ k then l else l.set k ⟨l[k].Id,l[k].Size,x.Id⟩,(i : Int))) (r:=l.set k ⟨l[k].Id,l[k].Size,x.Id⟩) l.length (fun i hi=>by
       have hw:=Q0 (show (i : Int) < 9223372036854775807 by omega)
       by_cases hik : i < k
       ·have hne : ¬ l[i].Id = l[k].Id:=fun e=>by have:=Qgb l s3 i k hi hk e; omega
        simp only [XN,if_pos (show i ≤ k by omega),if_pos (show i + 1 ≤ k by omega),QG hi,Qj hi,QF hi,hw,decide_eq_false hne,cond_true,cond_false,Qc]
       ·by_cases hek : i = k
        ·subst hek
         simp only [XN,if_pos (Nat.le_refl i),if_neg (show ¬ i + 1 ≤ i by omega),QG hi,Qj hi,QF hi,hw,decide_true,cond_true,Qc,Int.toNat_natCast]
        ·have hne : ¬ l[i].Id = l[k].Id:=fun e=>by have:=Qgb l s3 i k hi hk e; omega
         have hi' : i < (l.set k ⟨l[k].Id,l[k].Size,x.Id⟩).length:=by rw [List.length_set]; exact hi
         have hg : gt (l.set k ⟨l[k].Id,l[k].Size,x.Id⟩) (i : Int) = l[i]:=by rw [Qp2 l k _ i hi,if_neg hek,QF hi]
         simp only [XN,if_neg (show ¬ i ≤ k by omega),if_neg (show ¬ i + 1 ≤ k by omega),QG hi',Qj hi',hg,hw,decide_eq_false hne,cond_true,cond_false,Qc])
      (by
       simp only [XN,if_neg (show ¬ l.length ≤ k by omega)]
       rw [show decide ((l.length : Int) < ln (l.set k ⟨l[k].Id,l[k].Size,x.Id⟩)) = false from decide_eq_false (by rw [Vw,List.length_set]; omega)]
       rfl)
     simp only [cond_false,show run (XN x l[k].Id) (l,0) = some (l.set k ⟨l[k].Id,l[k].Size,x.Id⟩) from hr,Option.bind_some]
     exact ⟨_,rfl,rfl,List.length_set,fun _=>⟨t3 rfl,_,List.mem_iff_getElem.2 ⟨k,by simpa using hk,List.getElem_set_self (by simpa using hk)⟩,rfl⟩⟩
theorem QBO (l : List Slot) (x : Thing) (hl : l.length ≤ 1048576) : ∃ r,Qcg l x = some r ∧ Qcj l x = some r ∧ r.1.length = l.length:=by
 obtain ⟨r,r1,r2,r3,_⟩:=Qqz l x hl
 exact ⟨r,r1,r2,r3⟩
theorem Qr9 (h : House) (f : Find) (m : List Mark) (s : Int) (hm : Qg h) (hk : m.length ≤ 1048576) : ∃ r,Jy h f m s = some r ∧ QcG h f m s = some r ∧ Qg r.1:=by
 have hm7:=hm
 obtain ⟨m1,m2,m3,m4,m5,m6,m7⟩:=hm7
 obtain ⟨a,a1,a2,a3⟩:=QAY h.Finds f m1
 obtain ⟨b,b1,b2,b3⟩:=Qv2 h.Secrets ⟨f.Thing.Id,m,s⟩ m2 hk
 obtain ⟨c,c1,c2,c3⟩:=QBO h.Slots f.Thing m3
 obtain ⟨d,d1,d2,d3⟩:=QtC h.Chain ⟨f.Thing.Id,2,h.No,h.Now,0⟩ m6
 have w : Qg ⟨h.No,a.1,b.1,c.1,h.Claims,h.Trials,d.1,h.Book,h.Now⟩:=⟨a3,b3,by show c.1.length ≤ _; omega,m4,m5,d3,m7⟩
 refine ⟨Qcw h ⟨h.No,a.1,b.1,c.1,h.Claims,h.Trials,d.1,h.Book,h.Now⟩ (a.2 && (b.2 && (c.2 && d.2))),?_,?_,QaW _ _ _ hm w⟩
 ·unfold Jy
  simp only [Jl h hm,a1,b1,c1,d1,QdC h _ _ hm w,Option.bind_some]
  cases a.2 <;> cases b.2 <;> cases c.2 <;> rfl
 ·unfold QcG
  simp only [ZO h hm,a2,b2,c2,d2,QbO h _ _ hm w (show [a.2,b.2,c.2,d.2].length ≤ 1048576 by simp),Option.bind_some,List.all_cons,List.all_nil,Bool.and_true,id_eq]
end Go.Proofs.YtncpklppoancgaaGreat
namespace Go.Proofs.YtncpklppoancgaaGreat
open Go
set_option linter.unusedVariables false
set_option linter.unusedSimpArgs false
theorem Qhz (l : List Claim) (hl : l.length ≤ 2097152) (h : Va l = some true) : ∀ i (hi : i < l.length) (h0 : 0 < i),(l[i - 1]'(by omega)).Id < l[i].Id:=by
 intro i hi h0
 have ho:=(QfT l h hl).2 i hi
 unfold QdX at ho
 simp only [Bool.and_eq_true,Bool.or_eq_true,QF hi,QF (show i - 1 < l.length by omega)] at ho
 have:=ho.2.2.2.2.2.1
 simp at this
 omega
theorem Qxw {α : Type} [Inhabited α] (key : α → Int) (l : List α) (k : Nat) (hk : k ≤ l.length) (x : α) (up : ∀ i (hi : i < (Vl l (k : Int) [x]).length) (h0 : 0 < i),key ((Vl l (k : Int) [x])[i - 1]'(by omega)) < key (Vl l (k : Int) [x])[i]) (j : Nat) (hj : j < l.length) : if j < k then key l[j] < key x else key x < key l[j]:=by
 have hlen:=Qff l k hk x
 have hu:=QtG (n:=(Vl l (k : Int) [x]).length) (fun i=>key (gt (Vl l (k : Int) [x]) (i : Int))) (fun i h1 h2=>by
  show key (gt (Vl l (k : Int) [x]) ((i - 1 : Nat) : Int)) < key (gt (Vl l (k : Int) [x]) (i : Int))
  rw [QF h1,QF (show i - 1 < (Vl l (k : Int) [x]).length by omega)]; exact up i h1 h2)
 have g1 : gt (Vl l (k : Int) [x]) (k : Int) = x:=by
  have hlt : k < (Vl l (k : Int) [x]).length:=by omega
  rw [QF hlt]
  have:=Qsk l k hk x
  rw [List.getElem?_eq_getElem hlt] at this
  exact Option.some.inj this
 have hidx : (if j < k then j else j + 1) < (Vl l (k : Int) [x]).length:=by split <;> omega
 have g2 : gt (Vl l (k : Int) [x]) ((if j < k then j else j + 1 : Nat) : Int) = l[j]:=by
  rw [QF hidx]
  have:=QuS l k hk x j hj
  rw [List.getElem?_eq_getElem hidx] at this
  exact Option.some.inj this
 by_cases h : j < k
 ·have:=hu k (if j < k then j else j + 1) (by rw [if_pos h]; exact h) (by omega)
  simp only [g1,g2] at this; rw [if_pos h]; exact this
 ·have:=hu (if j < k then j else j + 1) k (by rw [if_neg h]; omega) hidx
  simp only [g1,g2] at this; rw [if_neg h]; exact this
theorem QBh {α : Type} [Inhabited α] (key : α → Int) (l : List α) (k1 k2 : Nat) (h1 : k1 ≤ l.length) (h2 : k2 ≤ l.length) (x : α)
  (a1 : ∀ j (hj : j < l.length),k1 ≤ j → ¬ key l[j] < key x) (a2 : ∀ (h : 0 < k1),key (l[k1 - 1]'(by omega)) < key x)
  (b1 : ∀ j (hj : j < l.length),j < k2 → key l[j] < key x) (b2 : ∀ (h : k2 < l.length),¬ key l[k2] < key x)
  (up : (∀ i (hi : i < (Vl l (k1 : Int) [x]).length) (h0 : 0 < i),key ((Vl l (k1 : Int) [x])[i - 1]'(by omega)) < key (Vl l (k1 : Int) [x])[i]) ∨ (∀ i (hi : i < (Vl l (k2 : Int) [x]).length) (h0 : 0 < i),key ((Vl l (k2 : Int) [x])[i - 1]'(by omega)) < key (Vl l (k2 : Int) [x])[i])) : k1 = k2:=by
 rcases up with up | up
 ·have hj:=Qxw key l k1 h1 x up
  by_cases h : k1 < k2
  ·exact absurd (b1 k1 (by omega) h) (a1 k1 (by omega) (Nat.le_refl _))
  ·by_cases h' : k2 < k1
   ·have:=hj k2 (by omega)
    rw [if_pos h'] at this
    exact absurd this (b2 (by omega))
   ·omega
 ·have hj:=Qxw key l k2 h2 x up
  by_cases h : k1 < k2
  ·exact absurd (b1 k1 (by omega) h) (a1 k1 (by omega) (Nat.le_refl _))
  ·by_cases h' : k2 < k1
   ·have h3:=hj (k1 - 1) (by omega)
    rw [if_neg (by omega)] at h3
    have h4:=a2 (by omega)
    omega
   ·omega
theorem Qn4 {n : Nat} (p : Nat → Bool) {step : Int → Option (Int ⊕ Int)} (h1 : ∀ i,i < n → step (i : Int) = some (bif p i then .inl ((i + 1 : Nat) : Int) else .inr (i : Int))) (h2 : step (n : Int) = some (.inr (n : Int))) : ∃ k : Nat,k ≤ n ∧ run step 0 = some (k : Int) ∧ (∀ j,j < k → p j = true) ∧ (k < n → p k = false):=by
 have key : ∀ (m i : Nat),i + m = n → (∀ j,j < i → p j = true) → ∃ k : Nat,k ≤ n ∧ run step (i : Int) = some (k : Int) ∧ (∀ j,j < k → p j = true) ∧ (k < n → p k = false):=by
  intro m
  induction m with
  | zero =>
   intro i hi hp
   have : i = n:=by omega
   subst this
   exact ⟨i,Nat.le_refl _,by rw [Qn,h2]; rfl,hp,fun h=>by omega⟩
  | succ m ih =>
   intro i hi hp'
   cases hp : p i with
   | false=>exact ⟨i,by omega,by rw [Qn,h1 i (by omega),hp]; rfl,hp',fun _=>hp⟩
   | true =>
    obtain ⟨k,k1,k2,k3⟩:=ih (i + 1) (by omega) (fun j hj=>by
     by_cases hji : j = i
     ·subst hji; exact hp
     ·exact hp' j (by omega))
    exact ⟨k,k1,by rw [Qn,h1 i (by omega),hp]; exact k2,k3⟩
 exact key n 0 (by omega) (fun j hj=>by omega)
def QcB (l : List Claim) (id : Int) : Nat → Nat
 | 0=>0
 | n + 1=>bif decide ((gt l (n : Int)).Id < id) then n + 1 else QcB l id n
theorem Qoc (l : List Claim) (id : Int) : ∀ n,QcB l id n ≤ n
 | 0=>Nat.le_refl _
 | n + 1=>by
  have:=Qoc l id n
  unfold QcB
  cases decide ((gt l (n : Int)).Id < id) <;> simp <;> omega
theorem QoP (l : List Claim) (id : Int) : ∀ n j,QcB l id n ≤ j → j < n → ¬ (gt l (j : Int)).Id < id
 | 0,j,_,h=>by omega
 | n + 1,j,h1,h2=>by
  unfold QcB at h1
  cases hd : decide ((gt l (n : Int)).Id < id) with
  | true=>rw [hd] at h1; simp at h1; omega
  | false =>
   rw [hd] at h1
   by_cases hj : j = n
   ·subst hj; exact of_decide_eq_false hd
   ·exact QoP l id n j h1 (by omega)
theorem Qn3 (l : List Claim) (id : Int) : ∀ n,0 < QcB l id n → (gt l ((QcB l id n - 1 : Nat) : Int)).Id < id
 | 0,h=>by simp [QcB] at h
 | n + 1,h=>by
  unfold QcB at h ⊢
  cases hd : decide ((gt l (n : Int)).Id < id) with
  | true=>simp only [cond_true,Nat.add_sub_cancel]; exact of_decide_eq_true hd
  | false=>rw [hd] at h; exact Qn3 l id n h
theorem Qxs (l : List Claim) (x : Claim) (hl : l.length ≤ 1048576) : ∃ r,Qar l x = some r ∧ QcH l x = some r ∧ r.1.length ≤ 1048576 ∧
  (r.2 = true → ∃ k : Nat,k ≤ l.length ∧ r.1 = Vl l (k : Int) [x] ∧ ZP r.1 x.Id = (k : Int) ∧ (∀ j (hj : j < l.length),j < k → l[j].Id < x.Id) ∧ (∀ j (hj : j < l.length),k ≤ j → ¬ l[j].Id < x.Id)):=by
 have hs:=Xr (step:=Jr l x) (fun i=>(((QcB l x.Id i : Nat) : Int),(!decide (x.State = 0)) || (l.take i).any (fun y=>decide (y.Who = x.Who) && decide (y.Thing = x.Thing)),(i : Int)))
  (r:=(((QcB l x.Id l.length : Nat) : Int),(!decide (x.State = 0)) || l.any (fun y=>decide (y.Who = x.Who) && decide (y.Thing = x.Thing)))) l.length (fun i hi=>by
   have hw:=Q0 (show (i : Int) < 9223372036854775807 by omega)
   have hany : (l.take (i + 1)).any (fun y=>decide (y.Who = x.Who) && decide (y.Thing = x.Thing)) = ((l.take i).any (fun y=>decide (y.Who = x.Who) && decide (y.Thing = x.Thing)) || (decide (l[i].Who = x.Who) && decide (l[i].Thing = x.Thing))):=by
    rw [List.take_succ_eq_append_getElem hi,List.any_append]; simp
   have ha : QcB l x.Id (i + 1) = bif decide (l[i].Id < x.Id) then i + 1 else QcB l x.Id i:=by
    rw [QcB,QF hi]
   simp only [Jr,QG hi,Qj hi,QF hi,hw,cond_true,Qc,hany,ha]
   generalize (l.take i).any (fun y=>decide (y.Who = x.Who) && decide (y.Thing = x.Thing)) = q
   cases decide (x.State = 0) <;> cases q <;> cases (decide (l[i].Who = x.Who) && decide (l[i].Thing = x.Thing)) <;> cases decide (l[i].Id < x.Id) <;> rfl)
  (by simp only [Jr,QS (Nat.le_refl _),cond_false,List.take_length])
 have hs' : run (Jr l x) (0,(!decide (x.State = 0)),0) = some (((QcB l x.Id l.length : Nat) : Int),(!decide (x.State = 0)) || l.any (fun y=>decide (y.Who = x.Who) && decide (y.Thing = x.Thing))):=by
  have : ((!decide (x.State = 0)) || (l.take 0).any (fun y=>decide (y.Who = x.Who) && decide (y.Thing = x.Thing))) = !decide (x.State = 0):=by simp
  rw [this] at hs; exact hs
 have hk1:=Qoc l x.Id l.length
 have hhi:=QoP l x.Id l.length
 have hlo:=Qn3 l x.Id l.length
 generalize QcB l x.Id l.length = k1 at hs' hk1 hhi hlo
 obtain ⟨k2,hk2,hr,hf1,hf2⟩:=Qn4 (n:=l.length) (fun i=>decide ((gt l (i : Int)).Id < x.Id)) (step:=Zu l x l)
  (fun i hi=>by
   simp only [Zu,QG hi,Qj hi,Q0 (show (i : Int) < 9223372036854775807 by omega),cond_true,Qc,Option.bind_some]
   cases decide ((gt l (i : Int)).Id < x.Id) <;> rfl)
  (by simp only [Zu,QS (Nat.le_refl _),cond_false]; rfl)
 have A1 : ∀ j (hj : j < l.length),k1 ≤ j → ¬ l[j].Id < x.Id:=fun j hj h=>by have:=hhi j h hj; rw [QF hj] at this; exact this
 have A2 : ∀ (h : 0 < k1),(l[k1 - 1]'(by omega)).Id < x.Id:=fun h=>by have:=hlo h; rw [QF (show k1 - 1 < l.length by omega)] at this; exact this
 have B1 : ∀ j (hj : j < l.length),j < k2 → l[j].Id < x.Id:=fun j hj h=>by have:=hf1 j h; simp only [QF hj,decide_eq_true_eq] at this; exact this
 have B2 : ∀ (h : k2 < l.length),¬ l[k2].Id < x.Id:=fun h=>by have:=hf2 h; simp only [QF h,decide_eq_false_iff_not] at this; exact this
 have hl1:=Qff l k1 hk1 x
 have hl2:=Qff l k2 hk2 x
 obtain ⟨b,b1,b2,_⟩:=QiF (Vl l (k1 : Int) [x]) (by omega)
 obtain ⟨c,c1,c2,_⟩:=QiF (Vl l (k2 : Int) [x]) (by omega)
 have hone : b = true ∨ c = true → k1 = k2:=fun h=>QBh (fun y : Claim=>y.Id) l k1 k2 hk1 hk2 x A1 A2 B1 B2 (by
  rcases h with rfl | rfl
  ·exact .inl (Qhz _ (by omega) b1)
  ·exact .inr (Qhz _ (by omega) c1))
 have hbc : b = c:=by
  cases hb : b with
  | true =>
   have:=hone (.inl hb)
   subst this
   rw [b1,hb] at c1; exact Option.some.inj c1
  | false=>cases hc : c with
   | false=>rfl
   | true =>
    have:=hone (.inr hc)
    subst this
    rw [c1,hc] at b1; rw [hb] at b1; cases b1
 have hi:=XY l (fun y=>decide (y.Who = x.Who) && decide (y.Thing = x.Thing)) (fun i=>(i : Int)) (step:=QM l x (ln l))
  (fun i hi=>by
   simp only [QM,QcX,QG hi,Qj hi,QF hi,Q0 (show (i : Int) < 9223372036854775807 by omega),cond_true,Qc,Option.bind_some]
   cases (decide (l[i].Who = x.Who) && decide (l[i].Thing = x.Thing)) <;> rfl)
  (by simp only [QM,QS (Nat.le_refl _),cond_false])
 have hc : Q8 l x = some (l.any (fun y=>decide (y.Who = x.Who) && decide (y.Thing = x.Thing))):=by
  unfold Q8 VH
  rw [hi]
  cases hf : l.findIdx? (fun y=>decide (y.Who = x.Who) && decide (y.Thing = x.Thing)) with
  | none =>
   have : l.any (fun y=>decide (y.Who = x.Who) && decide (y.Thing = x.Thing)) = false:=by
    rw [List.any_eq_false]
    intro y hy
    have:=List.findIdx?_eq_none_iff.1 hf y hy
    simpa using this
   rw [this]; rfl
  | some i =>
   obtain ⟨hi',hp⟩:=Qch hf
   rw [List.any_eq_true.2 ⟨_,List.getElem_mem hi',hp⟩]
   simp only [Option.bind_some,evO,decide_eq_true (show (0 : Int) ≤ (i : Int) by omega)]
 have hrm : rm (0 + l.length) 40 = true:=VQ (by omega) (by omega)
 have hrm1 : rm (0 + (cut l 0 (k1 : Int)).length) 40 = true:=VQ (by rw [Ja,List.length_take]; omega) (by omega)
 have hrm2 : rm ((cut l 0 (k1 : Int)).length + 1) 40 = true:=VQ (by rw [Ja,List.length_take]; omega) (by omega)
 have hrm3 : rm ((cut l 0 (k1 : Int)).length + 1 + (cut l (k1 : Int) (ln l)).length) 40 = true:=VQ (by rw [Ja,Qey,List.length_take,List.length_drop]; omega) (by omega)
 have hspec : Qar l x = some (bif ((!decide (x.State = 0)) || l.any (fun y=>decide (y.Who = x.Who) && decide (y.Thing = x.Thing))) || !b then (l,false) else (Vl l (k1 : Int) [x],true)):=by
  unfold Qar
  simp only [hs',Option.bind_some]
  rw [show slB 0 (k1 : Int) (ln l) = true from Qga hk1,show slB (k1 : Int) (ln l) (ln l) = true from QiU hk1]
  simp only [Qc,hrm,hrm1,hrm2,hrm3,Qi4,b1,Option.bind_some]
  cases ((!decide (x.State = 0)) || l.any (fun y=>decide (y.Who = x.Who) && decide (y.Thing = x.Thing))) <;> cases b <;> rfl
 have hdup : ∀ j : Nat,∀ hj : j < l.length,l[j].Id = x.Id → b = true → False:=fun j hj he hb=>by
  subst hb
  exact Qpj (fun y : Claim=>y.Id) l k1 hk1 x (Qhz _ (by omega) b1) j hj he
 refine ⟨_,hspec,?_,?_,?_⟩
 ·unfold QcH VB
  simp only [hrm,Qc,Option.bind_some,QiK l x.Id hl,hc,hr,QlQ l k2 hk2 x 40 hl (by omega),c2]
  rw [← hbc]
  cases hb : b with
  | false =>
   cases decide (x.State = 0) <;> cases decide (0 ≤ ZP l x.Id) <;> cases l.any (fun y=>decide (y.Who = x.Who) && decide (y.Thing = x.Thing)) <;> rfl
  | true =>
   have hk:=hone (.inl hb)
   rcases QeN l x.Id with h | ⟨j,hj,h,hid⟩
   ·rw [h,← hk]
    cases decide (x.State = 0) <;> cases l.any (fun y=>decide (y.Who = x.Who) && decide (y.Thing = x.Thing)) <;> rfl
   ·exact absurd hb (fun hb=>hdup j hj hid hb)
 ·cases hb : b with
  | true =>
   subst hb
   have:=(QfT _ b1 (by omega)).1
   cases (((!decide (x.State = 0)) || l.any (fun y=>decide (y.Who = x.Who) && decide (y.Thing = x.Thing))) || !true) with
   | true=>exact hl
   | false=>show (Vl l (k1 : Int) [x]).length ≤ _; omega
  | false=>rw [Bool.not_false,Bool.or_true]; exact hl
 ·intro h
  have hb : b = true:=by
   cases hb : b with
   | true=>rfl
   | false=>rw [hb,Bool.not_false,Bool.or_true] at h; cases h
  have hq : (((!decide (x.State = 0)) || l.any (fun y=>decide (y.Who = x.Who) && decide (y.Thing = x.Thing))) || !b) = false:=by
   cases hq : (((!decide (x.State = 0)) || l.any (fun y=>decide (y.Who = x.Who) && decide (y.Thing = x.Thing))) || !b) with
   | false=>rfl
   | true=>rw [hq] at h; cases h
  rw [hq]
  refine ⟨k1,hk1,rfl,?_,?_,A1⟩
  ·subst hb
   have hup:=Qhz _ (by omega) b1
   have hlt : k1 < (Vl l (k1 : Int) [x]).length:=by omega
   have hx : (Vl l (k1 : Int) [x])[k1] = x:=by
    have:=Qsk l k1 hk1 x
    rw [List.getElem?_eq_getElem hlt] at this
    exact Option.some.inj this
   obtain ⟨j,hj,h1,h2⟩:=Qlg (Vl l (k1 : Int) [x]) x.Id k1 hlt (by rw [hx])
   show ZP (Vl l (k1 : Int) [x]) x.Id = _
   rw [h1]
   have hu:=QtG (n:=(Vl l (k1 : Int) [x]).length) (fun i=>(gt (Vl l (k1 : Int) [x]) (i : Int)).Id) (fun i h1 h2=>by
    show (gt (Vl l (k1 : Int) [x]) ((i - 1 : Nat) : Int)).Id < (gt (Vl l (k1 : Int) [x]) (i : Int)).Id
    rw [QF h1,QF (show i - 1 < (Vl l (k1 : Int) [x]).length by omega)]; exact hup i h1 h2)
   by_cases h3 : j < k1
   ·have:=hu k1 j h3 hlt
    simp only [QF hj,QF hlt,h2,hx] at this; omega
   ·by_cases h4 : k1 < j
    ·have:=hu j k1 h4 hj
     simp only [QF hj,QF hlt,h2,hx] at this; omega
    ·congr 1; omega
  ·intro j hj hjk
   have hk:=hone (.inl hb)
   exact B1 j hj (by omega)
theorem QH0 (h out : House) (ok : Bool) (hm : Qg h) (hb : Jj h = false) : Qp h out ok = some (h,false):=by
 unfold Qp
 simp only [(XW h hm).1,hb,Jl h hm,Option.bind_some]
 cases ok <;> rfl
theorem QK8 (h out : House) (hm : Qg h) : Qp h out false = some (h,false):=by
 unfold Qp
 simp only [Jl h hm,Option.bind_some]
 rfl
theorem Qzh (h : House) (out : House) (hm : Qg h) (ho : Qg out) : Qbr h out = some (Qcw h out true):=by
 unfold Qbr Qcw
 have : V3 [] false = some false:=by rw [QmS [] (by simp)]; rfl
 simp only [this,(XW h hm).2,(XW out ho).2,ZO h hm,Option.bind_some]
 cases Jj h <;> cases Jj out <;> rfl
theorem QwE (h : House) (m1 : h.Finds.length ≤ 1048576) (m2 : h.Secrets.length ≤ 1048576) (mm : ∀ x ∈ h.Secrets,x.Marks.length ≤ 1048576) (m4 : h.Claims.length ≤ 1048576) (ht : Xm h = some true) : ∀ i (hi : i < h.Claims.length) (hi2 : i < h.Trials.length),h.Trials[i].Claim = h.Claims[i].Id:=by
 have hlen:=Qiu h ht
 unfold Xm at ht
 rw [show (!decide (ln h.Trials = ln h.Claims)) = false from by rw [Vw,Vw,hlen]; simp] at ht
 have hstep : ∀ i (hi : i < h.Claims.length) (hi2 : i < h.Trials.length),∃ o,Vq h h.Claims (ln h.Claims) (i : Int) = some o ∧ (o = .inl ((i + 1 : Nat) : Int) ∨ o = .inr (.ret false)) ∧ (o = .inl ((i + 1 : Nat) : Int) → h.Trials[i].Claim = h.Claims[i].Id):=by
  intro i hi hi2
  obtain ⟨t,_,t2⟩:=Qmh h.Trials[i]
  obtain ⟨m,_,k2,k3⟩:=QlX h.Secrets h.Claims[i].Thing m2 mm
  obtain ⟨c,_,s2⟩:=QfV m h.Trials[i] k3
  have hw : ∃ w,Qc7 h.Claims[i].State = some w:=by
   unfold Qc7
   cases decide (h.Claims[i].State = 0) <;> cases decide (h.Claims[i].State = 1) <;> cases decide (h.Claims[i].State = 3) <;> cases decide (h.Claims[i].State = 2) <;> exact ⟨_,rfl⟩
  obtain ⟨w,hw⟩:=hw
  simp only [Vq,QG hi,Qj hi,QF hi,Qj hi2,QF hi2,Q0 (show (i : Int) < 9223372036854775807 by omega),cond_true,Qc,t2,k2,s2,hw,(JY h.Finds _ m1).2,Option.bind_some]
  by_cases hc : h.Trials[i].Claim = h.Claims[i].Id
  ·cases decide (ZS h.Finds h.Claims[i].Thing < 0) <;> cases decide (h.Trials[i].Claim = h.Claims[i].Id) <;> cases t <;> cases decide (c = w) <;> first | exact ⟨_,rfl,.inl rfl,fun _=>hc⟩ | exact ⟨_,rfl,.inr rfl,fun _=>hc⟩
  ·rw [decide_eq_false hc]
   cases decide (ZS h.Finds h.Claims[i].Thing < 0) <;> cases t <;> exact ⟨_,rfl,.inr rfl,fun h=>by cases h⟩
 have key : ∀ (m i : Nat),i + m = h.Claims.length → run (Vq h h.Claims (ln h.Claims)) (i : Int) = some (.brk ()) ∨ run (Vq h h.Claims (ln h.Claims)) (i : Int) = some (.ret false):=by
  intro m
  induction m with
  | zero =>
   intro i hi
   have : i = h.Claims.length:=by omega
   subst this
   left
   rw [Qn]
   simp only [Vq,QS (Nat.le_refl _),cond_false]; rfl
  | succ m ih =>
   intro i hi
   obtain ⟨o,h1,h2,_⟩:=hstep i (by omega) (by omega)
   rw [Qn,h1]
   rcases h2 with rfl | rfl
   ·exact ih (i + 1) (by omega)
   ·exact .inr rfl
 have key2 : ∀ (m i : Nat),i + m = h.Claims.length → run (Vq h h.Claims (ln h.Claims)) (i : Int) = some (.brk ()) → ∀ j (hj : j < h.Claims.length) (hj2 : j < h.Trials.length),i ≤ j → h.Trials[j].Claim = h.Claims[j].Id:=by
  intro m
  induction m with
  | zero=>intro i hi _ j hj _ hij; omega
  | succ m ih =>
   intro i hi hr j hj hj2 hij
   obtain ⟨o,h1,h2,h3⟩:=hstep i (by omega) (by omega)
   rw [Qn,h1] at hr
   rcases h2 with rfl | rfl
   ·by_cases hij' : i = j
    ·subst hij'; exact h3 rfl
    ·exact ih (i + 1) (by omega) hr j hj hj2 (by omega)
   ·simp at hr
 intro i hi hi2
 rcases key h.Claims.length 0 (by omega) with hr | hr
 ·exact key2 h.Claims.length 0 (by omega) hr i hi hi2 (by omega)
 ·rw [show run (Vq h h.Claims (ln h.Claims)) 0 = some (.ret false) from hr] at ht
  cases ht
theorem Qod (h : House) (a w t : Int) (hm : Qg h) : ∃ r,Xh h a w t = some r ∧ QbU h a w t = some r ∧ Qg r.1:=by
 have hm7:=hm
 obtain ⟨m1,m2,m3,m4,m5,m6,m7⟩:=hm7
 obtain ⟨c,c1,c2,c3,c4⟩:=Qxs h.Claims ⟨a,w,t,h.Now,0⟩ m4
 obtain ⟨v,v1,v2⟩:=Qd4 h.Slots t m3
 obtain ⟨k,hk,hr,hf1,hf2⟩:=Qn4 (n:=h.Trials.length) (fun i=>decide ((gt h.Trials (i : Int)).Claim < a)) (step:=JX a t h ⟨h.No,h.Finds,h.Secrets,h.Slots,c.1,h.Trials,h.Chain,h.Book,h.Now⟩ c.2)
  (fun i hi=>by
   simp only [JX,QG hi,Qj hi,Q0 (show (i : Int) < 9223372036854775807 by omega),cond_true,Qc,Option.bind_some]
   cases decide ((gt h.Trials (i : Int)).Claim < a) <;> rfl)
  (by simp only [JX,QS (Nat.le_refl _),cond_false]; rfl)
 have hrm1 : rm (cut h.Trials 0 (k : Int)).length 32 = true:=VQ (by rw [Ja,List.length_take]; omega) (by omega)
 have hrm2 : rm ((cut h.Trials 0 (k : Int)).length + 1) 32 = true:=VQ (by rw [Ja,List.length_take]; omega) (by omega)
 have hrm3 : rm ((cut h.Trials 0 (k : Int)).length + 1 + (cut h.Trials (k : Int) (ln h.Trials)).length) 32 = true:=VQ (by rw [Ja,Qey,List.length_take,List.length_drop]; omega) (by omega)
 have hspec : Xh h a w t = bif c.2 then (JJ h.Slots t).bind fun r3=>Qp h ⟨h.No,h.Finds,h.Secrets,h.Slots,c.1,Vl h.Trials (k : Int) [⟨a,0,0,0⟩],h.Chain,h.Book,h.Now⟩ (!decide (r3 = 0)) else some (h,false):=by
  unfold Xh
  simp only [Jl h hm,c1,Option.bind_some,hr]
  rw [show slB 0 (k : Int) (ln h.Trials) = true from Qga hk,show slB (k : Int) (ln h.Trials) (ln h.Trials) = true from QiU hk]
  simp only [Qc,hrm1,hrm2,hrm3,Qi4]
  cases c.2 with
  | false=>simp only [cond_false,QK8 h _ hm,Option.bind_some]
  | true =>
   simp only [cond_true,QlR h.Slots t m3,Option.bind_some]
   cases Qp h ⟨h.No,h.Finds,h.Secrets,h.Slots,c.1,Vl h.Trials (k : Int) [⟨a,0,0,0⟩],h.Chain,h.Book,h.Now⟩ (!decide ((bif decide (t = 0) || decide (QaG h.Slots t < 0) then (0 : Int) else (gt h.Slots (QaG h.Slots t)).Id) = 0)) <;> rfl
 rw [hspec]
 unfold QbU
 simp only [ZO h hm,c2,Option.bind_some,(XW h hm).2,v1]
 cases hc : c.2 with
 | false=>exact ⟨(h,false),rfl,rfl,hm⟩
 | true =>
  simp only [cond_true,Bool.not_true,cond_false,QlR h.Slots t m3,Option.bind_some]
  cases hb : Jj h with
  | false =>
   rw [QH0 h _ _ hm hb]
   exact ⟨(h,false),rfl,rfl,hm⟩
  | true =>
   have ho:=Qhv h hm hb
   have hcl:=QfT _ ho.cS (by omega)
   have htl:=Qiu h ho.trials
   obtain ⟨k2,hk2,hins,hix,hlo,hhi⟩:=c4 hc
   have hids:=QwE h m1 m2.1 (fun x hx=>m2.2 x hx) m4 ho.trials
   have hkk : k = k2:=by
    by_cases h1 : k < k2
    ·have:=hf2 (by omega)
     simp only [QF (show k < h.Trials.length by omega),decide_eq_false_iff_not] at this
     rw [hids k (by omega) (by omega)] at this
     exact absurd (hlo k (by omega) h1) this
    ·by_cases h2 : k2 < k
     ·have:=hf1 k2 h2
      simp only [QF (show k2 < h.Trials.length by omega),decide_eq_true_eq] at this
      rw [hids k2 (by omega) (by omega)] at this
      exact absurd this (hhi k2 (by omega) (Nat.le_refl _))
     ·omega
   have hil:=Qff h.Trials k hk (⟨a,0,0,0⟩ : Trial)
   have wo : Qg ⟨h.No,h.Finds,h.Secrets,h.Slots,c.1,Vl h.Trials (k : Int) [⟨a,0,0,0⟩],h.Chain,h.Book,h.Now⟩:=⟨m1,m2,m3,c3,by show (Vl h.Trials (k : Int) [⟨a,0,0,0⟩]).length ≤ _; omega,m6,m7⟩
   have hslot : (!decide ((bif decide (t = 0) || decide (QaG h.Slots t < 0) then (0 : Int) else (gt h.Slots (QaG h.Slots t)).Id) = 0)) = Ji h.Slots t:=by
    unfold Ji
    cases decide (t = 0) with
    | true=>rfl
    | false =>
     rcases QdP h.Slots t with ⟨_,h2⟩ | ⟨j,hj,h2,_,_⟩
     ·rw [h2]; rfl
     ·rw [h2]
      have hs2 : 1 ≤ h.Slots[j].Id:=by
       obtain ⟨q,q1,_,q3⟩:=Ql7 h.Slots m3
       rw [ho.tS] at q1
       exact (q3 (Option.some.inj q1).symm).2 _ (List.getElem_mem hj)
      simp only [Bool.false_or,decide_eq_false (show ¬ (j : Int) < 0 by omega),cond_false,QF hj,decide_eq_false (show ¬ h.Slots[j].Id = 0 by omega)]
   rw [hslot,QdC h _ _ hm wo]
   refine ⟨_,rfl,?_,QaW _ _ _ hm wo⟩
   simp only [Bool.not_true,cond_false,Option.bind_some,v2]
   cases Ji h.Slots t with
   | false=>rfl
   | true =>
    simp only [Bool.not_true,cond_false,QiK c.1 a c3,hix,Option.bind_some,← hkk,QlQ h.Trials k hk (⟨a,0,0,0⟩ : Trial) 32 m5 (by omega),Qc,Qzh h _ hm wo]
end Go.Proofs.YtncpklppoancgaaGreat
namespace Go.Proofs.YtncpklppoancgaaGreat
open Go
set_option linter.unusedVariables false
set_option linter.unusedSimpArgs false
def QeT (out : List Bid) (c : Int) : Nat → Nat
 | 0=>0
 | n + 1=>bif decide ((gt out (n : Int)).Cents < c) then QeT out c n else n + 1
theorem QpE (out : List Bid) (c : Int) : ∀ n,QeT out c n ≤ n
 | 0=>Nat.le_refl _
 | n + 1=>by
  have:=QpE out c n
  unfold QeT
  cases decide ((gt out (n : Int)).Cents < c) <;> simp <;> omega
def Jw (l : List Bid) : Nat → List Bid
 | 0=>[]
 | i + 1=>Vl (Jw l i) ((QeT (Jw l i) (gt l (i : Int)).Cents i : Nat) : Int) [gt l (i : Int)]
theorem Qe3 (l : List Bid) : ∀ i,(Jw l i).length = i
 | 0=>rfl
 | i + 1=>by
  have h:=Qe3 l i
  unfold Jw
  rw [Qff _ _ (by rw [h]; exact QpE _ _ _),h]
theorem Qu4 {i : Nat} (h : (i : Int) < 9223372036854775807) : w64 (((i + 1 : Nat) : Int) - 1) = (i : Int):=by rw [Vz] <;> omega
theorem QwY (l : List Bid) (hl : l.length ≤ 1048576) : Qez l = some (Jw l l.length):=by
 have inner : ∀ (out : List Bid) (i : Nat) (hi : i < l.length) (ho : out.length ≤ 1048576) (n : Nat),n ≤ out.length → run (QbP l out (i : Int)) (n : Int) = some ((QeT out (gt l (i : Int)).Cents n : Nat) : Int):=by
  intro out i hi ho n
  induction n with
  | zero =>
   intro _
   rw [Qn]
   simp only [QbP,show decide (0 < ((0 : Nat) : Int)) = false from rfl,cond_false,Option.bind_some,QeT]
  | succ n ih =>
   intro hn
   rw [Qn]
   simp only [QbP,show decide (0 < ((n + 1 : Nat) : Int)) = true from decide_eq_true (by omega),cond_true,Qu4 (show (n : Int) < 9223372036854775807 by omega),Qj (show n < out.length by omega),Qj hi,Qc,Option.bind_some,QeT]
   cases decide ((gt out (n : Int)).Cents < (gt l (i : Int)).Cents) with
   | true=>simp only [cond_true]; exact ih (by omega)
   | false=>rfl
 have hr:=Xr (step:=Qaf l) (fun i=>(Jw l i,(i : Int))) (r:=Jw l l.length) l.length (fun i hi=>by
   have hlen:=Qe3 l i
   have hp:=QpE (Jw l i) (gt l (i : Int)).Cents i
   have hin:=inner (Jw l i) i hi (by omega) (Jw l i).length (Nat.le_refl _)
   rw [hlen] at hin
   have hln : ln (Jw l i) = ((i : Nat) : Int):=by rw [Vw,hlen]
   have e1 : slB 0 ((QeT (Jw l i) (gt l (i : Int)).Cents i : Nat) : Int) (i : Int) = true:=Qga hp
   have e2 : slB ((QeT (Jw l i) (gt l (i : Int)).Cents i : Nat) : Int) (i : Int) (i : Int) = true:=QiU hp
   have c1 : (cut (Jw l i) 0 ((QeT (Jw l i) (gt l (i : Int)).Cents i : Nat) : Int)).length = QeT (Jw l i) (gt l (i : Int)).Cents i:=by rw [Ja,List.length_take,hlen]; omega
   have c3 : (cut (Jw l i) ((QeT (Jw l i) (gt l (i : Int)).Cents i : Nat) : Int) (i : Int)).length = i - QeT (Jw l i) (gt l (i : Int)).Cents i:=by rw [← hln,Qey,List.length_drop,hlen]
   simp only [Qaf,QG hi,cond_true,hln,hin,Option.bind_some,e1,e2,Qc,Qj hi,VQ (show 0 + (cut (Jw l i) 0 ((QeT (Jw l i) (gt l (i : Int)).Cents i : Nat) : Int)).length ≤ 2000000 by omega) (show 24 ≤ 1024 by omega),VQ (show (cut (Jw l i) 0 ((QeT (Jw l i) (gt l (i : Int)).Cents i : Nat) : Int)).length + 1 ≤ 2000000 by omega) (show 24 ≤ 1024 by omega),
    VQ (show (cut (Jw l i) 0 ((QeT (Jw l i) (gt l (i : Int)).Cents i : Nat) : Int)).length + 1 + (cut (Jw l i) ((QeT (Jw l i) (gt l (i : Int)).Cents i : Nat) : Int) (i : Int)).length ≤ 2000000 by omega) (show 24 ≤ 1024 by omega),Q0 (show (i : Int) < 9223372036854775807 by omega)]
   rw [← hln,Qi4,hln]
   rfl)
  (by simp only [Qaf,QS (Nat.le_refl _),cond_false])
 unfold Qez
 rw [show run (Qaf l) ([],0) = some (Jw l l.length) from hr]; rfl
theorem Qxe (x y : Bid) : ∃ c,Qak x y = some c ∧ decide (c < 0) = decide (y.Cents < x.Cents):=by
 unfold Qak QcU QcF
 simp only [decide_true,Bool.not_true,Option.bind_some,cond_false]
 by_cases h : y.Cents < x.Cents
 ·rw [decide_eq_true h]; exact ⟨-1,rfl,rfl⟩
 ·rw [decide_eq_false h]
  by_cases h' : x.Cents < y.Cents
  ·rw [decide_eq_true h']; exact ⟨1,rfl,rfl⟩
  ·rw [decide_eq_false h']; exact ⟨0,rfl,rfl⟩
theorem Qz9 {p q : List Bid} {x : Bid} : gt (p ++ x :: q) (p.length : Int) = x:=by
 rw [QF (by simp)]; simp
theorem QUM (b i : Int) (p q : List Bid) (x : Bid) (hp : p.length ≤ 1048576) : ∀ j,j ≤ p.length → run (QB 0 b i) (p.take j ++ x :: (p.drop j ++ q),(j : Int)) = some (Vl p ((QeT p x.Cents j : Nat) : Int) [x] ++ q):=by
 intro j
 induction j with
 | zero =>
  intro _
  rw [Qn]
  simp only [QB,show decide (0 < ((0 : Nat) : Int)) = false from rfl,cond_false,Option.bind_some,QeT]
  simp [Vl]
 | succ j ih =>
  intro hj
  have hlt : j < p.length:=by omega
  have hl1 : (p.take (j + 1)).length = j + 1:=by rw [List.length_take]; omega
  have hs : p.take (j + 1) ++ x :: (p.drop (j + 1) ++ q) = p.take j ++ p[j] :: (x :: (p.drop (j + 1) ++ q)):=by
   rw [List.take_succ_eq_append_getElem hlt,List.append_assoc]; rfl
  have g1 : gt (p.take (j + 1) ++ x :: (p.drop (j + 1) ++ q)) ((j + 1 : Nat) : Int) = x:=by
   have:=Qz9 (p:=p.take (j + 1)) (q:=p.drop (j + 1) ++ q) (x:=x)
   rw [hl1] at this; exact this
  have hl0 : (p.take j).length = j:=by rw [List.length_take]; omega
  have g0 : gt (p.take (j + 1) ++ x :: (p.drop (j + 1) ++ q)) (j : Int) = p[j]:=by
   rw [hs]
   have:=Qz9 (p:=p.take j) (q:=x :: (p.drop (j + 1) ++ q)) (x:=p[j])
   rw [hl0] at this; exact this
  have hlen : (p.take (j + 1) ++ x :: (p.drop (j + 1) ++ q)).length = p.length + 1 + q.length:=by simp; omega
  obtain ⟨c,c1,c2⟩:=Qxe x p[j]
  rw [Qn]
  simp only [QB,show decide (0 < ((j + 1 : Nat) : Int)) = true from decide_eq_true (by omega),cond_true,Qu4 (show (j : Int) < 9223372036854775807 by omega),Qj (show j + 1 < (p.take (j + 1) ++ x :: (p.drop (j + 1) ++ q)).length by omega),Qj (show j < (p.take (j + 1) ++ x :: (p.drop (j + 1) ++ q)).length by omega),Qc,g0,g1,c1,Option.bind_some,c2,QeT,QF hlt]
  cases decide (p[j].Cents < x.Cents) with
  | false =>
   simp only [cond_false]
   congr 1
   simp [Vl]
  | true =>
   simp only [cond_true,Int.toNat_natCast]
   have he : ((p.take (j + 1) ++ x :: (p.drop (j + 1) ++ q)).set (j + 1) p[j]).set j x = p.take j ++ x :: (p.drop j ++ q):=by
    rw [hs,List.set_append_right _ _ (by omega),List.set_append_right _ _ (by omega),hl0]
    simp only [Nat.add_sub_cancel_left,Nat.sub_self,List.set_cons_succ,List.set_cons_zero]
    rw [List.drop_eq_getElem_cons hlt]; rfl
   rw [he]
   exact ih (by omega)
theorem Qof (l : List Bid) (hl : l.length ≤ 1048576) (h1 : 1 ≤ l.length) : Qm l 0 (ln l) = some (Jw l l.length):=by
 have hr:=Xr (step:=Qq 0 (ln l)) (fun i=>(Jw l (i + 1) ++ l.drop (i + 1),((i + 1 : Nat) : Int))) (r:=Jw l l.length) (l.length - 1) (fun i hi=>by
   have hlt : i + 1 < l.length:=by omega
   have hlen:=Qe3 l (i + 1)
   have hd : l.drop (i + 1) = l[i + 1] :: l.drop (i + 1 + 1):=List.drop_eq_getElem_cons hlt
   have hk:=QUM (ln l) ((i + 1 : Nat) : Int) (Jw l (i + 1)) (l.drop (i + 1 + 1)) l[i + 1] (by omega) (i + 1) (by omega)
   rw [List.take_of_length_le (by omega),List.drop_of_length_le (show (Jw l (i + 1)).length ≤ i + 1 by omega),List.nil_append] at hk
   simp only [Qq,show decide (((i + 1 : Nat) : Int) < ln l) = true from decide_eq_true (by rw [Vw]; omega),cond_true,hd,hk,Option.bind_some,Q0 (show ((i + 1 : Nat) : Int) < 9223372036854775807 by omega)]
   rw [show Jw l (i + 1 + 1) = Vl (Jw l (i + 1)) ((QeT (Jw l (i + 1)) (gt l ((i + 1 : Nat) : Int)).Cents (i + 1) : Nat) : Int) [gt l ((i + 1 : Nat) : Int)] from rfl,QF hlt])
  (by
   rw [show l.length - 1 + 1 = l.length by omega]
   simp only [Qq,show decide (((l.length : Nat) : Int) < ln l) = false from decide_eq_false (by rw [Vw]; omega),cond_false,List.drop_length,List.append_nil])
 have h0 : Jw l (0 + 1) ++ l.drop (0 + 1) = l:=by
  cases l with
  | nil=>simp at h1
  | cons x t=>simp [Jw,Vl,QeT,gt]
 unfold Qm
 simp only [h0] at hr
 rw [show w64 (0 + 1) = 1 from rfl,show run (Qq 0 (ln l)) (l,1) = some (Jw l l.length) from hr]; rfl
theorem QmT (l : List Bid) : Qm l 20 20 = some l:=by
 unfold Qm
 rw [Qn]; rfl
theorem Qtl (l : List Bid) (hl : l.length ≤ 20) (h1 : 1 ≤ l.length) : Qbt l = some (Jw l l.length):=by
 have hrm : rm (0 + l.length) 24 = true:=VQ (by omega) (by omega)
 have h7 : ∀ r : List Bid,run (QW r (ln l)) 20 = some ():=fun r=>by
  rw [Qn]
  simp only [QW,show decide (20 < ln l) = false from decide_eq_false (by rw [Vw]; omega),cond_false,Option.bind_some]
 unfold Qbt Qcm Vp Vs
 simp only [hrm,Qc,Option.bind_some]
 by_cases h20 : l.length = 20
 ·have hln : ln l = 20:=by rw [Vw,h20]; rfl
  have hins:=Qof l (by omega) h1
  have hr : run (Qs (ln l) 20) (l,0,20) = some (Jw l l.length,20):=by
   rw [Qn]
   simp only [Qs,show decide (20 ≤ ln l) = true from decide_eq_true (by omega),cond_true]
   rw [hln] at hins
   rw [hins]
   simp only [Option.bind_some]
   rw [Qn]
   simp only [Qs,show decide (w64 (20 + 20) ≤ ln l) = false from decide_eq_false (by rw [show w64 (20 + 20) = 40 from rfl,hln]; omega),cond_false,Option.bind_some]
  rw [hr]
  simp only [Option.bind_some]
  rw [hln,QmT]
  rw [hln] at h7
  simp only [Option.bind_some,h7]
 ·have hr : run (Qs (ln l) 20) (l,0,20) = some (l,0):=by
   rw [Qn]
   simp only [Qs,show decide (20 ≤ ln l) = false from decide_eq_false (by rw [Vw]; omega),cond_false,Option.bind_some]
  rw [hr]
  simp only [Option.bind_some,Qof l (by omega) h1,h7]
end Go.Proofs.YtncpklppoancgaaGreat
namespace Go.Proofs.YtncpklppoancgaaGreat
open Go
set_option linter.unusedVariables false
set_option linter.unusedSimpArgs false
theorem QyN (x : Bid) : ∃ b,QeM x = some b ∧ ((Qf x.Who 1 999).bind fun r=>(bif (!r) then some true else (Qf x.Cents 1 10000000).bind fun r2=>some (!r2))) = some (!b) ∧ (b = true → 1 ≤ x.Who ∧ 1 ≤ x.Cents ∧ x.Cents ≤ 10000000):=by
 unfold QeM Qe Qf
 simp only [Option.bind_some]
 cases h1 : (decide (1 ≤ x.Who) && decide (x.Who ≤ 999)) with
 | false=>exact ⟨false,rfl,rfl,fun h=>by cases h⟩
 | true =>
  cases h2 : (decide (1 ≤ x.Cents) && decide (x.Cents ≤ 10000000)) with
  | false=>exact ⟨false,rfl,rfl,fun h=>by cases h⟩
  | true =>
   simp only [Bool.and_eq_true,decide_eq_true_eq] at h1 h2
   exact ⟨true,rfl,rfl,fun _=>⟨h1.1,h2.1,h2.2⟩⟩
theorem QlD (l : List Bid) (i : Nat) (hi : i < l.length) (hl : l.length ≤ 1048576) :
  run (Qbs l (i : Int)) 0 = some (bif (l.take i).any (fun y=>decide (y.Who = l[i].Who)) then .ret false else .brk ()):=by
 have hlen : (l.take i).length = i:=by simp; omega
 exact Qf3 (l.take i) (fun y=>decide (y.Who = l[i].Who)) (r:=false) (step:=Qbs l (i : Int))
  (fun k hk=>by
   rw [hlen] at hk
   have hkl : k < l.length:=by omega
   have e : (l.take i)[k]'(by rw [hlen]; exact hk) = l[k]:=by simp
   simp only [Qbs,e,show decide ((k : Int) < (i : Int)) = true from decide_eq_true (by omega),Qj hi,QF hi,Qj hkl,QF hkl,Q0 (show (k : Int) < 9223372036854775807 by omega),cond_true,Qc]
   cases decide (l[k].Who = l[i].Who) <;> rfl)
  (by rw [hlen]; simp only [Qbs,show decide ((i : Int) < (i : Int)) = false from decide_eq_false (by omega),cond_false])
theorem Qlj (p : List Bid) (x : Bid) (hp : p.length ≤ 1048576) : Vh p x = some (p.any (fun y=>decide (y.Who = x.Who))):=by
 have hi:=XY p (fun y=>decide (y.Who = x.Who)) (fun i=>(i : Int)) (step:=Q1 p x (ln p))
  (fun i hi=>by
   simp only [Q1,QdB,QG hi,Qj hi,QF hi,Q0 (show (i : Int) < 9223372036854775807 by omega),cond_true,Qc,Option.bind_some]
   cases decide (p[i].Who = x.Who) <;> rfl)
  (by simp only [Q1,QS (Nat.le_refl _),cond_false])
 unfold Vh VT
 rw [hi]
 cases hf : p.findIdx? (fun y=>decide (y.Who = x.Who)) with
 | none =>
  have : p.any (fun y=>decide (y.Who = x.Who)) = false:=by
   rw [List.any_eq_false]
   intro y hy
   have:=List.findIdx?_eq_none_iff.1 hf y hy
   simpa using this
  rw [this]; rfl
 | some i =>
  obtain ⟨hi',hp'⟩:=Qch hf
  rw [List.any_eq_true.2 ⟨_,List.getElem_mem hi',hp'⟩]
  simp only [Option.bind_some,evO,decide_eq_true (show (0 : Int) ≤ (i : Int) by omega)]
theorem QBt (l : List Bid) (hl : l.length ≤ 1048576) : ∃ b,QjW l = some b ∧ Qeq l = some b ∧ (b = true → l.length ≤ 20 ∧ ∀ x ∈ l,1 ≤ x.Who ∧ 1 ≤ x.Cents ∧ x.Cents ≤ 10000000):=by
 obtain ⟨b,h1,h2,h3⟩:=Qd2 (n:=l.length) (r:=false) (s1:=QbD l) (s2:=ZX l l (ln l)) (fun i hi _=>by
   obtain ⟨b,q1,q2,_⟩:=QyN l[i]
   have hsl : slB 0 (i : Int) (ln l) = true:=Qga (by omega)
   simp only [QbD,ZX,QG hi,Qj hi,QF hi,Q0 (show (i : Int) < 9223372036854775807 by omega),cond_true,Qc,q1,q2,Option.bind_some,QlD l i hi hl,Ja,hsl,Qlj (l.take i) l[i] (by simp; omega)]
   cases b <;> cases (l.take i).any (fun y=>decide (y.Who = l[i].Who)) <;> first | exact ⟨true,rfl,rfl⟩ | exact ⟨false,rfl,rfl⟩)
  (by simp only [QbD,QS (Nat.le_refl _),cond_false]) (by simp only [ZX,QS (Nat.le_refl _),cond_false])
 refine ⟨b && decide ((l.length : Int) ≤ 20),(Qbk _ h1).1,(Qbk _ h2).2,fun hb=>?_⟩
 simp only [Bool.and_eq_true,decide_eq_true_eq] at hb
 refine ⟨by omega,fun x hx=>?_⟩
 obtain ⟨i,hi,rfl⟩:=List.getElem_of_mem hx
 have hstep:=(h3 hb.1 i hi).1
 obtain ⟨c,q1,q2,q3⟩:=QyN l[i]
 simp only [QbD,QG hi,Qj hi,QF hi,cond_true,Qc,q2,Option.bind_some] at hstep
 cases c with
 | true=>exact q3 rfl
 | false=>simp at hstep
theorem Qme (l : List Bid) : ∀ i,i ≤ l.length → ∀ x ∈ Jw l i,x ∈ l
 | 0,_,x,hx=>by simp [Jw] at hx
 | i + 1,hi,x,hx=>by
  unfold Jw at hx
  simp only [Vl,Int.toNat_natCast,List.mem_append,List.mem_singleton] at hx
  rcases hx with h | h | h
  ·exact Qme l i (by omega) x (List.mem_of_mem_take h)
  ·subst h; rw [QF (show i < l.length by omega)]; exact List.getElem_mem _
  ·exact Qme l i (by omega) x (List.mem_of_mem_drop h)
theorem QxY (l : List Bid) (hl : l.length ≤ 1048576) : ∃ r,QgF l = some r ∧ Qd7 l = some r ∧ (r = (0,0) ∨ (1 ≤ r.1 ∧ 1 ≤ r.2 ∧ r.2 ≤ 10000000)):=by
 obtain ⟨b,b1,b2,b3⟩:=QBt l hl
 unfold QgF Qd7
 rw [b1,b2]
 simp only [Option.bind_some]
 by_cases h0 : ln l = 0
 ·rw [decide_eq_true h0]; exact ⟨(0,0),rfl,rfl,.inl rfl⟩
 ·rw [decide_eq_false h0]
  have hpos : 1 ≤ l.length:=by rw [Vw] at h0; omega
  cases b with
  | false=>exact ⟨(0,0),rfl,rfl,.inl rfl⟩
  | true =>
   obtain ⟨h20,hall⟩:=b3 rfl
   have hlen:=Qe3 l l.length
   have hmem:=Qme l l.length (Nat.le_refl _)
   have hi0 : 0 < (Jw l l.length).length:=by omega
   have e0 : inb (Jw l l.length) 0 = true:=Qj hi0
   have g0 : gt (Jw l l.length) 0 = (Jw l l.length)[0]:=QF hi0
   have p0:=hall _ (hmem _ (List.getElem_mem hi0))
   simp only [cond_false,Bool.not_true,Option.bind_some,QwY l hl,Qtl l h20 hpos,e0,Qc,g0]
   by_cases h1 : l.length = 1
   ·rw [show decide (ln (Jw l l.length) = 1) = true from decide_eq_true (by rw [Vw,hlen,h1]; rfl)]
    exact ⟨_,rfl,rfl,.inr ⟨p0.1,by show (1 : Int) ≤ 1; omega,by show (1 : Int) ≤ 10000000; omega⟩⟩
   ·have hi1 : 1 < (Jw l l.length).length:=by omega
    have e1 : inb (Jw l l.length) 1 = true:=Qj hi1
    have g1 : gt (Jw l l.length) 1 = (Jw l l.length)[1]:=QF hi1
    have p1:=hall _ (hmem _ (List.getElem_mem hi1))
    rw [show decide (ln (Jw l l.length) = 1) = false from decide_eq_false (by rw [Vw,hlen]; omega),e1,g1]
    exact ⟨_,rfl,rfl,.inr ⟨p0.1,p1.2.1,p1.2.2⟩⟩
theorem Qsd (c : Int) (h0 : 0 ≤ c) (h1 : c ≤ 10000000) : ∃ a b,a ≤ c ∧ Qei c [1,9] = some [a,b] ∧ QbB c [1,9] = some [a,b]:=by
 have t1 : (c * 1).tdiv 10 = c / 10:=by rw [Int.mul_one,Int.tdiv_eq_ediv_of_nonneg h0]
 have t9 : (c * 9).tdiv 10 = c * 9 / 10:=Int.tdiv_eq_ediv_of_nonneg (by omega)
 have hb1:=Int.ediv_nonneg h0 (show (0 : Int) ≤ 10 by omega)
 have s4 : run (Qbg c [1,9] []) (0,0) = some (.brk 10):=by
  rw [Qn]; show run (Qbg c [1,9] []) (1,1) = _; rw [Qn]; show run (Qbg c [1,9] []) (10,2) = _; rw [Qn]; rfl
 have i6 : run (Jo c [1,9] [] [1,9] (ln ([1,9] : List Int))) (0,0) = some (.brk 10):=by
  rw [Qn]; show run (Jo c [1,9] [] [1,9] (ln ([1,9] : List Int))) (1,1) = _; rw [Qn]; show run (Jo c [1,9] [] [1,9] (ln ([1,9] : List Int))) (10,2) = _; rw [Qn]; rfl
 have w1 : w64 ((w64 (c * 1)).tdiv 10) = c / 10:=by rw [Vz (n:=c * 1) (by omega) (by omega),t1,Vz] <;> omega
 have w9 : w64 ((w64 (c * 9)).tdiv 10) = c * 9 / 10:=by rw [Vz (n:=c * 9) (by omega) (by omega),t9,Vz] <;> omega
 have s13 : run (Zc c [1,9] 10) ([],c,0) = some ([c / 10,c * 9 / 10],c - c / 10 - c * 9 / 10):=by
  rw [Qn]
  simp only [Zc,show decide ((0 : Int) < ln ([1,9] : List Int)) = true from rfl,show inb ([1,9] : List Int) 0 = true from rfl,show (!decide ((10 : Int) = 0)) = true from rfl,show gt ([1,9] : List Int) 0 = 1 from rfl,List.nil_append,w1,cond_true,Qc,VQ (show ([] : List Int).length + 1 ≤ 2000000 by simp) (show 8 ≤ 1024 by omega),show inb ([c / 10] : List Int) 0 = true from rfl,show gt ([c / 10] : List Int) 0 = c / 10 from rfl,show w64 (0 + 1) = 1 from rfl,Option.bind_some]
  rw [Qn]
  simp only [Zc,show decide ((1 : Int) < ln ([1,9] : List Int)) = true from rfl,show inb ([1,9] : List Int) 1 = true from rfl,show (!decide ((10 : Int) = 0)) = true from rfl,show gt ([1,9] : List Int) 1 = 9 from rfl,w9,cond_true,Qc,VQ (show ([c / 10] : List Int).length + 1 ≤ 2000000 by simp) (show 8 ≤ 1024 by omega),show ([c / 10] ++ [c * 9 / 10] : List Int) = [c / 10,c * 9 / 10] from rfl,show inb ([c / 10,c * 9 / 10] : List Int) 1 = true from rfl,show gt ([c / 10,c * 9 / 10] : List Int) 1 = c * 9 / 10 from rfl,show w64 (1 + 1) = 2 from rfl,Option.bind_some]
  rw [Qn]
  simp only [Zc,show decide ((2 : Int) < ln ([1,9] : List Int)) = false from rfl,cond_false,Option.bind_some]
  rw [Vz (n:=c - c / 10) (by omega) (by omega),Vz (by omega) (by omega)]
 have i16 : run (Xt c 10 [1,9] (ln ([1,9] : List Int))) ([],c,0) = some ([c / 10,c * 9 / 10],c - c / 10 - c * 9 / 10):=by
  rw [Qn]
  simp only [Xt,show decide ((0 : Int) < ln ([1,9] : List Int)) = true from rfl,show inb ([1,9] : List Int) 0 = true from rfl,show (!decide ((10 : Int) = 0)) = true from rfl,show gt ([1,9] : List Int) 0 = 1 from rfl,List.nil_append,w1,cond_true,Qc,VQ (show ([] : List Int).length + 1 ≤ 2000000 by simp) (show 8 ≤ 1024 by omega),show w64 (0 + 1) = 1 from rfl,Option.bind_some]
  rw [Qn]
  simp only [Xt,show decide ((1 : Int) < ln ([1,9] : List Int)) = true from rfl,show inb ([1,9] : List Int) 1 = true from rfl,show (!decide ((10 : Int) = 0)) = true from rfl,show gt ([1,9] : List Int) 1 = 9 from rfl,w9,cond_true,Qc,VQ (show ([c / 10] : List Int).length + 1 ≤ 2000000 by simp) (show 8 ≤ 1024 by omega),show ([c / 10] ++ [c * 9 / 10] : List Int) = [c / 10,c * 9 / 10] from rfl,show w64 (1 + 1) = 2 from rfl,Option.bind_some]
  rw [Qn]
  simp only [Xt,show decide ((2 : Int) < ln ([1,9] : List Int)) = false from rfl,cond_false,Option.bind_some]
  rw [Vz (n:=c - c / 10) (by omega) (by omega),Vz (by omega) (by omega)]
 have hin1 : (decide (0 ≤ c) && decide (c ≤ 10000000)) = true:=by rw [decide_eq_true h0,decide_eq_true h1]; rfl
 have hleft : c - c / 10 - c * 9 / 10 = 0 ∨ c - c / 10 - c * 9 / 10 = 1:=by omega
 refine ⟨c / 10 + (c - c / 10 - c * 9 / 10),c * 9 / 10,by omega,?_,?_⟩
 ·unfold Qei Qf
  simp only [s4,evO,Option.bind_some,hin1,Bool.not_true,cond_false,show (decide ((1 : Int) ≤ ln ([1,9] : List Int)) && decide (ln ([1,9] : List Int) ≤ 20)) = true from rfl,show decide ((10 : Int) = 0) = false from rfl,Bool.or_self,s13]
  rcases hleft with h | h
  ·rw [h,Qn]
   simp only [QaC,show decide ((0 : Int) < 0) = false from rfl,cond_false,Option.bind_some,Int.add_zero]
  ·rw [h,Qn]
   simp only [QaC,show decide ((0 : Int) < 1) = true from rfl,cond_true,show inb ([c / 10,c * 9 / 10] : List Int) 0 = true from rfl,Qc,show gt ([c / 10,c * 9 / 10] : List Int) 0 = c / 10 from rfl,Option.bind_some,show w64 (0 + 1) = 1 from rfl]
   rw [Qn]
   simp only [QaC,show decide ((1 : Int) < 1) = false from rfl,cond_false,Option.bind_some]
   rw [Vz (by omega) (by omega)]; rfl
 ·unfold QbB Qe
  simp only [i6,evO,Option.bind_some,hin1,Bool.not_true,cond_false,show (decide ((1 : Int) ≤ ln ([1,9] : List Int)) && decide (ln ([1,9] : List Int) ≤ 20)) = true from rfl,show decide ((10 : Int) = 0) = false from rfl,i16]
  rcases hleft with h | h
  ·rw [h,Qn]
   simp only [Jf,show decide ((0 : Int) < 0) = false from rfl,cond_false,Option.bind_some,Int.add_zero]
  ·rw [h,Qn]
   simp only [Jf,show decide ((0 : Int) < 1) = true from rfl,cond_true,show inb ([c / 10,c * 9 / 10] : List Int) 0 = true from rfl,Qc,show gt ([c / 10,c * 9 / 10] : List Int) 0 = c / 10 from rfl,show (!decide (ln (([c / 10,c * 9 / 10] : List Int).set (0 : Int).toNat (w64 (c / 10 + 1))) = 0)) = true from rfl,Option.bind_some,show w64 (1 - 1) = 0 from rfl]
   rw [Qn]
   simp only [Jf,show decide ((0 : Int) < 0) = false from rfl,cond_false,Option.bind_some]
   rw [Vz (by omega) (by omega)]; rfl
theorem Qqw (p f : Int) (h0 : 0 ≤ p) (h1 : p ≤ 10000000) : ∃ s,Qep p f = some s ∧ Qce p f = some s ∧ ((¬ (1 ≤ f ∧ f ≤ 999) ∧ s = [⟨0,p⟩]) ∨ (1 ≤ f ∧ ∃ a b,a ≤ p ∧ s = [⟨f,a⟩,⟨0,b⟩])):=by
 obtain ⟨a,b,hab,s1,s2⟩:=Qsd p h0 h1
 unfold Qep Qce Qf Qe
 simp only [Option.bind_some,decide_eq_true h0,decide_eq_true h1,Bool.and_self,Bool.not_true,cond_false,s1,s2,show inb ([a,b] : List Int) 0 = true from rfl,show inb ([a,b] : List Int) 1 = true from rfl,Qc,show gt ([a,b] : List Int) 0 = a from rfl,show gt ([a,b] : List Int) 1 = b from rfl]
 by_cases hf : 1 ≤ f ∧ f ≤ 999
 ·rw [decide_eq_true hf.1,decide_eq_true hf.2]
  exact ⟨_,rfl,rfl,.inr ⟨hf.1,a,b,hab,rfl⟩⟩
 ·rw [show (decide (1 ≤ f) && decide (f ≤ 999)) = false from by rw [Bool.eq_false_iff]; simpa using fun h=>by omega]
  exact ⟨_,rfl,rfl,.inl ⟨hf,rfl⟩⟩
theorem QCF (p f : Int) (h0 : 0 ≤ p) (h1 : p ≤ 10000000) : ∃ s,Qep p f = some s ∧ Qce p f = some s ∧ ((¬ (1 ≤ f ∧ f ≤ 999) ∧ s = [⟨0,p⟩]) ∨ (1 ≤ f ∧ ∃ a b,s = [⟨f,a⟩,⟨0,b⟩])):=by
 obtain ⟨s,s1,s2,s3⟩:=Qqw p f h0 h1
 refine ⟨s,s1,s2,?_⟩
 rcases s3 with h | ⟨h,a,b,_,e⟩
 ·exact .inl h
 ·exact .inr ⟨h,a,b,e⟩
end Go.Proofs.YtncpklppoancgaaGreat
namespace Go.Proofs.YtncpklppoancgaaGreat
open Go
set_option linter.unusedVariables false
set_option linter.unusedSimpArgs false
theorem QwD (l : List Find) (hl : l.length ≤ 1048576) (h : Xz l = some true) : ∀ i (hi : i < l.length),0 ≤ l[i].Finder ∧ l[i].Finder ≤ 999:=by
 have hb : ∀ f : Find,Jg f = some true → 0 ≤ f.Finder ∧ f.Finder ≤ 999:=by
  intro f hf
  obtain ⟨b,b1,_,_⟩:=QjG f.Thing
  unfold Jg Qf at hf
  rw [b1] at hf
  simp only [Option.bind_some] at hf
  revert hf
  cases b <;> cases (decide (1 ≤ f.Place) && decide (f.Place ≤ 30)) <;> cases (decide (0 ≤ f.At) && decide (f.At ≤ 100000)) <;> simp
 intro i hi
 obtain ⟨b,h1,h2,h3⟩:=Qd2 (n:=l.length) (r:=false) (s1:=Vo l) (s2:=Vo l) (fun i hi _=>by
   obtain ⟨b,q1,q2,_⟩:=Qj2 l[i]
   simp only [Vo,QG hi,Qj hi,QF hi,Q0 (show (i : Int) < 9223372036854775807 by omega),cond_true,Qc,q1,Option.bind_some]
   by_cases h0 : 0 < i
   ·simp only [show decide (0 < (i : Int)) = true from decide_eq_true (by omega),ZM h0 (by omega),Qj (show i - 1 < l.length by omega),cond_true,Qc]
    cases b <;> cases decide (l[i].Thing.Id ≤ (gt l ((i - 1 : Nat) : Int)).Thing.Id) <;> first | exact ⟨true,rfl,rfl⟩ | exact ⟨false,rfl,rfl⟩
   ·simp only [show decide (0 < (i : Int)) = false from decide_eq_false (by omega),cond_false]
    cases b <;> first | exact ⟨true,rfl,rfl⟩ | exact ⟨false,rfl,rfl⟩)
  (by simp only [Vo,QS (Nat.le_refl _),cond_false]) (by simp only [Vo,QS (Nat.le_refl _),cond_false])
 have he:=(Qbk (n:=l.length) (k:=20) _ h1).1
 have hb' : b = true:=by
  unfold Xz at h
  rw [show (ln l : Int) = (l.length : Int) from rfl] at h
  rw [he] at h
  simp at h
  exact h.1
 have hstep:=(h3 hb' i hi).1
 obtain ⟨c,q1,q2,q3⟩:=Qj2 l[i]
 simp only [Vo,QG hi,Qj hi,QF hi,cond_true,Qc,q1,Option.bind_some] at hstep
 cases c with
 | true=>exact hb _ q1
 | false=>simp at hstep
theorem pay (h : House) (a b c : Int) (hm : Qg h) : ∃ r,Zn h.Book ⟨a,b,c,h.Now⟩ = some r ∧ Zm h.Book ⟨a,b,c,h.Now⟩ = some r ∧ r.1.length ≤ 1048576 ∧
  JN h a b c = some (bif decide (c = 0) then (h,true) else (⟨h.No,h.Finds,h.Secrets,h.Slots,h.Claims,h.Trials,h.Chain,r.1,h.Now⟩,r.2)):=by
 obtain ⟨r,r1,r2,r3⟩:=Qrc h.Book ⟨a,b,c,h.Now⟩ hm.2.2.2.2.2.2
 refine ⟨r,r1,r2,r3,?_⟩
 unfold JN
 rw [r1]
 cases decide (c = 0) <;> rfl
theorem QmV (h x : House) (b : Bool) (hm : Qg h) (hx : Qg x) : ((Qp h x b).bind fun r=>some (r.1,r.2)) = some (Qcw h x b):=by
 rw [QdC h x b hm hx]; rfl
theorem Qw8 (h : House) (t : Int) (l : List Bid) (hm : Qg h) (hl : l.length ≤ 1048576) : ∃ r,QbG h t l = some r ∧ QcN h t l = some r ∧ Qg r.1:=by
 have hm7:=hm
 obtain ⟨m1,m2,m3,m4,m5,m6,m7⟩:=hm7
 obtain ⟨w,w1,w2⟩:=Qd4 h.Slots t m3
 obtain ⟨⟨who,price⟩,p1,p2,p3⟩:=QxY l hl
 unfold QbG QcN Qa0
 simp only [p1,p2,(JY h.Finds t m1).1,(JY h.Finds t m1).2,(XW h hm).1,(XW h hm).2,Jl h hm,ZO h hm,w1,w2,Option.bind_some]
 rcases QkE h.Finds t with hx | ⟨k,hk,hx⟩
 ·rw [hx]
  refine ⟨(h,false),rfl,?_,hm⟩
  cases Jj h <;> rfl
 ·rw [hx,decide_eq_false (show ¬ (k : Int) < 0 by omega)]
  rcases p3 with p3 | ⟨q1,q2,q3⟩
  ·injection p3 with e1 e2
   subst e1 e2
   refine ⟨(h,false),rfl,?_,hm⟩
   cases Jj h with
   | false=>rfl
   | true =>
    cases Ji h.Slots t with
    | false=>rfl
    | true=>simp only [Qj hk,Qc]; rfl
  ·simp only at q1 q2 q3
   rw [show decide (who = 0) = false from decide_eq_false (by omega)]
   cases hb : Jj h with
   | false=>exact ⟨(h,false),rfl,rfl,hm⟩
   | true =>
    have ho:=Qhv h hm hb
    obtain ⟨f,f1,f2⟩:=Qx2 h.Finds[k] h.Claims h.Now m4
    have hfin:=QwD h.Finds m1 ho.fS k hk
    obtain ⟨g,g1,g2,g3,g4,g5,g6,g7⟩:=Qpp h t 4 who hm
    simp only [cond_false,Bool.not_true,Option.bind_some,Qj hk,QF hk,Qc,f1]
    by_cases hf : f = 3
    ·subst hf
     obtain ⟨s,s1,s2,s3⟩:=QCF price h.Finds[k].Finder (by omega) (by omega)
     obtain ⟨e,e1,e2,e3,e4⟩:=pay g.1 who 0 price g3
     rw [g5,g6] at e1 e2
     have hpr : decide (price = 0) = false:=decide_eq_false (by omega)
     rw [hpr] at e4
     have n:=g3
     obtain ⟨n1,n2,n3,n4,n5,n6,n7⟩:=n
     have o1 : Qg ⟨g.1.No,g.1.Finds,g.1.Secrets,g.1.Slots,g.1.Claims,g.1.Trials,g.1.Chain,e.1,g.1.Now⟩:=⟨n1,n2,n3,n4,n5,n6,e3⟩
     simp only [decide_true,Bool.not_true,cond_false,g1,e4,s1,Option.bind_some]
     rcases s3 with ⟨hno,rfl⟩ | ⟨hyes,a,b,rfl⟩
     ·have hf0 : h.Finds[k].Finder = 0:=by omega
      have hspec : (bif decide (ln ([⟨0,price⟩] : List Share) = 2) then (none : Option (House × Bool)) else some (h,false)) = some (h,false):=rfl
      simp only [show decide (ln ([⟨0,price⟩] : List Share) = 2) = false from rfl,cond_false,QmV h _ _ hm o1]
      refine ⟨Qcw h ⟨g.1.No,g.1.Finds,g.1.Secrets,g.1.Slots,g.1.Claims,g.1.Trials,g.1.Chain,e.1,g.1.Now⟩ (g.2 && e.2),?_,?_,QaW _ _ _ hm o1⟩
      ·cases g.2 <;> rfl
      ·cases hi : Ji h.Slots t with
       | false=>rw [g4 hi]; rfl
       | true =>
        simp only [Bool.not_true,cond_false,Qj hk,QF hk,Qc,f2,Option.bind_some,decide_true,Bool.not_true,g2,e2,s2,show decide (h.Finds[k].Finder = 0) = true from decide_eq_true hf0]
        cases e.2 <;> simp only [cond_true,cond_false,Bool.not_true,Option.bind_some,QbO h _ _ hm o1 (show [g.2,true,true].length ≤ 1048576 by simp),QbO h _ _ hm o1 (show [g.2,false,true].length ≤ 1048576 by simp),List.all_cons,List.all_nil,Bool.and_true,id_eq]
     ·have hf0 : decide (h.Finds[k].Finder = 0) = false:=decide_eq_false (by omega)
      obtain ⟨d,d1,d2,d3,d4⟩:=pay ⟨g.1.No,g.1.Finds,g.1.Secrets,g.1.Slots,g.1.Claims,g.1.Trials,g.1.Chain,e.1,g.1.Now⟩ 0 h.Finds[k].Finder a o1
      simp only [g6] at d1 d2
      have o2 : Qg ⟨g.1.No,g.1.Finds,g.1.Secrets,g.1.Slots,g.1.Claims,g.1.Trials,g.1.Chain,d.1,g.1.Now⟩:=⟨n1,n2,n3,n4,n5,n6,d3⟩
      simp only [show decide (ln ([⟨h.Finds[k].Finder,a⟩,⟨0,b⟩] : List Share) = 2) = true from rfl,cond_true,show inb ([⟨h.Finds[k].Finder,a⟩,⟨0,b⟩] : List Share) 0 = true from rfl,Qc,show gt ([⟨h.Finds[k].Finder,a⟩,⟨0,b⟩] : List Share) 0 = ⟨h.Finds[k].Finder,a⟩ from rfl,d4,Option.bind_some]
      refine ⟨bif decide (a = 0) then Qcw h ⟨g.1.No,g.1.Finds,g.1.Secrets,g.1.Slots,g.1.Claims,g.1.Trials,g.1.Chain,e.1,g.1.Now⟩ (g.2 && e.2) else Qcw h ⟨g.1.No,g.1.Finds,g.1.Secrets,g.1.Slots,g.1.Claims,g.1.Trials,g.1.Chain,d.1,g.1.Now⟩ (g.2 && (e.2 && d.2)),?_,?_,?_⟩
      ·cases decide (a = 0) with
       | true=>simp only [cond_true,QmV h _ _ hm o1]; cases g.2 <;> cases e.2 <;> rfl
       | false=>simp only [cond_false,QmV h _ _ hm o2]; cases g.2 <;> cases e.2 <;> rfl
      ·cases hi : Ji h.Slots t with
       | false =>
        rw [g4 hi]
        simp only [Bool.not_false,Bool.false_and,QeZ]
        cases decide (a = 0) <;> rfl
       | true =>
        simp only [Bool.not_true,cond_false,Qj hk,QF hk,Qc,f2,Option.bind_some,decide_true,Bool.not_true,g2,e2,s2,hf0,Bool.not_false,show inb ([⟨h.Finds[k].Finder,a⟩,⟨0,b⟩] : List Share) 0 = true from rfl,show gt ([⟨h.Finds[k].Finder,a⟩,⟨0,b⟩] : List Share) 0 = ⟨h.Finds[k].Finder,a⟩ from rfl,cond_true]
        cases he : e.2 with
        | false =>
         simp only [cond_false,Option.bind_some,QbO h _ _ hm o1 (show [g.2,false,true].length ≤ 1048576 by simp),List.all_cons,List.all_nil,Bool.and_true,id_eq,Bool.false_and,Bool.and_false,QeZ]
         cases decide (a = 0) <;> rfl
        | true =>
         cases ha : decide (a = 0) with
         | true=>simp only [cond_true,cond_false,Bool.not_true,Option.bind_some,QbO h _ _ hm o1 (show [g.2,true,true].length ≤ 1048576 by simp),List.all_cons,List.all_nil,Bool.and_true,id_eq]
         | false=>simp only [cond_true,cond_false,Bool.not_false,Option.bind_some,d2,QbO h _ _ hm o2 (show [g.2,true,d.2].length ≤ 1048576 by simp),List.all_cons,List.all_nil,Bool.and_true,Bool.true_and,id_eq]
      ·cases decide (a = 0) with
       | true=>exact QaW _ _ _ hm o1
       | false=>exact QaW _ _ _ hm o2
    ·simp only [decide_eq_false hf,Bool.not_false,cond_true]
     refine ⟨(h,false),rfl,?_,hm⟩
     cases Ji h.Slots t with
     | false=>rfl
     | true=>simp only [Bool.not_true,cond_false,Qj hk,QF hk,Qc,f2,Option.bind_some,decide_eq_false hf,Bool.not_false,cond_true]
end Go.Proofs.YtncpklppoancgaaGreat
namespace Go.Proofs.YtncpklppoancgaaGreat
open Go
set_option linter.unusedVariables false
set_option linter.unusedSimpArgs false
def Q (a : House) (r : House × Bool) : Prop:=(r.2 = true → Vv a = some true ∧ Vv r.1 = some true) ∧ (r.2 = false → r.1 = a)
def Qd (a : House) (x : Option (House × Bool)) : Prop:=∀ r,x = some r → Q a r
theorem Qd.bind {A : Type} {a : House} {o : Option A} {k : A → Option (House × Bool)} (h : ∀ y,Qd a (k y)) : Qd a (o.bind k):=fun r hr=>by
 obtain ⟨y,_,hy⟩:=Option.bind_eq_some_iff.1 hr
 exact h y r hy
theorem Qd.cond {a : House} {b : Bool} {x y : Option (House × Bool)} (hx : Qd a x) (hy : Qd a y) : Qd a (bif b then x else y):=by
 cases b with
 | true=>exact hx
 | false=>exact hy
theorem Qd.nd {a : House} {b : Bool} {x : Option (House × Bool)} (hx : Qd a x) : Qd a (nd b <| x):=by
 cases b with
 | true=>exact hx
 | false=>intro r hr; cases hr
theorem Qd.none {a : House} : Qd a none:=fun r hr=>by cases hr
theorem Qd.self {a : House} : Qd a (some (a,false)):=fun r hr=>by
 injection hr with hr; subst hr
 exact ⟨fun h=>(by cases h),fun _=>rfl⟩
theorem Qd.done {a o : House} {o2 : Bool} (hm : Qg a) : Qd a ((Qp a o o2).bind fun r=>some (r.1,r.2)):=fun r hr=>by
 obtain ⟨y,hy,e⟩:=Option.bind_eq_some_iff.1 hr
 injection e with e; subst e
 unfold Qp at hy
 obtain ⟨b,hb,hy⟩:=Option.bind_eq_some_iff.1 hy
 cases b with
 | true =>
  rw [Jl a hm] at hy
  simp only [cond_true,Option.bind_some] at hy
  injection hy with hy; subst hy
  exact ⟨fun h=>(by cases h),fun _=>rfl⟩
 | false =>
  simp only [cond_false] at hy
  injection hy with hy; subst hy
  refine ⟨fun _=>?_,fun h=>(by cases h)⟩
  cases o2 with
  | false=>cases hb
  | true =>
   simp only [Bool.not_true,cond_false] at hb
   obtain ⟨r1,h1,hb⟩:=Option.bind_eq_some_iff.1 hb
   cases r1 with
   | false=>cases hb
   | true =>
    simp only [Bool.not_true,cond_false] at hb
    obtain ⟨r2,h2,hb⟩:=Option.bind_eq_some_iff.1 hb
    cases r2 with
    | false=>cases hb
    | true=>exact ⟨h1,h2⟩
theorem Qwv (a : House) (f : Find) (m : List Mark) (s : Int) (hm : Qg a) : Qd a (Jy a f m s):=by
 unfold Jy
 simp only [Jl a hm,Option.bind_some]
 repeat (first | exact Qd.done hm | exact Qd.self | refine Qd.bind fun _=>?_ | refine Qd.nd ?_ | refine Qd.cond ?_ ?_ | exact Qd.none)
theorem Qtq (a : House) (x y z : Int) (hm : Qg a) : Qd a (Xh a x y z):=by
 unfold Xh
 simp only [Jl a hm,Option.bind_some]
 repeat (first | exact Qd.done hm | exact Qd.self | refine Qd.bind fun _=>?_ | refine Qd.nd ?_ | refine Qd.cond ?_ ?_ | exact Qd.none)
theorem Qqp (a : House) (x y : Int) (hm : Qg a) : Qd a (Xp a x y):=by
 unfold Xp
 simp only [Jl a hm,Option.bind_some]
 repeat (first | exact Qd.done hm | exact Qd.self | refine Qd.bind fun _=>?_ | refine Qd.nd ?_ | refine Qd.cond ?_ ?_ | exact Qd.none)
theorem QsB (a : House) (x : Int) (hm : Qg a) : Qd a (XC a x):=by
 unfold XC
 simp only [Jl a hm,Option.bind_some]
 repeat (first | exact Qd.done hm | exact Qd.self | refine Qd.bind fun _=>?_ | refine Qd.nd ?_ | refine Qd.cond ?_ ?_ | exact Qd.none)
theorem Qw5 (a : House) (x : Int) (l : List Bid) (hm : Qg a) : Qd a (QbG a x l):=by
 unfold QbG
 simp only [Jl a hm,Option.bind_some]
 repeat (first | exact Qd.done hm | exact Qd.self | refine Qd.bind fun _=>?_ | refine Qd.nd ?_ | refine Qd.cond ?_ ?_ | exact Qd.none)
theorem Qte (a : House) (x : Int) (hm : Qg a) : Qd a (QaF a x):=by
 unfold QaF
 simp only [Jl a hm,Option.bind_some]
 repeat (first | exact Qd.done hm | exact Qd.self | refine Qd.bind fun _=>?_ | refine Qd.nd ?_ | refine Qd.cond ?_ ?_ | exact Qd.none)
theorem Qwz (a : House) (x : Int) (hm : Qg a) : Qd a (XX a x):=by
 unfold XX
 simp only [Jl a hm,Option.bind_some]
 repeat (first | exact Qd.done hm | exact Qd.self | refine Qd.bind fun _=>?_ | refine Qd.nd ?_ | refine Qd.cond ?_ ?_ | exact Qd.none)
end Go.Proofs.YtncpklppoancgaaGreat
namespace Go.Proofs.YtncpklppoancgaaGreat
open Go
set_option linter.unusedVariables false
set_option linter.unusedSimpArgs false
theorem Qn0 (a : Int) (m : Nat) (hm : m < 9223372036854775808) : ∃ x,Qfi .and .i64 a (m : Int) = x ∧ 0 ≤ x ∧ x ≤ (m : Int):=by
 refine ⟨_,rfl,?_⟩
 have e : ((m : Int) % 2 ^ IntKind.i64.bits).toNat = m:=by
  rw [show ((2 : Int) ^ IntKind.i64.bits) = 18446744073709551616 from rfl]; omega
 have h:=@Nat.and_le_right (a % 2 ^ IntKind.i64.bits).toNat m
 unfold Qfi
 simp only [e,Qxj]
 rw [Vz (by omega) (by omega)]
 omega
def okC (c : l1Cur) : Prop:=c.b.length ≤ 1048576 ∧ 0 ≤ c.i ∧ c.i ≤ c.b.length
theorem QeI (l : List Int) (hl : l.length ≤ 1048576) : ∃ c,ZG l = some c ∧ okC c:=by
 have key : ∀ (m k : Nat) (a : Int),k + m = l.length → ∃ r,run (Zi l) (a,(k : Int)) = some r:=by
  intro m
  induction m with
  | zero =>
   intro k a hk
   have : k = l.length:=by omega
   subst this
   exact ⟨a,by rw [Qn]; simp only [Zi,QS (Nat.le_refl _),Bool.false_and,cond_false,Option.bind_some]⟩
  | succ m ih =>
   intro k a hk
   have hlt : k < l.length:=by omega
   cases h4 : decide ((k : Int) < 4000) with
   | false=>exact ⟨a,by rw [Qn]; simp only [Zi,h4,Bool.and_false,cond_false,Option.bind_some]⟩
   | true =>
    obtain ⟨r,hr⟩:=ih (k + 1) (Qfi .and .i64 (w64 (w64 (w64 (a * 137) + w64 (gt l (k : Int))) + 11)) 1073741823) (by omega)
    exact ⟨r,by rw [Qn]; simp only [Zi,QG hlt,h4,Bool.and_self,Qj hlt,cond_true,Qc,Q0 (show (k : Int) < 9223372036854775807 by omega),Option.bind_some]; exact hr⟩
 obtain ⟨r,hr⟩:=key l.length 0 (w64 (193017 + ln l)) (by omega)
 refine ⟨⟨l,0,r⟩,?_,hl,Int.le_refl _,by simp only; omega⟩
 unfold ZG
 rw [show run (Zi l) (w64 (193017 + ln l),0) = some r from hr]; rfl
theorem QpS (a : Int) : 0 ≤ Qfi .and .i64 a 255 ∧ Qfi .and .i64 a 255 ≤ 255:=by
 obtain ⟨x,e,h0,h1⟩:=Qn0 a 255 (by omega)
 rw [show ((255 : Nat) : Int) = 255 from rfl] at e h1
 rw [e]; exact ⟨h0,h1⟩
theorem Qhm (c : l1Cur) (h : okC c) : ∃ c' x,Qa1 c = some (c',x) ∧ okC c' ∧ 0 ≤ x ∧ x ≤ 255:=by
 obtain ⟨h1,h2,h3⟩:=h
 unfold Qa1
 by_cases hi : c.i < ln c.b
 ·have hb : inb c.b c.i = true:=by rw [QcY]; rw [Vw] at hi; omega
  rw [Vw] at hi
  rw [decide_eq_true (show c.i < ln c.b from hi),hb]
  have e : w64 (c.i + 1) = c.i + 1:=Vz (by omega) (by omega)
  refine ⟨_,_,rfl,⟨h1,?_,?_⟩,(QpS _).1,(QpS _).2⟩
  ·show 0 ≤ w64 (c.i + 1)
   omega
  ·show w64 (c.i + 1) ≤ (c.b.length : Int)
   omega
 ·rw [decide_eq_false hi]
  exact ⟨_,_,rfl,⟨h1,h2,h3⟩,(QpS _).1,(QpS _).2⟩
theorem Qus {x n : Int} (hx : 0 ≤ x) (hn : 0 < n) : 0 ≤ x.tmod n ∧ x.tmod n < n:=⟨Int.tmod_nonneg _ hx,Int.tmod_lt_of_pos x hn⟩
theorem Qw (c : l1Cur) (n : Int) (h : okC c) : ∃ c' x,Qi c n = some (c',x) ∧ okC c' ∧ 0 ≤ x ∧ (0 < n → x < n):=by
 unfold Qi
 by_cases h0 : n ≤ 0
 ·rw [decide_eq_true h0]; exact ⟨c,0,rfl,h,Int.le_refl _,fun hn=>by omega⟩
 ·have hz : (!decide (n = 0)) = true:=by simp; omega
  rw [decide_eq_false h0,hz]
  by_cases h1 : n ≤ 256
  ·rw [decide_eq_true h1]
   obtain ⟨c1,x1,e1,k1,l1,u1⟩:=Qhm c h
   have:=Qus l1 (show 0 < n by omega)
   exact ⟨c1,x1.tmod n,by simp only [e1,cond_false,cond_true,Option.bind_some,Qc],k1,this.1,fun _=>this.2⟩
  ·rw [decide_eq_false h1]
   obtain ⟨c1,x1,e1,k1,l1,u1⟩:=Qhm c h
   obtain ⟨c2,x2,e2,k2,l2,u2⟩:=Qhm c1 k1
   obtain ⟨c3,x3,e3,k3,l3,u3⟩:=Qhm c2 k2
   have e4 : w64 (w64 (w64 (x1 * 65536) + w64 (x2 * 256)) + x3) = x1 * 65536 + x2 * 256 + x3:=by
    rw [Vz (n:=x1 * 65536) (by omega) (by omega),Vz (n:=x2 * 256) (by omega) (by omega),Vz (n:=x1 * 65536 + x2 * 256) (by omega) (by omega),Vz (by omega) (by omega)]
   have:=Qus (show 0 ≤ x1 * 65536 + x2 * 256 + x3 by omega) (show 0 < n by omega)
   exact ⟨c3,(x1 * 65536 + x2 * 256 + x3).tmod n,by simp only [e1,e2,e3,e4,cond_false,Option.bind_some,Qc],k3,this.1,fun _=>this.2⟩
theorem QdE (c : l1Cur) (l : List Int) (h : okC c) (hl : 0 < l.length) : ∃ c' x,VF c l = some (c',x) ∧ okC c' ∧ x ∈ l:=by
 obtain ⟨c1,x1,e1,k1,l1,u1⟩:=Qw c (ln l) h
 have hlt:=u1 (by rw [Vw]; omega)
 rw [Vw] at hlt
 obtain ⟨k,rfl⟩ : ∃ k : Nat,x1 = (k : Int):=⟨x1.toNat,by omega⟩
 have hi : k < l.length:=by omega
 refine ⟨c1,l[k],?_,k1,List.getElem_mem hi⟩
 unfold VF
 rw [e1]
 simp only [Option.bind_some,Qj hi,QF hi,Qc]
end Go.Proofs.YtncpklppoancgaaGreat
