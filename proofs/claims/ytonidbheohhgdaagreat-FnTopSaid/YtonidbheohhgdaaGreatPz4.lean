import Derived.Test.YtonidbheohhgdaaGreatPz3
import Derived.Test.YtonidbheohhgdaaGreatPz2
namespace Go.Proofs.YtonidbheohhgdaaGreat
open Go
set_option linter.unusedVariables false
set_option linter.unusedSimpArgs false
theorem QtS {n : Nat} (p : Nat → Bool) {step : Int → Option (Int ⊕ Int)} (h1 : ∀ i,i < n → step (i : Int) = some (bif p i then .inl ((i + 1 : Nat) : Int) else .inr (i : Int))) (h2 : step (n : Int) = some (.inr (n : Int))) : ∃ k : Nat,k ≤ n ∧ run step 0 = some (k : Int):=by
 have key : ∀ (m i : Nat),i + m = n → ∃ k : Nat,k ≤ n ∧ run step (i : Int) = some (k : Int):=by
  intro m
  induction m with
  | zero =>
   intro i hi
   have : i = n:=by omega
   subst this
   exact ⟨i,Nat.le_refl _,by rw [Qh,h2]; rfl⟩
  | succ m ih =>
   intro i hi
   cases hp : p i with
   | false=>exact ⟨i,by omega,by rw [Qh,h1 i (by omega),hp]; rfl⟩
   | true =>
    obtain ⟨k,k1,k2⟩:=ih (i + 1) (by omega)
    exact ⟨k,k1,by rw [Qh,h1 i (by omega),hp]; exact k2⟩
 exact key n 0 (by omega)
theorem Qd2 {α : Type} (l : List α) (k : Nat) : cut l (k : Int) (ln l) = l.drop k:=by
 unfold cut ln
 simp
theorem Qh8 {k n : Nat} (h : k ≤ n) : slB (k : Int) (n : Int) (n : Int) = true:=by unfold slB; simp; omega
theorem QiS {α : Type} (l : List α) (k : Nat) (x : α) : (cut l 0 (k : Int) ++ [x]) ++ cut l (k : Int) (ln l) = Q6 l (k : Int) [x]:=by
 rw [XN,Qd2]; simp [Q6]
theorem QeG {α : Type} (l : List α) (k : Nat) (hk : k ≤ l.length) (x : α) : (Q6 l (k : Int) [x]).length = l.length + 1:=by
 simp [Q6]; omega
theorem Qla {α : Type} (l : List α) (k : Nat) (hk : k ≤ l.length) (x : α) (b : Nat) (hl : l.length ≤ 1048576) (hb : b ≤ 1024) : Qdy l (k : Int) [x] b = true:=by
 unfold Qdy
 have : (l.length + 1) * b ≤ 1048577 * 1024:=Nat.mul_le_mul (by omega) hb
 simp; omega
theorem Qrx {α : Type} (l : List α) (k : Nat) (hk : k ≤ l.length) (x : α) : (Q6 l (k : Int) [x])[k]? = some x:=by
 simp [Q6,List.getElem?_append,Nat.min_eq_left hk]
theorem QsJ {α : Type} (l : List α) (k : Nat) (hk : k ≤ l.length) (x : α) (j : Nat) (hj : j < l.length) : (Q6 l (k : Int) [x])[if j < k then j else j + 1]? = some l[j]:=by
 by_cases h : j < k
 ·rw [if_pos h]; simp [Q6,List.getElem?_append,Nat.min_eq_left hk,h]
 ·rw [if_neg h]
  simp only [Q6,Int.toNat_natCast,List.singleton_append]
  rw [List.getElem?_append_right (by simp; omega)]
  simp only [List.length_take,Nat.min_eq_left hk]
  rw [show j + 1 - k = (j - k) + 1 by omega,List.getElem?_cons_succ,List.getElem?_drop,show k + (j - k) = j by omega,List.getElem?_eq_getElem hj]
theorem Qob {α : Type} [Inhabited α] (key : α → Int) (l : List α) (k : Nat) (hk : k ≤ l.length) (x : α) (up : ∀ i (hi : i < (Q6 l (k : Int) [x]).length) (h0 : 0 < i),key ((Q6 l (k : Int) [x])[i - 1]'(by omega)) < key (Q6 l (k : Int) [x])[i]) (j : Nat) (hj : j < l.length) (he : key l[j] = key x) : False:=by
 have hlen:=QeG l k hk x
 have hu:=Qnp (n:=(Q6 l (k : Int) [x]).length) (fun i=>key (gt (Q6 l (k : Int) [x]) (i : Int))) (fun i h1 h2=>by
  show key (gt (Q6 l (k : Int) [x]) ((i - 1 : Nat) : Int)) < key (gt (Q6 l (k : Int) [x]) (i : Int))
  rw [Qm h1,Qm (show i - 1 < (Q6 l (k : Int) [x]).length by omega)]; exact up i h1 h2)
 have g1 : gt (Q6 l (k : Int) [x]) (k : Int) = x:=by
  have hlt : k < (Q6 l (k : Int) [x]).length:=by omega
  rw [Qm hlt]
  have:=Qrx l k hk x
  rw [List.getElem?_eq_getElem hlt] at this
  exact Option.some.inj this
 have hidx : (if j < k then j else j + 1) < (Q6 l (k : Int) [x]).length:=by split <;> omega
 have g2 : gt (Q6 l (k : Int) [x]) ((if j < k then j else j + 1 : Nat) : Int) = l[j]:=by
  rw [Qm hidx]
  have:=QsJ l k hk x j hj
  rw [List.getElem?_eq_getElem hidx] at this
  exact Option.some.inj this
 by_cases h : j < k
 ·have:=hu k (if j < k then j else j + 1) (by rw [if_pos h]; exact h) (by omega)
  simp only [g1,g2] at this; omega
 ·have:=hu (if j < k then j else j + 1) k (by rw [if_neg h]; omega) hidx
  simp only [g1,g2] at this; omega
end Go.Proofs.YtonidbheohhgdaaGreat
namespace Go.Proofs.YtonidbheohhgdaaGreat
open Go
set_option linter.unusedVariables false
set_option linter.unusedSimpArgs false
theorem Qft (l : List Find) (id : Int) : Xg l id = -1 ∨ ∃ k : Nat,∃ hk : k < l.length,Xg l id = (k : Int) ∧ l[k].Thing.Id = id:=by
 unfold Xg
 cases hf : l.findIdx? (fun x=>decide (x.Thing.Id = id)) with
 | none=>exact .inl rfl
 | some i =>
  obtain ⟨hi,hp⟩:=ZZ hf
  exact .inr ⟨i,hi,rfl,by simpa using hp⟩
theorem QBz (l : List Find) (f : Find) (hl : l.length ≤ 1048576) : ∃ r,QcE l f = some r ∧ QcN l f = some r ∧ r.1.length ≤ 1048576:=by
 obtain ⟨k,hk,hr⟩:=QtS (n:=l.length) (fun i=>decide ((gt l (i : Int)).Thing.Id < f.Thing.Id)) (step:=Qcm l f)
  (fun i hi=>by
   simp only [Qcm,Qt hi,Qe hi,QD (show (i : Int) < 9223372036854775807 by omega),cond_true,Qa,Option.bind_some]
   cases decide ((gt l (i : Int)).Thing.Id < f.Thing.Id) <;> rfl)
  (by simp only [Qcm,Qx (Nat.le_refl _),cond_false]; rfl)
 have hr2 : run (Qci l f l) 0 = some (k : Int):=hr
 have hlen:=QeG l k hk f
 obtain ⟨b,b1,b2,b3⟩:=QjB (Q6 l (k : Int) [f]) (by omega)
 have hrm : rm (0 + l.length) 64 = true:=Vz (by omega) (by omega)
 have hrm1 : rm (0 + (cut l 0 (k : Int)).length) 64 = true:=Vz (by rw [XN,List.length_take]; omega) (by omega)
 have hrm2 : rm ((cut l 0 (k : Int)).length + 1) 64 = true:=Vz (by rw [XN,List.length_take]; omega) (by omega)
 have hrm3 : rm ((cut l 0 (k : Int)).length + 1 + (cut l (k : Int) (ln l)).length) 64 = true:=Vz (by rw [XN,Qd2,List.length_take,List.length_drop]; omega) (by omega)
 have hs : QcE l f = some (bif b then (Q6 l (k : Int) [f],true) else (l,false)):=by
  unfold QcE
  simp only [hr,VA,Qfp hk,Qh8 hk,Option.bind_some,Qa]
  rw [← VA]
  simp only [hrm1,hrm2,hrm3,hrm,QiS,b1,Qa,Option.bind_some]
  cases b <;> rfl
 refine ⟨_,hs,?_,?_⟩
 ·unfold QcN X2
  simp only [hrm,Qa,Option.bind_some,(VZ l f.Thing.Id hl).2,hr2,Qla l k hk f 64 hl (by omega),b2]
  rcases Qft l f.Thing.Id with h | ⟨j,hj,h,hid⟩
  ·rw [h]; cases b <;> rfl
  ·rw [h,decide_eq_true (show (0 : Int) ≤ (j : Int) by omega)]
   cases b with
   | false=>rfl
   | true=>exact absurd (Qob (fun x : Find=>x.Thing.Id) l k hk f (b3 rfl).2.2 j hj hid) id
 ·cases b with
  | false=>exact hl
  | true=>have:=(b3 rfl).1; show (Q6 l (k : Int) [f]).length ≤ _; omega
theorem QxB (l : List Secret) (t : Int) (hl : l.length ≤ 1048576) : J6 l t = some (-1) ∨ ∃ k : Nat,∃ hk : k < l.length,J6 l t = some (k : Int) ∧ l[k].Thing = t:=by
 have hi:=XH l (fun x=>decide (x.Thing = t)) (fun i=>(i : Int)) (step:=Qj l t (ln l))
  (fun i hi=>by
   simp only [Qj,QaQ,Option.bind_some,Qt hi,Qe hi,Qm hi,QD (show (i : Int) < 9223372036854775807 by omega),cond_true,Qa]
   cases decide (l[i].Thing = t) <;> rfl)
  (by simp only [Qj,Qx (Nat.le_refl _),cond_false])
 unfold J6 QY
 rw [hi]
 cases hf : l.findIdx? (fun x=>decide (x.Thing = t)) with
 | none=>exact .inl rfl
 | some i =>
  obtain ⟨hi',hp⟩:=ZZ hf
  exact .inr ⟨i,hi',rfl,by simpa using hp⟩
theorem QxM {α : Type} {sm : α → Prop} {l : List α} (h : smL sm l) (k : Nat) : smL sm (l.take k):=⟨by have:=h.1; rw [List.length_take]; omega,fun x hx=>h.2 x (List.mem_of_mem_take hx)⟩
theorem QyR {α : Type} {sm : α → Prop} {l : List α} (h : smL sm l) (k : Nat) : smL sm (l.drop k):=⟨by have:=h.1; rw [List.length_drop]; omega,fun x hx=>h.2 x (List.mem_of_mem_drop hx)⟩
theorem QuG (l : List Secret) (x : Secret) (hm : smL Qc8 l) (hx : x.Marks.length ≤ 1048576) : ∃ r,QcL l x = some r ∧ Qbt l x = some r ∧ smL Qc8 r.1:=by
 have hl:=hm.1
 obtain ⟨k,hk,hr⟩:=QtS (n:=l.length) (fun i=>decide ((gt l (i : Int)).Thing < x.Thing)) (step:=Qbe l x)
  (fun i hi=>by
   simp only [Qbe,Qt hi,Qe hi,QD (show (i : Int) < 9223372036854775807 by omega),cond_true,Qa,Option.bind_some]
   cases decide ((gt l (i : Int)).Thing < x.Thing) <;> rfl)
  (by simp only [Qbe,Qx (Nat.le_refl _),cond_false]; rfl)
 have hr2 : run (Qbi l x l) 0 = some (k : Int):=hr
 have hlen:=QeG l k hk x
 have hmem : ∀ y ∈ Q6 l (k : Int) [x],Qc8 y:=by
  intro y hy
  simp only [Q6,Int.toNat_natCast,List.singleton_append,List.mem_append,List.mem_cons] at hy
  rcases hy with h | h | h
  ·exact hm.2 y (List.mem_of_mem_take h)
  ·subst h; exact hx
  ·exact hm.2 y (List.mem_of_mem_drop h)
 obtain ⟨b,b1,b2,b3⟩:=Qko (Q6 l (k : Int) [x]) (by omega) hmem
 have hrm1 : rm ((cut l 0 (k : Int)).length + [x].length) 40 = true:=Vz (by rw [XN,List.length_take]; simp; omega) (by omega)
 have hrm3 : rm ((cut l 0 (k : Int)).length + [x].length + (cut l (k : Int) (ln l)).length) 40 = true:=Vz (by rw [XN,Qd2,List.length_take,List.length_drop]; simp; omega) (by omega)
 have c1 : Xr (cut l 0 (k : Int)) = some (cut l 0 (k : Int)):=by rw [XN]; exact Qjo _ (QxM hm k)
 have c2 : Xr (cut l (k : Int) (ln l)) = some (cut l (k : Int) (ln l)):=by rw [Qd2]; exact Qjo _ (QyR hm k)
 have c3 : Xr [x] = some [x]:=Qjo _ ⟨by simp,fun y hy=>by simp at hy; subst hy; exact hx⟩
 have hs : QcL l x = some (bif b then (Q6 l (k : Int) [x],true) else (l,false)):=by
  unfold QcL
  simp only [hr,Option.bind_some]
  rw [show slB 0 (k : Int) (ln l) = true from Qfp hk,show slB (k : Int) (ln l) (ln l) = true from Qh8 hk]
  simp only [Qa,c1,c2,c3,hrm1,hrm3,QiS,b1,Qjo l hm,Option.bind_some]
  cases b <;> rfl
 refine ⟨_,hs,?_,?_⟩
 ·unfold Qbt Xk
  simp only [Qir l hm,Option.bind_some,hr2,Vz (show 0 + x.Marks.length ≤ 2000000 by omega) (show 16 ≤ 1024 by omega),Qa,show (⟨x.Thing,x.Marks,x.Salt⟩ : Secret) = x from rfl,Qla l k hk x 40 hl (by omega),b2]
  rcases QxB l x.Thing hl with h | ⟨j,hj,h,hid⟩
  ·rw [h]; cases b <;> rfl
  ·rw [h]
   simp only [Option.bind_some,decide_eq_true (show (0 : Int) ≤ (j : Int) by omega)]
   cases b with
   | false=>rfl
   | true=>exact absurd (Qob (fun x : Secret=>x.Thing) l k hk x (b3 rfl).2 j hj hid) id
 ·cases b with
  | false=>exact hm
  | true=>exact ⟨by have:=(b3 rfl).1; show (Q6 l (k : Int) [x]).length ≤ _; omega,hmem⟩
theorem QxJ (l : List Slot) (x : Thing) (hl : l.length ≤ 1048576) : ∃ r,QdZ l x = some r ∧ QbR l x = some r ∧ r.1.length = l.length ∧ (r.2 = true → 1 ≤ x.Id ∧ ∃ y ∈ r.1,y.Thing = x.Id):=by
 obtain ⟨c,c1,c2,c3⟩:=QjJ l hl
 obtain ⟨t,t1,t2,t3⟩:=Qi5 x
 have hrm : rm (0 + l.length) 24 = true:=Vz (by omega) (by omega)
 obtain ⟨v,hv,hq⟩:=Qk4 (n:=l.length) (step:=Vw l x.Size) (fin:=fun v=>v) (fun i v=>v = -1 ∨ ∃ j : Nat,j < i ∧ j < l.length ∧ v = (j : Int))
  (fun i v hi hv=>by
   have hw:=QD (show (i : Int) < 9223372036854775807 by omega)
   have hcase : Vw l x.Size (v,(i : Int)) = some (.inl ((i : Int),((i + 1 : Nat) : Int))) ∨ Vw l x.Size (v,(i : Int)) = some (.inl (v,((i + 1 : Nat) : Int))):=by
    rcases hv with rfl | ⟨j,hj,hjl,rfl⟩
    ·simp only [Vw,Qt hi,Qe hi,Qm hi,hw,cond_true,Qa,show decide ((-1 : Int) < 0) = true from rfl]
     cases decide (l[i].Thing = 0) <;> cases decide (x.Size ≤ l[i].Size) <;> first | exact .inl rfl | exact .inr rfl
    ·simp only [Vw,Qt hi,Qe hi,Qm hi,Qe hjl,Qm hjl,hw,cond_true,cond_false,Qa,decide_eq_false (show ¬ (j : Int) < 0 by omega)]
     cases decide (l[i].Thing = 0) <;> cases decide (x.Size ≤ l[i].Size) <;> cases decide (l[i].Size < l[j].Size) <;> first | exact .inl rfl | exact .inr rfl
   rcases hcase with h | h
   ·exact ⟨_,h,.inr ⟨i,by omega,hi,rfl⟩⟩
   ·refine ⟨_,h,?_⟩
    rcases hv with h' | ⟨j,hj,hjl,h'⟩
    ·exact .inl h'
    ·exact .inr ⟨j,by omega,hjl,h'⟩)
  (fun v _=>by simp only [Vw,Qx (Nat.le_refl _),cond_false]) (-1) (.inl rfl)
 have hf : QcR l x.Size = some v:=by
  unfold QcR
  rw [show QaM l x.Size l (ln l) = Vw l x.Size from by funext ⟨k,i⟩; simp only [QaM,Vw]; cases decide (i < ln l) <;> cases inb l i <;> rfl,hv]; rfl
 have hsf : Qc0 l x.Size = some (bif decide (v < 0) then 0 else (gt l v).Id):=by
  unfold Qc0
  rw [hv]
  rcases hq with rfl | ⟨j,_,hjl,rfl⟩
  ·rfl
  ·simp only [Option.bind_some,decide_eq_false (show ¬ (j : Int) < 0 by omega),cond_false,Qe hjl,Qa]
 unfold QdZ QbR Xj
 simp only [hrm,Qa,c1,c2,t1,t2,hf,hsf,Qle l x.Id hl,Qf2 l x.Id hl,Option.bind_some]
 cases c with
 | false=>exact ⟨(l,false),rfl,rfl,rfl,fun h=>by cases h⟩
 | true =>
  obtain ⟨s1,s2,s3⟩:=c3 rfl
  cases t with
  | false=>exact ⟨(l,false),rfl,rfl,rfl,fun h=>by cases h⟩
  | true =>
   rcases hq with rfl | ⟨k,_,hk,rfl⟩
   ·exact ⟨(l,false),rfl,rfl,rfl,fun h=>by cases h⟩
   ·have hid : 1 ≤ l[k].Id:=s2 _ (List.getElem_mem hk)
    have hsame : (!decide ((bif decide (x.Id = 0) || decide (QaG l x.Id < 0) then (0 : Int) else (gt l (QaG l x.Id)).Id) = 0)) = decide (0 ≤ (bif decide (x.Id = 0) then (-1 : Int) else QaG l x.Id)):=by
     cases decide (x.Id = 0) with
     | true=>rfl
     | false =>
      rcases Qen l x.Id with ⟨_,h2⟩ | ⟨j,hj,h2,_,_⟩
      ·rw [h2]; rfl
      ·rw [h2]
       have:=s2 _ (List.getElem_mem hj)
       simp only [Bool.false_or,decide_eq_false (show ¬ (j : Int) < 0 by omega),cond_false,Qm hj,decide_eq_false (show ¬ l[j].Id = 0 by omega),decide_eq_true (show (0 : Int) ≤ (j : Int) by omega)]; rfl
    simp only [Bool.not_true,cond_false,decide_eq_false (show ¬ (k : Int) < 0 by omega),Qm hk,Qe hk,Qa,decide_eq_false (show ¬ l[k].Id = 0 by omega),Int.toNat_natCast,Option.bind_some,hsame]
    cases decide (0 ≤ (bif decide (x.Id = 0) then (-1 : Int) else QaG l x.Id)) with
    | true=>exact ⟨(l,false),rfl,rfl,rfl,fun h=>by cases h⟩
    | false =>
     have hr:=XP (step:=JO x l[k].Id) (fun i=>(if i ≤ k then l else l.set k ⟨l[k].Id,l[k].Size,x.Id⟩,(i : Int))) (r:=l.set k ⟨l[k].Id,l[k].Size,x.Id⟩) l.length (fun i hi=>by
       have hw:=QD (show (i : Int) < 9223372036854775807 by omega)
       by_cases hik : i < k
       ·have hne : ¬ l[i].Id = l[k].Id:=fun e=>by have:=Qfr l s3 i k hi hk e; omega
        simp only [JO,if_pos (show i ≤ k by omega),if_pos (show i + 1 ≤ k by omega),Qt hi,Qe hi,Qm hi,hw,decide_eq_false hne,cond_true,cond_false,Qa]
       ·by_cases hek : i = k
        ·subst hek
         simp only [JO,if_pos (Nat.le_refl i),if_neg (show ¬ i + 1 ≤ i by omega),Qt hi,Qe hi,Qm hi,hw,decide_true,cond_true,Qa,Int.toNat_natCast]
        ·have hne : ¬ l[i].Id = l[k].Id:=fun e=>by have:=Qfr l s3 i k hi hk e; omega
         have hi' : i < (l.set k ⟨l[k].Id,l[k].Size,x.Id⟩).length:=by rw [List.length_set]; exact hi
         have hg : gt (l.set k ⟨l[k].Id,l[k].Size,x.Id⟩) (i : Int) = l[i]:=by rw [Qo1 l k _ i hi,if_neg hek,Qm hi]
         simp only [JO,if_neg (show ¬ i ≤ k by omega),if_neg (show ¬ i + 1 ≤ k by omega),Qt hi',Qe hi',hg,hw,decide_eq_false hne,cond_true,cond_false,Qa])
      (by
       simp only [JO,if_neg (show ¬ l.length ≤ k by omega)]
       rw [show decide ((l.length : Int) < ln (l.set k ⟨l[k].Id,l[k].Size,x.Id⟩)) = false from decide_eq_false (by rw [VA,List.length_set]; omega)]
       rfl)
     simp only [cond_false,show run (JO x l[k].Id) (l,0) = some (l.set k ⟨l[k].Id,l[k].Size,x.Id⟩) from hr,Option.bind_some]
     exact ⟨_,rfl,rfl,List.length_set,fun _=>⟨t3 rfl,_,List.mem_iff_getElem.2 ⟨k,by simpa using hk,List.getElem_set_self (by simpa using hk)⟩,rfl⟩⟩
theorem QAr (l : List Slot) (x : Thing) (hl : l.length ≤ 1048576) : ∃ r,QdZ l x = some r ∧ QbR l x = some r ∧ r.1.length = l.length:=by
 obtain ⟨r,r1,r2,r3,_⟩:=QxJ l x hl
 exact ⟨r,r1,r2,r3⟩
theorem QyD (h : House) (f : Find) (m : List Mark) (s : Int) (hm : Qf h) (hk : m.length ≤ 1048576) : ∃ r,ZP h f m s = some r ∧ Qb5 h f m s = some r ∧ Qf r.1:=by
 have hm7:=hm
 obtain ⟨m1,m2,m3,m4,m5,m6,m7⟩:=hm7
 obtain ⟨a,a1,a2,a3⟩:=QBz h.Finds f m1
 obtain ⟨b,b1,b2,b3⟩:=QuG h.Secrets ⟨f.Thing.Id,m,s⟩ m2 hk
 obtain ⟨c,c1,c2,c3⟩:=QAr h.Slots f.Thing m3
 obtain ⟨d,d1,d2,d3⟩:=QtH h.Chain ⟨f.Thing.Id,2,h.No,h.Now,0⟩ m6
 have w : Qf ⟨h.No,a.1,b.1,c.1,h.Claims,h.Trials,d.1,h.Book,h.Now⟩:=⟨a3,b3,by show c.1.length ≤ _; omega,m4,m5,d3,m7⟩
 refine ⟨QbV h ⟨h.No,a.1,b.1,c.1,h.Claims,h.Trials,d.1,h.Book,h.Now⟩ (a.2 && (b.2 && (c.2 && d.2))),?_,?_,Qab _ _ _ hm w⟩
 ·unfold ZP
  simp only [V5 h hm,a1,b1,c1,d1,QcD h _ _ hm w,Option.bind_some]
  cases a.2 <;> cases b.2 <;> cases c.2 <;> rfl
 ·unfold Qb5
  simp only [JN h hm,a2,b2,c2,d2,Qbh h _ _ hm w (show [a.2,b.2,c.2,d.2].length ≤ 1048576 by simp),Option.bind_some,List.all_cons,List.all_nil,Bool.and_true,id_eq]
end Go.Proofs.YtonidbheohhgdaaGreat
namespace Go.Proofs.YtonidbheohhgdaaGreat
open Go
set_option linter.unusedVariables false
set_option linter.unusedSimpArgs false
theorem QeY (l : List Claim) (hl : l.length ≤ 2097152) (h : QS l = some true) : ∀ i (hi : i < l.length) (h0 : 0 < i),(l[i - 1]'(by omega)).Id < l[i].Id:=by
 intro i hi h0
 have ho:=(Qfu l h hl).2 i hi
 unfold Qdm at ho
 simp only [Bool.and_eq_true,Bool.or_eq_true,Qm hi,Qm (show i - 1 < l.length by omega)] at ho
 have:=ho.2.2.2.2.2.1
 simp at this
 omega
theorem Qxh {α : Type} [Inhabited α] (key : α → Int) (l : List α) (k : Nat) (hk : k ≤ l.length) (x : α) (up : ∀ i (hi : i < (Q6 l (k : Int) [x]).length) (h0 : 0 < i),key ((Q6 l (k : Int) [x])[i - 1]'(by omega)) < key (Q6 l (k : Int) [x])[i]) (j : Nat) (hj : j < l.length) : if j < k then key l[j] < key x else key x < key l[j]:=by
 have hlen:=QeG l k hk x
 have hu:=Qnp (n:=(Q6 l (k : Int) [x]).length) (fun i=>key (gt (Q6 l (k : Int) [x]) (i : Int))) (fun i h1 h2=>by
  show key (gt (Q6 l (k : Int) [x]) ((i - 1 : Nat) : Int)) < key (gt (Q6 l (k : Int) [x]) (i : Int))
  rw [Qm h1,Qm (show i - 1 < (Q6 l (k : Int) [x]).length by omega)]; exact up i h1 h2)
 have g1 : gt (Q6 l (k : Int) [x]) (k : Int) = x:=by
  have hlt : k < (Q6 l (k : Int) [x]).length:=by omega
  rw [Qm hlt]
  have:=Qrx l k hk x
  rw [List.getElem?_eq_getElem hlt] at this
  exact Option.some.inj this
 have hidx : (if j < k then j else j + 1) < (Q6 l (k : Int) [x]).length:=by split <;> omega
 have g2 : gt (Q6 l (k : Int) [x]) ((if j < k then j else j + 1 : Nat) : Int) = l[j]:=by
  rw [Qm hidx]
  have:=QsJ l k hk x j hj
  rw [List.getElem?_eq_getElem hidx] at this
  exact Option.some.inj this
 by_cases h : j < k
 ·have:=hu k (if j < k then j else j + 1) (by rw [if_pos h]; exact h) (by omega)
  simp only [g1,g2] at this; rw [if_pos h]; exact this
 ·have:=hu (if j < k then j else j + 1) k (by rw [if_neg h]; omega) hidx
  simp only [g1,g2] at this; rw [if_neg h]; exact this
theorem Qz4 {α : Type} [Inhabited α] (key : α → Int) (l : List α) (k1 k2 : Nat) (h1 : k1 ≤ l.length) (h2 : k2 ≤ l.length) (x : α)
  (a1 : ∀ j (hj : j < l.length),k1 ≤ j → ¬ key l[j] < key x) (a2 : ∀ (h : 0 < k1),key (l[k1 - 1]'(by omega)) < key x)
  (b1 : ∀ j (hj : j < l.length),j < k2 → key l[j] < key x) (b2 : ∀ (h : k2 < l.length),¬ key l[k2] < key x)
  (up : (∀ i (hi : i < (Q6 l (k1 : Int) [x]).length) (h0 : 0 < i),key ((Q6 l (k1 : Int) [x])[i - 1]'(by omega)) < key (Q6 l (k1 : Int) [x])[i]) ∨ (∀ i (hi : i < (Q6 l (k2 : Int) [x]).length) (h0 : 0 < i),key ((Q6 l (k2 : Int) [x])[i - 1]'(by omega)) < key (Q6 l (k2 : Int) [x])[i])) : k1 = k2:=by
 rcases up with up | up
 ·have hj:=Qxh key l k1 h1 x up
  by_cases h : k1 < k2
  ·exact absurd (b1 k1 (by omega) h) (a1 k1 (by omega) (Nat.le_refl _))
  ·by_cases h' : k2 < k1
   ·have:=hj k2 (by omega)
    rw [if_pos h'] at this
    exact absurd this (b2 (by omega))
   ·omega
 ·have hj:=Qxh key l k2 h2 x up
  by_cases h : k1 < k2
  ·exact absurd (b1 k1 (by omega) h) (a1 k1 (by omega) (Nat.le_refl _))
  ·by_cases h' : k2 < k1
   ·have h3:=hj (k1 - 1) (by omega)
    rw [if_neg (by omega)] at h3
    have h4:=a2 (by omega)
    omega
   ·omega
theorem Qno {n : Nat} (p : Nat → Bool) {step : Int → Option (Int ⊕ Int)} (h1 : ∀ i,i < n → step (i : Int) = some (bif p i then .inl ((i + 1 : Nat) : Int) else .inr (i : Int))) (h2 : step (n : Int) = some (.inr (n : Int))) : ∃ k : Nat,k ≤ n ∧ run step 0 = some (k : Int) ∧ (∀ j,j < k → p j = true) ∧ (k < n → p k = false):=by
 have key : ∀ (m i : Nat),i + m = n → (∀ j,j < i → p j = true) → ∃ k : Nat,k ≤ n ∧ run step (i : Int) = some (k : Int) ∧ (∀ j,j < k → p j = true) ∧ (k < n → p k = false):=by
  intro m
  induction m with
  | zero =>
   intro i hi hp
   have : i = n:=by omega
   subst this
   exact ⟨i,Nat.le_refl _,by rw [Qh,h2]; rfl,hp,fun h=>by omega⟩
  | succ m ih =>
   intro i hi hp'
   cases hp : p i with
   | false=>exact ⟨i,by omega,by rw [Qh,h1 i (by omega),hp]; rfl,hp',fun _=>hp⟩
   | true =>
    obtain ⟨k,k1,k2,k3⟩:=ih (i + 1) (by omega) (fun j hj=>by
     by_cases hji : j = i
     ·subst hji; exact hp
     ·exact hp' j (by omega))
    exact ⟨k,k1,by rw [Qh,h1 i (by omega),hp]; exact k2,k3⟩
 exact key n 0 (by omega) (fun j hj=>by omega)
def QbX (l : List Claim) (id : Int) : Nat → Nat
 | 0=>0
 | n + 1=>bif decide ((gt l (n : Int)).Id < id) then n + 1 else QbX l id n
theorem QnG (l : List Claim) (id : Int) : ∀ n,QbX l id n ≤ n
 | 0=>Nat.le_refl _
 | n + 1=>by
  have:=QnG l id n
  unfold QbX
  cases decide ((gt l (n : Int)).Id < id) <;> simp <;> omega
theorem QnA (l : List Claim) (id : Int) : ∀ n j,QbX l id n ≤ j → j < n → ¬ (gt l (j : Int)).Id < id
 | 0,j,_,h=>by omega
 | n + 1,j,h1,h2=>by
  unfold QbX at h1
  cases hd : decide ((gt l (n : Int)).Id < id) with
  | true=>rw [hd] at h1; simp at h1; omega
  | false =>
   rw [hd] at h1
   by_cases hj : j = n
   ·subst hj; exact of_decide_eq_false hd
   ·exact QnA l id n j h1 (by omega)
theorem Qnq (l : List Claim) (id : Int) : ∀ n,0 < QbX l id n → (gt l ((QbX l id n - 1 : Nat) : Int)).Id < id
 | 0,h=>by simp [QbX] at h
 | n + 1,h=>by
  unfold QbX at h ⊢
  cases hd : decide ((gt l (n : Int)).Id < id) with
  | true=>simp only [cond_true,Nat.add_sub_cancel]; exact of_decide_eq_true hd
  | false=>rw [hd] at h; exact Qnq l id n h
theorem QvR (l : List Claim) (x : Claim) (hl : l.length ≤ 1048576) : ∃ r,Qb6 l x = some r ∧ Qcf l x = some r ∧ r.1.length ≤ 1048576 ∧
  (r.2 = true → ∃ k : Nat,k ≤ l.length ∧ r.1 = Q6 l (k : Int) [x] ∧ ZW r.1 x.Id = (k : Int) ∧ (∀ j (hj : j < l.length),j < k → l[j].Id < x.Id) ∧ (∀ j (hj : j < l.length),k ≤ j → ¬ l[j].Id < x.Id)):=by
 have hs:=XP (step:=Qad l x) (fun i=>(((QbX l x.Id i : Nat) : Int),(!decide (x.State = 0)) || (l.take i).any (fun y=>decide (y.Who = x.Who) && decide (y.Thing = x.Thing)),(i : Int)))
  (r:=(((QbX l x.Id l.length : Nat) : Int),(!decide (x.State = 0)) || l.any (fun y=>decide (y.Who = x.Who) && decide (y.Thing = x.Thing)))) l.length (fun i hi=>by
   have hw:=QD (show (i : Int) < 9223372036854775807 by omega)
   have hany : (l.take (i + 1)).any (fun y=>decide (y.Who = x.Who) && decide (y.Thing = x.Thing)) = ((l.take i).any (fun y=>decide (y.Who = x.Who) && decide (y.Thing = x.Thing)) || (decide (l[i].Who = x.Who) && decide (l[i].Thing = x.Thing))):=by
    rw [List.take_succ_eq_append_getElem hi,List.any_append]; simp
   have ha : QbX l x.Id (i + 1) = bif decide (l[i].Id < x.Id) then i + 1 else QbX l x.Id i:=by
    rw [QbX,Qm hi]
   simp only [Qad,Qt hi,Qe hi,Qm hi,hw,cond_true,Qa,hany,ha]
   generalize (l.take i).any (fun y=>decide (y.Who = x.Who) && decide (y.Thing = x.Thing)) = q
   cases decide (x.State = 0) <;> cases q <;> cases (decide (l[i].Who = x.Who) && decide (l[i].Thing = x.Thing)) <;> cases decide (l[i].Id < x.Id) <;> rfl)
  (by simp only [Qad,Qx (Nat.le_refl _),cond_false,List.take_length])
 have hs' : run (Qad l x) (0,(!decide (x.State = 0)),0) = some (((QbX l x.Id l.length : Nat) : Int),(!decide (x.State = 0)) || l.any (fun y=>decide (y.Who = x.Who) && decide (y.Thing = x.Thing))):=by
  have : ((!decide (x.State = 0)) || (l.take 0).any (fun y=>decide (y.Who = x.Who) && decide (y.Thing = x.Thing))) = !decide (x.State = 0):=by simp
  rw [this] at hs; exact hs
 have hk1:=QnG l x.Id l.length
 have hhi:=QnA l x.Id l.length
 have hlo:=Qnq l x.Id l.length
 generalize QbX l x.Id l.length = k1 at hs' hk1 hhi hlo
 obtain ⟨k2,hk2,hr,hf1,hf2⟩:=Qno (n:=l.length) (fun i=>decide ((gt l (i : Int)).Id < x.Id)) (step:=Ze l x l)
  (fun i hi=>by
   simp only [Ze,Qt hi,Qe hi,QD (show (i : Int) < 9223372036854775807 by omega),cond_true,Qa,Option.bind_some]
   cases decide ((gt l (i : Int)).Id < x.Id) <;> rfl)
  (by simp only [Ze,Qx (Nat.le_refl _),cond_false]; rfl)
 have A1 : ∀ j (hj : j < l.length),k1 ≤ j → ¬ l[j].Id < x.Id:=fun j hj h=>by have:=hhi j h hj; rw [Qm hj] at this; exact this
 have A2 : ∀ (h : 0 < k1),(l[k1 - 1]'(by omega)).Id < x.Id:=fun h=>by have:=hlo h; rw [Qm (show k1 - 1 < l.length by omega)] at this; exact this
 have B1 : ∀ j (hj : j < l.length),j < k2 → l[j].Id < x.Id:=fun j hj h=>by have:=hf1 j h; simp only [Qm hj,decide_eq_true_eq] at this; exact this
 have B2 : ∀ (h : k2 < l.length),¬ l[k2].Id < x.Id:=fun h=>by have:=hf2 h; simp only [Qm h,decide_eq_false_iff_not] at this; exact this
 have hl1:=QeG l k1 hk1 x
 have hl2:=QeG l k2 hk2 x
 obtain ⟨b,b1,b2,_⟩:=QhI (Q6 l (k1 : Int) [x]) (by omega)
 obtain ⟨c,c1,c2,_⟩:=QhI (Q6 l (k2 : Int) [x]) (by omega)
 have hone : b = true ∨ c = true → k1 = k2:=fun h=>Qz4 (fun y : Claim=>y.Id) l k1 k2 hk1 hk2 x A1 A2 B1 B2 (by
  rcases h with rfl | rfl
  ·exact .inl (QeY _ (by omega) b1)
  ·exact .inr (QeY _ (by omega) c1))
 have hbc : b = c:=by
  cases hb : b with
  | true =>
   have:=hone (.inl hb)
   subst this
   rw [b1,hb] at c1; exact Option.some.inj c1
  | false=>cases hc : c with
   | false=>rfl
   | true =>
    have:=hone (.inr hc)
    subst this
    rw [c1,hc] at b1; rw [hb] at b1; cases b1
 have hi:=XH l (fun y=>decide (y.Who = x.Who) && decide (y.Thing = x.Thing)) (fun i=>(i : Int)) (step:=Qz l x (ln l))
  (fun i hi=>by
   simp only [Qz,Qck,Qt hi,Qe hi,Qm hi,QD (show (i : Int) < 9223372036854775807 by omega),cond_true,Qa,Option.bind_some]
   cases (decide (l[i].Who = x.Who) && decide (l[i].Thing = x.Thing)) <;> rfl)
  (by simp only [Qz,Qx (Nat.le_refl _),cond_false])
 have hc : QO l x = some (l.any (fun y=>decide (y.Who = x.Who) && decide (y.Thing = x.Thing))):=by
  unfold QO Vq
  rw [hi]
  cases hf : l.findIdx? (fun y=>decide (y.Who = x.Who) && decide (y.Thing = x.Thing)) with
  | none =>
   have : l.any (fun y=>decide (y.Who = x.Who) && decide (y.Thing = x.Thing)) = false:=by
    rw [List.any_eq_false]
    intro y hy
    have:=List.findIdx?_eq_none_iff.1 hf y hy
    simpa using this
   rw [this]; rfl
  | some i =>
   obtain ⟨hi',hp⟩:=ZZ hf
   rw [List.any_eq_true.2 ⟨_,List.getElem_mem hi',hp⟩]
   simp only [Option.bind_some,evO,decide_eq_true (show (0 : Int) ≤ (i : Int) by omega)]
 have hrm : rm (0 + l.length) 40 = true:=Vz (by omega) (by omega)
 have hrm1 : rm (0 + (cut l 0 (k1 : Int)).length) 40 = true:=Vz (by rw [XN,List.length_take]; omega) (by omega)
 have hrm2 : rm ((cut l 0 (k1 : Int)).length + 1) 40 = true:=Vz (by rw [XN,List.length_take]; omega) (by omega)
 have hrm3 : rm ((cut l 0 (k1 : Int)).length + 1 + (cut l (k1 : Int) (ln l)).length) 40 = true:=Vz (by rw [XN,Qd2,List.length_take,List.length_drop]; omega) (by omega)
 have hspec : Qb6 l x = some (bif ((!decide (x.State = 0)) || l.any (fun y=>decide (y.Who = x.Who) && decide (y.Thing = x.Thing))) || !b then (l,false) else (Q6 l (k1 : Int) [x],true)):=by
  unfold Qb6
  simp only [hs',Option.bind_some]
  rw [show slB 0 (k1 : Int) (ln l) = true from Qfp hk1,show slB (k1 : Int) (ln l) (ln l) = true from Qh8 hk1]
  simp only [Qa,hrm,hrm1,hrm2,hrm3,QiS,b1,Option.bind_some]
  cases ((!decide (x.State = 0)) || l.any (fun y=>decide (y.Who = x.Who) && decide (y.Thing = x.Thing))) <;> cases b <;> rfl
 have hdup : ∀ j : Nat,∀ hj : j < l.length,l[j].Id = x.Id → b = true → False:=fun j hj he hb=>by
  subst hb
  exact Qob (fun y : Claim=>y.Id) l k1 hk1 x (QeY _ (by omega) b1) j hj he
 refine ⟨_,hspec,?_,?_,?_⟩
 ·unfold Qcf Vk
  simp only [hrm,Qa,Option.bind_some,QhM l x.Id hl,hc,hr,Qla l k2 hk2 x 40 hl (by omega),c2]
  rw [← hbc]
  cases hb : b with
  | false =>
   cases decide (x.State = 0) <;> cases decide (0 ≤ ZW l x.Id) <;> cases l.any (fun y=>decide (y.Who = x.Who) && decide (y.Thing = x.Thing)) <;> rfl
  | true =>
   have hk:=hone (.inl hb)
   rcases Qfl l x.Id with h | ⟨j,hj,h,hid⟩
   ·rw [h,← hk]
    cases decide (x.State = 0) <;> cases l.any (fun y=>decide (y.Who = x.Who) && decide (y.Thing = x.Thing)) <;> rfl
   ·exact absurd hb (fun hb=>hdup j hj hid hb)
 ·cases hb : b with
  | true =>
   subst hb
   have:=(Qfu _ b1 (by omega)).1
   cases (((!decide (x.State = 0)) || l.any (fun y=>decide (y.Who = x.Who) && decide (y.Thing = x.Thing))) || !true) with
   | true=>exact hl
   | false=>show (Q6 l (k1 : Int) [x]).length ≤ _; omega
  | false=>rw [Bool.not_false,Bool.or_true]; exact hl
 ·intro h
  have hb : b = true:=by
   cases hb : b with
   | true=>rfl
   | false=>rw [hb,Bool.not_false,Bool.or_true] at h; cases h
  have hq : (((!decide (x.State = 0)) || l.any (fun y=>decide (y.Who = x.Who) && decide (y.Thing = x.Thing))) || !b) = false:=by
   cases hq : (((!decide (x.State = 0)) || l.any (fun y=>decide (y.Who = x.Who) && decide (y.Thing = x.Thing))) || !b) with
   | false=>rfl
   | true=>rw [hq] at h; cases h
  rw [hq]
  refine ⟨k1,hk1,rfl,?_,?_,A1⟩
  ·subst hb
   have hup:=QeY _ (by omega) b1
   have hlt : k1 < (Q6 l (k1 : Int) [x]).length:=by omega
   have hx : (Q6 l (k1 : Int) [x])[k1] = x:=by
    have:=Qrx l k1 hk1 x
    rw [List.getElem?_eq_getElem hlt] at this
    exact Option.some.inj this
   obtain ⟨j,hj,h1,h2⟩:=Qgg (Q6 l (k1 : Int) [x]) x.Id k1 hlt (by rw [hx])
   show ZW (Q6 l (k1 : Int) [x]) x.Id = _
   rw [h1]
   have hu:=Qnp (n:=(Q6 l (k1 : Int) [x]).length) (fun i=>(gt (Q6 l (k1 : Int) [x]) (i : Int)).Id) (fun i h1 h2=>by
    show (gt (Q6 l (k1 : Int) [x]) ((i - 1 : Nat) : Int)).Id < (gt (Q6 l (k1 : Int) [x]) (i : Int)).Id
    rw [Qm h1,Qm (show i - 1 < (Q6 l (k1 : Int) [x]).length by omega)]; exact hup i h1 h2)
   by_cases h3 : j < k1
   ·have:=hu k1 j h3 hlt
    simp only [Qm hj,Qm hlt,h2,hx] at this; omega
   ·by_cases h4 : k1 < j
    ·have:=hu j k1 h4 hj
     simp only [Qm hj,Qm hlt,h2,hx] at this; omega
    ·congr 1; omega
  ·intro j hj hjk
   have hk:=hone (.inl hb)
   exact B1 j hj (by omega)
theorem QFn (h out : House) (ok : Bool) (hm : Qf h) (hb : Jf h = false) : Qp h out ok = some (h,false):=by
 unfold Qp
 simp only [(XF h hm).1,hb,V5 h hm,Option.bind_some]
 cases ok <;> rfl
theorem QJM (h out : House) (hm : Qf h) : Qp h out false = some (h,false):=by
 unfold Qp
 simp only [V5 h hm,Option.bind_some]
 rfl
theorem Qye (h : House) (out : House) (hm : Qf h) (ho : Qf out) : QaJ h out = some (QbV h out true):=by
 unfold QaJ QbV
 have : VO [] false = some false:=by rw [QlU [] (by simp)]; rfl
 simp only [this,(XF h hm).2,(XF out ho).2,JN h hm,Option.bind_some]
 cases Jf h <;> cases Jf out <;> rfl
theorem Qvw (h : House) (m1 : h.Finds.length ≤ 1048576) (m2 : h.Secrets.length ≤ 1048576) (mm : ∀ x ∈ h.Secrets,x.Marks.length ≤ 1048576) (m4 : h.Claims.length ≤ 1048576) (ht : VL h = some true) : ∀ i (hi : i < h.Claims.length) (hi2 : i < h.Trials.length),h.Trials[i].Claim = h.Claims[i].Id:=by
 have hlen:=Qeg h ht
 unfold VL at ht
 rw [show (!decide (ln h.Trials = ln h.Claims)) = false from by rw [VA,VA,hlen]; simp] at ht
 have hstep : ∀ i (hi : i < h.Claims.length) (hi2 : i < h.Trials.length),∃ o,QR h h.Claims (ln h.Claims) (i : Int) = some o ∧ (o = .inl ((i + 1 : Nat) : Int) ∨ o = .inr (.ret false)) ∧ (o = .inl ((i + 1 : Nat) : Int) → h.Trials[i].Claim = h.Claims[i].Id):=by
  intro i hi hi2
  obtain ⟨t,_,t2⟩:=QiI h.Trials[i]
  obtain ⟨m,_,k2,k3⟩:=Qk5 h.Secrets h.Claims[i].Thing m2 mm
  obtain ⟨c,_,s2⟩:=Qd8 m h.Trials[i] k3
  have hw : ∃ w,Jt h.Claims[i].State = some w:=by
   unfold Jt
   cases decide (h.Claims[i].State = 0) <;> cases decide (h.Claims[i].State = 1) <;> cases decide (h.Claims[i].State = 3) <;> cases decide (h.Claims[i].State = 2) <;> exact ⟨_,rfl⟩
  obtain ⟨w,hw⟩:=hw
  simp only [QR,Qt hi,Qe hi,Qm hi,Qe hi2,Qm hi2,QD (show (i : Int) < 9223372036854775807 by omega),cond_true,Qa,t2,k2,s2,hw,(VZ h.Finds _ m1).2,Option.bind_some]
  by_cases hc : h.Trials[i].Claim = h.Claims[i].Id
  ·cases decide (Xg h.Finds h.Claims[i].Thing < 0) <;> cases decide (h.Trials[i].Claim = h.Claims[i].Id) <;> cases t <;> cases decide (c = w) <;> first | exact ⟨_,rfl,.inl rfl,fun _=>hc⟩ | exact ⟨_,rfl,.inr rfl,fun _=>hc⟩
  ·rw [decide_eq_false hc]
   cases decide (Xg h.Finds h.Claims[i].Thing < 0) <;> cases t <;> exact ⟨_,rfl,.inr rfl,fun h=>by cases h⟩
 have key : ∀ (m i : Nat),i + m = h.Claims.length → run (QR h h.Claims (ln h.Claims)) (i : Int) = some (.brk ()) ∨ run (QR h h.Claims (ln h.Claims)) (i : Int) = some (.ret false):=by
  intro m
  induction m with
  | zero =>
   intro i hi
   have : i = h.Claims.length:=by omega
   subst this
   left
   rw [Qh]
   simp only [QR,Qx (Nat.le_refl _),cond_false]; rfl
  | succ m ih =>
   intro i hi
   obtain ⟨o,h1,h2,_⟩:=hstep i (by omega) (by omega)
   rw [Qh,h1]
   rcases h2 with rfl | rfl
   ·exact ih (i + 1) (by omega)
   ·exact .inr rfl
 have key2 : ∀ (m i : Nat),i + m = h.Claims.length → run (QR h h.Claims (ln h.Claims)) (i : Int) = some (.brk ()) → ∀ j (hj : j < h.Claims.length) (hj2 : j < h.Trials.length),i ≤ j → h.Trials[j].Claim = h.Claims[j].Id:=by
  intro m
  induction m with
  | zero=>intro i hi _ j hj _ hij; omega
  | succ m ih =>
   intro i hi hr j hj hj2 hij
   obtain ⟨o,h1,h2,h3⟩:=hstep i (by omega) (by omega)
   rw [Qh,h1] at hr
   rcases h2 with rfl | rfl
   ·by_cases hij' : i = j
    ·subst hij'; exact h3 rfl
    ·exact ih (i + 1) (by omega) hr j hj hj2 (by omega)
   ·simp at hr
 intro i hi hi2
 rcases key h.Claims.length 0 (by omega) with hr | hr
 ·exact key2 h.Claims.length 0 (by omega) hr i hi hi2 (by omega)
 ·rw [show run (QR h h.Claims (ln h.Claims)) 0 = some (.ret false) from hr] at ht
  cases ht
theorem QuH (h : House) (a w t : Int) (hm : Qf h) : ∃ r,Jv h a w t = some r ∧ Qbp h a w t = some r ∧ Qf r.1:=by
 have hm7:=hm
 obtain ⟨m1,m2,m3,m4,m5,m6,m7⟩:=hm7
 obtain ⟨c,c1,c2,c3,c4⟩:=QvR h.Claims ⟨a,w,t,h.Now,0⟩ m4
 obtain ⟨v,v1,v2⟩:=Qbv h.Slots t m3
 obtain ⟨k,hk,hr,hf1,hf2⟩:=Qno (n:=h.Trials.length) (fun i=>decide ((gt h.Trials (i : Int)).Claim < a)) (step:=Qbf a t h ⟨h.No,h.Finds,h.Secrets,h.Slots,c.1,h.Trials,h.Chain,h.Book,h.Now⟩ c.2)
  (fun i hi=>by
   simp only [Qbf,Qt hi,Qe hi,QD (show (i : Int) < 9223372036854775807 by omega),cond_true,Qa,Option.bind_some]
   cases decide ((gt h.Trials (i : Int)).Claim < a) <;> rfl)
  (by simp only [Qbf,Qx (Nat.le_refl _),cond_false]; rfl)
 have hrm1 : rm (cut h.Trials 0 (k : Int)).length 32 = true:=Vz (by rw [XN,List.length_take]; omega) (by omega)
 have hrm2 : rm ((cut h.Trials 0 (k : Int)).length + 1) 32 = true:=Vz (by rw [XN,List.length_take]; omega) (by omega)
 have hrm3 : rm ((cut h.Trials 0 (k : Int)).length + 1 + (cut h.Trials (k : Int) (ln h.Trials)).length) 32 = true:=Vz (by rw [XN,Qd2,List.length_take,List.length_drop]; omega) (by omega)
 have hspec : Jv h a w t = bif c.2 then (JC h.Slots t).bind fun r3=>Qp h ⟨h.No,h.Finds,h.Secrets,h.Slots,c.1,Q6 h.Trials (k : Int) [⟨a,0,0,0⟩],h.Chain,h.Book,h.Now⟩ (!decide (r3 = 0)) else some (h,false):=by
  unfold Jv
  simp only [V5 h hm,c1,Option.bind_some,hr]
  rw [show slB 0 (k : Int) (ln h.Trials) = true from Qfp hk,show slB (k : Int) (ln h.Trials) (ln h.Trials) = true from Qh8 hk]
  simp only [Qa,hrm1,hrm2,hrm3,QiS]
  cases c.2 with
  | false=>simp only [cond_false,QJM h _ hm,Option.bind_some]
  | true =>
   simp only [cond_true,Qle h.Slots t m3,Option.bind_some]
   cases Qp h ⟨h.No,h.Finds,h.Secrets,h.Slots,c.1,Q6 h.Trials (k : Int) [⟨a,0,0,0⟩],h.Chain,h.Book,h.Now⟩ (!decide ((bif decide (t = 0) || decide (QaG h.Slots t < 0) then (0 : Int) else (gt h.Slots (QaG h.Slots t)).Id) = 0)) <;> rfl
 rw [hspec]
 unfold Qbp
 simp only [JN h hm,c2,Option.bind_some,(XF h hm).2,v1]
 cases hc : c.2 with
 | false=>exact ⟨(h,false),rfl,rfl,hm⟩
 | true =>
  simp only [cond_true,Bool.not_true,cond_false,Qle h.Slots t m3,Option.bind_some]
  cases hb : Jf h with
  | false =>
   rw [QFn h _ _ hm hb]
   exact ⟨(h,false),rfl,rfl,hm⟩
  | true =>
   have ho:=QgW h hm hb
   have hcl:=Qfu _ ho.cS (by omega)
   have htl:=Qeg h ho.trials
   obtain ⟨k2,hk2,hins,hix,hlo,hhi⟩:=c4 hc
   have hids:=Qvw h m1 m2.1 (fun x hx=>m2.2 x hx) m4 ho.trials
   have hkk : k = k2:=by
    by_cases h1 : k < k2
    ·have:=hf2 (by omega)
     simp only [Qm (show k < h.Trials.length by omega),decide_eq_false_iff_not] at this
     rw [hids k (by omega) (by omega)] at this
     exact absurd (hlo k (by omega) h1) this
    ·by_cases h2 : k2 < k
     ·have:=hf1 k2 h2
      simp only [Qm (show k2 < h.Trials.length by omega),decide_eq_true_eq] at this
      rw [hids k2 (by omega) (by omega)] at this
      exact absurd this (hhi k2 (by omega) (Nat.le_refl _))
     ·omega
   have hil:=QeG h.Trials k hk (⟨a,0,0,0⟩ : Trial)
   have wo : Qf ⟨h.No,h.Finds,h.Secrets,h.Slots,c.1,Q6 h.Trials (k : Int) [⟨a,0,0,0⟩],h.Chain,h.Book,h.Now⟩:=⟨m1,m2,m3,c3,by show (Q6 h.Trials (k : Int) [⟨a,0,0,0⟩]).length ≤ _; omega,m6,m7⟩
   have hslot : (!decide ((bif decide (t = 0) || decide (QaG h.Slots t < 0) then (0 : Int) else (gt h.Slots (QaG h.Slots t)).Id) = 0)) = XT h.Slots t:=by
    unfold XT
    cases decide (t = 0) with
    | true=>rfl
    | false =>
     rcases Qen h.Slots t with ⟨_,h2⟩ | ⟨j,hj,h2,_,_⟩
     ·rw [h2]; rfl
     ·rw [h2]
      have hs2 : 1 ≤ h.Slots[j].Id:=by
       obtain ⟨q,q1,_,q3⟩:=Ql4 h.Slots m3
       rw [ho.tS] at q1
       exact (q3 (Option.some.inj q1).symm).2 _ (List.getElem_mem hj)
      simp only [Bool.false_or,decide_eq_false (show ¬ (j : Int) < 0 by omega),cond_false,Qm hj,decide_eq_false (show ¬ h.Slots[j].Id = 0 by omega)]
   rw [hslot,QcD h _ _ hm wo]
   refine ⟨_,rfl,?_,Qab _ _ _ hm wo⟩
   simp only [Bool.not_true,cond_false,Option.bind_some,v2]
   cases XT h.Slots t with
   | false=>rfl
   | true =>
    simp only [Bool.not_true,cond_false,QhM c.1 a c3,hix,Option.bind_some,← hkk,Qla h.Trials k hk (⟨a,0,0,0⟩ : Trial) 32 m5 (by omega),Qa,Qye h _ hm wo]
end Go.Proofs.YtonidbheohhgdaaGreat
namespace Go.Proofs.YtonidbheohhgdaaGreat
open Go
set_option linter.unusedVariables false
set_option linter.unusedSimpArgs false
def Qep (out : List Bid) (c : Int) : Nat → Nat
 | 0=>0
 | n + 1=>bif decide ((gt out (n : Int)).Cents < c) then Qep out c n else n + 1
theorem QoA (out : List Bid) (c : Int) : ∀ n,Qep out c n ≤ n
 | 0=>Nat.le_refl _
 | n + 1=>by
  have:=QoA out c n
  unfold Qep
  cases decide ((gt out (n : Int)).Cents < c) <;> simp <;> omega
def Jq (l : List Bid) : Nat → List Bid
 | 0=>[]
 | i + 1=>Q6 (Jq l i) ((Qep (Jq l i) (gt l (i : Int)).Cents i : Nat) : Int) [gt l (i : Int)]
theorem Qes (l : List Bid) : ∀ i,(Jq l i).length = i
 | 0=>rfl
 | i + 1=>by
  have h:=Qes l i
  unfold Jq
  rw [QeG _ _ (by rw [h]; exact QoA _ _ _),h]
theorem QsM {i : Nat} (h : (i : Int) < 9223372036854775807) : w64 (((i + 1 : Nat) : Int) - 1) = (i : Int):=by rw [Vj] <;> omega
theorem Qut (l : List Bid) (hl : l.length ≤ 1048576) : Qed l = some (Jq l l.length):=by
 have inner : ∀ (out : List Bid) (i : Nat) (hi : i < l.length) (ho : out.length ≤ 1048576) (n : Nat),n ≤ out.length → run (Qbm l out (i : Int)) (n : Int) = some ((Qep out (gt l (i : Int)).Cents n : Nat) : Int):=by
  intro out i hi ho n
  induction n with
  | zero =>
   intro _
   rw [Qh]
   simp only [Qbm,show decide (0 < ((0 : Nat) : Int)) = false from rfl,cond_false,Option.bind_some,Qep]
  | succ n ih =>
   intro hn
   rw [Qh]
   simp only [Qbm,show decide (0 < ((n + 1 : Nat) : Int)) = true from decide_eq_true (by omega),cond_true,QsM (show (n : Int) < 9223372036854775807 by omega),Qe (show n < out.length by omega),Qe hi,Qa,Option.bind_some,Qep]
   cases decide ((gt out (n : Int)).Cents < (gt l (i : Int)).Cents) with
   | true=>simp only [cond_true]; exact ih (by omega)
   | false=>rfl
 have hr:=XP (step:=ZH l) (fun i=>(Jq l i,(i : Int))) (r:=Jq l l.length) l.length (fun i hi=>by
   have hlen:=Qes l i
   have hp:=QoA (Jq l i) (gt l (i : Int)).Cents i
   have hin:=inner (Jq l i) i hi (by omega) (Jq l i).length (Nat.le_refl _)
   rw [hlen] at hin
   have hln : ln (Jq l i) = ((i : Nat) : Int):=by rw [VA,hlen]
   have e1 : slB 0 ((Qep (Jq l i) (gt l (i : Int)).Cents i : Nat) : Int) (i : Int) = true:=Qfp hp
   have e2 : slB ((Qep (Jq l i) (gt l (i : Int)).Cents i : Nat) : Int) (i : Int) (i : Int) = true:=Qh8 hp
   have c1 : (cut (Jq l i) 0 ((Qep (Jq l i) (gt l (i : Int)).Cents i : Nat) : Int)).length = Qep (Jq l i) (gt l (i : Int)).Cents i:=by rw [XN,List.length_take,hlen]; omega
   have c3 : (cut (Jq l i) ((Qep (Jq l i) (gt l (i : Int)).Cents i : Nat) : Int) (i : Int)).length = i - Qep (Jq l i) (gt l (i : Int)).Cents i:=by rw [← hln,Qd2,List.length_drop,hlen]
   simp only [ZH,Qt hi,cond_true,hln,hin,Option.bind_some,e1,e2,Qa,Qe hi,Vz (show 0 + (cut (Jq l i) 0 ((Qep (Jq l i) (gt l (i : Int)).Cents i : Nat) : Int)).length ≤ 2000000 by omega) (show 24 ≤ 1024 by omega),Vz (show (cut (Jq l i) 0 ((Qep (Jq l i) (gt l (i : Int)).Cents i : Nat) : Int)).length + 1 ≤ 2000000 by omega) (show 24 ≤ 1024 by omega),
    Vz (show (cut (Jq l i) 0 ((Qep (Jq l i) (gt l (i : Int)).Cents i : Nat) : Int)).length + 1 + (cut (Jq l i) ((Qep (Jq l i) (gt l (i : Int)).Cents i : Nat) : Int) (i : Int)).length ≤ 2000000 by omega) (show 24 ≤ 1024 by omega),QD (show (i : Int) < 9223372036854775807 by omega)]
   rw [← hln,QiS,hln]
   rfl)
  (by simp only [ZH,Qx (Nat.le_refl _),cond_false])
 unfold Qed
 rw [show run (ZH l) ([],0) = some (Jq l l.length) from hr]; rfl
theorem QxR (x y : Bid) : ∃ c,ZF x y = some c ∧ decide (c < 0) = decide (y.Cents < x.Cents):=by
 unfold ZF Qcl Qcc
 simp only [decide_true,Bool.not_true,Option.bind_some,cond_false]
 by_cases h : y.Cents < x.Cents
 ·rw [decide_eq_true h]; exact ⟨-1,rfl,rfl⟩
 ·rw [decide_eq_false h]
  by_cases h' : x.Cents < y.Cents
  ·rw [decide_eq_true h']; exact ⟨1,rfl,rfl⟩
  ·rw [decide_eq_false h']; exact ⟨0,rfl,rfl⟩
theorem Qxp {p q : List Bid} {x : Bid} : gt (p ++ x :: q) (p.length : Int) = x:=by
 rw [Qm (by simp)]; simp
theorem QO4 (b i : Int) (p q : List Bid) (x : Bid) (hp : p.length ≤ 1048576) : ∀ j,j ≤ p.length → run (Qq 0 b i) (p.take j ++ x :: (p.drop j ++ q),(j : Int)) = some (Q6 p ((Qep p x.Cents j : Nat) : Int) [x] ++ q):=by
 intro j
 induction j with
 | zero =>
  intro _
  rw [Qh]
  simp only [Qq,show decide (0 < ((0 : Nat) : Int)) = false from rfl,cond_false,Option.bind_some,Qep]
  simp [Q6]
 | succ j ih =>
  intro hj
  have hlt : j < p.length:=by omega
  have hl1 : (p.take (j + 1)).length = j + 1:=by rw [List.length_take]; omega
  have hs : p.take (j + 1) ++ x :: (p.drop (j + 1) ++ q) = p.take j ++ p[j] :: (x :: (p.drop (j + 1) ++ q)):=by
   rw [List.take_succ_eq_append_getElem hlt,List.append_assoc]; rfl
  have g1 : gt (p.take (j + 1) ++ x :: (p.drop (j + 1) ++ q)) ((j + 1 : Nat) : Int) = x:=by
   have:=Qxp (p:=p.take (j + 1)) (q:=p.drop (j + 1) ++ q) (x:=x)
   rw [hl1] at this; exact this
  have hl0 : (p.take j).length = j:=by rw [List.length_take]; omega
  have g0 : gt (p.take (j + 1) ++ x :: (p.drop (j + 1) ++ q)) (j : Int) = p[j]:=by
   rw [hs]
   have:=Qxp (p:=p.take j) (q:=x :: (p.drop (j + 1) ++ q)) (x:=p[j])
   rw [hl0] at this; exact this
  have hlen : (p.take (j + 1) ++ x :: (p.drop (j + 1) ++ q)).length = p.length + 1 + q.length:=by simp; omega
  obtain ⟨c,c1,c2⟩:=QxR x p[j]
  rw [Qh]
  simp only [Qq,show decide (0 < ((j + 1 : Nat) : Int)) = true from decide_eq_true (by omega),cond_true,QsM (show (j : Int) < 9223372036854775807 by omega),Qe (show j + 1 < (p.take (j + 1) ++ x :: (p.drop (j + 1) ++ q)).length by omega),Qe (show j < (p.take (j + 1) ++ x :: (p.drop (j + 1) ++ q)).length by omega),Qa,g0,g1,c1,Option.bind_some,c2,Qep,Qm hlt]
  cases decide (p[j].Cents < x.Cents) with
  | false =>
   simp only [cond_false]
   congr 1
   simp [Q6]
  | true =>
   simp only [cond_true,Int.toNat_natCast]
   have he : ((p.take (j + 1) ++ x :: (p.drop (j + 1) ++ q)).set (j + 1) p[j]).set j x = p.take j ++ x :: (p.drop j ++ q):=by
    rw [hs,List.set_append_right _ _ (by omega),List.set_append_right _ _ (by omega),hl0]
    simp only [Nat.add_sub_cancel_left,Nat.sub_self,List.set_cons_succ,List.set_cons_zero]
    rw [List.drop_eq_getElem_cons hlt]; rfl
   rw [he]
   exact ih (by omega)
theorem QnF (l : List Bid) (hl : l.length ≤ 1048576) (h1 : 1 ≤ l.length) : Qi l 0 (ln l) = some (Jq l l.length):=by
 have hr:=XP (step:=Qk 0 (ln l)) (fun i=>(Jq l (i + 1) ++ l.drop (i + 1),((i + 1 : Nat) : Int))) (r:=Jq l l.length) (l.length - 1) (fun i hi=>by
   have hlt : i + 1 < l.length:=by omega
   have hlen:=Qes l (i + 1)
   have hd : l.drop (i + 1) = l[i + 1] :: l.drop (i + 1 + 1):=List.drop_eq_getElem_cons hlt
   have hk:=QO4 (ln l) ((i + 1 : Nat) : Int) (Jq l (i + 1)) (l.drop (i + 1 + 1)) l[i + 1] (by omega) (i + 1) (by omega)
   rw [List.take_of_length_le (by omega),List.drop_of_length_le (show (Jq l (i + 1)).length ≤ i + 1 by omega),List.nil_append] at hk
   simp only [Qk,show decide (((i + 1 : Nat) : Int) < ln l) = true from decide_eq_true (by rw [VA]; omega),cond_true,hd,hk,Option.bind_some,QD (show ((i + 1 : Nat) : Int) < 9223372036854775807 by omega)]
   rw [show Jq l (i + 1 + 1) = Q6 (Jq l (i + 1)) ((Qep (Jq l (i + 1)) (gt l ((i + 1 : Nat) : Int)).Cents (i + 1) : Nat) : Int) [gt l ((i + 1 : Nat) : Int)] from rfl,Qm hlt])
  (by
   rw [show l.length - 1 + 1 = l.length by omega]
   simp only [Qk,show decide (((l.length : Nat) : Int) < ln l) = false from decide_eq_false (by rw [VA]; omega),cond_false,List.drop_length,List.append_nil])
 have h0 : Jq l (0 + 1) ++ l.drop (0 + 1) = l:=by
  cases l with
  | nil=>simp at h1
  | cons x t=>simp [Jq,Q6,Qep,gt]
 unfold Qi
 simp only [h0] at hr
 rw [show w64 (0 + 1) = 1 from rfl,show run (Qk 0 (ln l)) (l,1) = some (Jq l l.length) from hr]; rfl
theorem Qly (l : List Bid) : Qi l 20 20 = some l:=by
 unfold Qi
 rw [Qh]; rfl
theorem Qr5 (l : List Bid) (hl : l.length ≤ 20) (h1 : 1 ≤ l.length) : QaS l = some (Jq l l.length):=by
 have hrm : rm (0 + l.length) 24 = true:=Vz (by omega) (by omega)
 have h7 : ∀ r : List Bid,run (QG r (ln l)) 20 = some ():=fun r=>by
  rw [Qh]
  simp only [QG,show decide (20 < ln l) = false from decide_eq_false (by rw [VA]; omega),cond_false,Option.bind_some]
 unfold QaS QbU Va Vd
 simp only [hrm,Qa,Option.bind_some]
 by_cases h20 : l.length = 20
 ·have hln : ln l = 20:=by rw [VA,h20]; rfl
  have hins:=QnF l (by omega) h1
  have hr : run (Qo (ln l) 20) (l,0,20) = some (Jq l l.length,20):=by
   rw [Qh]
   simp only [Qo,show decide (20 ≤ ln l) = true from decide_eq_true (by omega),cond_true]
   rw [hln] at hins
   rw [hins]
   simp only [Option.bind_some]
   rw [Qh]
   simp only [Qo,show decide (w64 (20 + 20) ≤ ln l) = false from decide_eq_false (by rw [show w64 (20 + 20) = 40 from rfl,hln]; omega),cond_false,Option.bind_some]
  rw [hr]
  simp only [Option.bind_some]
  rw [hln,Qly]
  rw [hln] at h7
  simp only [Option.bind_some,h7]
 ·have hr : run (Qo (ln l) 20) (l,0,20) = some (l,0):=by
   rw [Qh]
   simp only [Qo,show decide (20 ≤ ln l) = false from decide_eq_false (by rw [VA]; omega),cond_false,Option.bind_some]
  rw [hr]
  simp only [Option.bind_some,QnF l (by omega) h1,h7]
end Go.Proofs.YtonidbheohhgdaaGreat
namespace Go.Proofs.YtonidbheohhgdaaGreat
open Go
set_option linter.unusedVariables false
set_option linter.unusedSimpArgs false
theorem QwN (x : Bid) : ∃ b,Qd5 x = some b ∧ ((Qc x.Who 1 999).bind fun r=>(bif (!r) then some true else (Qc x.Cents 1 10000000).bind fun r2=>some (!r2))) = some (!b) ∧ (b = true → 1 ≤ x.Who ∧ 1 ≤ x.Cents ∧ x.Cents ≤ 10000000):=by
 unfold Qd5 Qb Qc
 simp only [Option.bind_some]
 cases h1 : (decide (1 ≤ x.Who) && decide (x.Who ≤ 999)) with
 | false=>exact ⟨false,rfl,rfl,fun h=>by cases h⟩
 | true =>
  cases h2 : (decide (1 ≤ x.Cents) && decide (x.Cents ≤ 10000000)) with
  | false=>exact ⟨false,rfl,rfl,fun h=>by cases h⟩
  | true =>
   simp only [Bool.and_eq_true,decide_eq_true_eq] at h1 h2
   exact ⟨true,rfl,rfl,fun _=>⟨h1.1,h2.1,h2.2⟩⟩
theorem QkM (l : List Bid) (i : Nat) (hi : i < l.length) (hl : l.length ≤ 1048576) :
  run (QaP l (i : Int)) 0 = some (bif (l.take i).any (fun y=>decide (y.Who = l[i].Who)) then .ret false else .brk ()):=by
 have hlen : (l.take i).length = i:=by simp; omega
 exact QgT (l.take i) (fun y=>decide (y.Who = l[i].Who)) (r:=false) (step:=QaP l (i : Int))
  (fun k hk=>by
   rw [hlen] at hk
   have hkl : k < l.length:=by omega
   have e : (l.take i)[k]'(by rw [hlen]; exact hk) = l[k]:=by simp
   simp only [QaP,e,show decide ((k : Int) < (i : Int)) = true from decide_eq_true (by omega),Qe hi,Qm hi,Qe hkl,Qm hkl,QD (show (k : Int) < 9223372036854775807 by omega),cond_true,Qa]
   cases decide (l[k].Who = l[i].Who) <;> rfl)
  (by rw [hlen]; simp only [QaP,show decide ((i : Int) < (i : Int)) = false from decide_eq_false (by omega),cond_false])
theorem QkS (p : List Bid) (x : Bid) (hp : p.length ≤ 1048576) : Q4 p x = some (p.any (fun y=>decide (y.Who = x.Who))):=by
 have hi:=XH p (fun y=>decide (y.Who = x.Who)) (fun i=>(i : Int)) (step:=QI p x (ln p))
  (fun i hi=>by
   simp only [QI,QcI,Qt hi,Qe hi,Qm hi,QD (show (i : Int) < 9223372036854775807 by omega),cond_true,Qa,Option.bind_some]
   cases decide (p[i].Who = x.Who) <;> rfl)
  (by simp only [QI,Qx (Nat.le_refl _),cond_false])
 unfold Q4 VH
 rw [hi]
 cases hf : p.findIdx? (fun y=>decide (y.Who = x.Who)) with
 | none =>
  have : p.any (fun y=>decide (y.Who = x.Who)) = false:=by
   rw [List.any_eq_false]
   intro y hy
   have:=List.findIdx?_eq_none_iff.1 hf y hy
   simpa using this
  rw [this]; rfl
 | some i =>
  obtain ⟨hi',hp'⟩:=ZZ hf
  rw [List.any_eq_true.2 ⟨_,List.getElem_mem hi',hp'⟩]
  simp only [Option.bind_some,evO,decide_eq_true (show (0 : Int) ≤ (i : Int) by omega)]
theorem QBT (l : List Bid) (hl : l.length ≤ 1048576) : ∃ b,QiN l = some b ∧ Qd0 l = some b ∧ (b = true → l.length ≤ 20 ∧ ∀ x ∈ l,1 ≤ x.Who ∧ 1 ≤ x.Cents ∧ x.Cents ≤ 10000000):=by
 obtain ⟨b,h1,h2,h3⟩:=Qdt (n:=l.length) (r:=false) (s1:=Qa2 l) (s2:=ZB l l (ln l)) (fun i hi _=>by
   obtain ⟨b,q1,q2,_⟩:=QwN l[i]
   have hsl : slB 0 (i : Int) (ln l) = true:=Qfp (by omega)
   simp only [Qa2,ZB,Qt hi,Qe hi,Qm hi,QD (show (i : Int) < 9223372036854775807 by omega),cond_true,Qa,q1,q2,Option.bind_some,QkM l i hi hl,XN,hsl,QkS (l.take i) l[i] (by simp; omega)]
   cases b <;> cases (l.take i).any (fun y=>decide (y.Who = l[i].Who)) <;> first | exact ⟨true,rfl,rfl⟩ | exact ⟨false,rfl,rfl⟩)
  (by simp only [Qa2,Qx (Nat.le_refl _),cond_false]) (by simp only [ZB,Qx (Nat.le_refl _),cond_false])
 refine ⟨b && decide ((l.length : Int) ≤ 20),(Qau _ h1).1,(Qau _ h2).2,fun hb=>?_⟩
 simp only [Bool.and_eq_true,decide_eq_true_eq] at hb
 refine ⟨by omega,fun x hx=>?_⟩
 obtain ⟨i,hi,rfl⟩:=List.getElem_of_mem hx
 have hstep:=(h3 hb.1 i hi).1
 obtain ⟨c,q1,q2,q3⟩:=QwN l[i]
 simp only [Qa2,Qt hi,Qe hi,Qm hi,cond_true,Qa,q2,Option.bind_some] at hstep
 cases c with
 | true=>exact q3 rfl
 | false=>simp at hstep
theorem QlK (l : List Bid) : ∀ i,i ≤ l.length → ∀ x ∈ Jq l i,x ∈ l
 | 0,_,x,hx=>by simp [Jq] at hx
 | i + 1,hi,x,hx=>by
  unfold Jq at hx
  simp only [Q6,Int.toNat_natCast,List.mem_append,List.mem_singleton] at hx
  rcases hx with h | h | h
  ·exact QlK l i (by omega) x (List.mem_of_mem_take h)
  ·subst h; rw [Qm (show i < l.length by omega)]; exact List.getElem_mem _
  ·exact QlK l i (by omega) x (List.mem_of_mem_drop h)
theorem QwG (l : List Bid) (hl : l.length ≤ 1048576) : ∃ r,QgA l = some r ∧ QdB l = some r ∧ (r = (0,0) ∨ (1 ≤ r.1 ∧ 1 ≤ r.2 ∧ r.2 ≤ 10000000)):=by
 obtain ⟨b,b1,b2,b3⟩:=QBT l hl
 unfold QgA QdB
 rw [b1,b2]
 simp only [Option.bind_some]
 by_cases h0 : ln l = 0
 ·rw [decide_eq_true h0]; exact ⟨(0,0),rfl,rfl,.inl rfl⟩
 ·rw [decide_eq_false h0]
  have hpos : 1 ≤ l.length:=by rw [VA] at h0; omega
  cases b with
  | false=>exact ⟨(0,0),rfl,rfl,.inl rfl⟩
  | true =>
   obtain ⟨h20,hall⟩:=b3 rfl
   have hlen:=Qes l l.length
   have hmem:=QlK l l.length (Nat.le_refl _)
   have hi0 : 0 < (Jq l l.length).length:=by omega
   have e0 : inb (Jq l l.length) 0 = true:=Qe hi0
   have g0 : gt (Jq l l.length) 0 = (Jq l l.length)[0]:=Qm hi0
   have p0:=hall _ (hmem _ (List.getElem_mem hi0))
   simp only [cond_false,Bool.not_true,Option.bind_some,Qut l hl,Qr5 l h20 hpos,e0,Qa,g0]
   by_cases h1 : l.length = 1
   ·rw [show decide (ln (Jq l l.length) = 1) = true from decide_eq_true (by rw [VA,hlen,h1]; rfl)]
    exact ⟨_,rfl,rfl,.inr ⟨p0.1,by show (1 : Int) ≤ 1; omega,by show (1 : Int) ≤ 10000000; omega⟩⟩
   ·have hi1 : 1 < (Jq l l.length).length:=by omega
    have e1 : inb (Jq l l.length) 1 = true:=Qe hi1
    have g1 : gt (Jq l l.length) 1 = (Jq l l.length)[1]:=Qm hi1
    have p1:=hall _ (hmem _ (List.getElem_mem hi1))
    rw [show decide (ln (Jq l l.length) = 1) = false from decide_eq_false (by rw [VA,hlen]; omega),e1,g1]
    exact ⟨_,rfl,rfl,.inr ⟨p0.1,p1.2.1,p1.2.2⟩⟩
theorem QqZ (c : Int) (h0 : 0 ≤ c) (h1 : c ≤ 10000000) : ∃ a b,a ≤ c ∧ QdF c [1,9] = some [a,b] ∧ Qa3 c [1,9] = some [a,b]:=by
 have t1 : (c * 1).tdiv 10 = c / 10:=by rw [Int.mul_one,Int.tdiv_eq_ediv_of_nonneg h0]
 have t9 : (c * 9).tdiv 10 = c * 9 / 10:=Int.tdiv_eq_ediv_of_nonneg (by omega)
 have hb1:=Int.ediv_nonneg h0 (show (0 : Int) ≤ 10 by omega)
 have s4 : run (Qaz c [1,9] []) (0,0) = some (.brk 10):=by
  rw [Qh]; show run (Qaz c [1,9] []) (1,1) = _; rw [Qh]; show run (Qaz c [1,9] []) (10,2) = _; rw [Qh]; rfl
 have i6 : run (Jh c [1,9] [] [1,9] (ln ([1,9] : List Int))) (0,0) = some (.brk 10):=by
  rw [Qh]; show run (Jh c [1,9] [] [1,9] (ln ([1,9] : List Int))) (1,1) = _; rw [Qh]; show run (Jh c [1,9] [] [1,9] (ln ([1,9] : List Int))) (10,2) = _; rw [Qh]; rfl
 have w1 : w64 ((w64 (c * 1)).tdiv 10) = c / 10:=by rw [Vj (n:=c * 1) (by omega) (by omega),t1,Vj] <;> omega
 have w9 : w64 ((w64 (c * 9)).tdiv 10) = c * 9 / 10:=by rw [Vj (n:=c * 9) (by omega) (by omega),t9,Vj] <;> omega
 have s13 : run (JX c [1,9] 10) ([],c,0) = some ([c / 10,c * 9 / 10],c - c / 10 - c * 9 / 10):=by
  rw [Qh]
  simp only [JX,show decide ((0 : Int) < ln ([1,9] : List Int)) = true from rfl,show inb ([1,9] : List Int) 0 = true from rfl,show (!decide ((10 : Int) = 0)) = true from rfl,show gt ([1,9] : List Int) 0 = 1 from rfl,List.nil_append,w1,cond_true,Qa,Vz (show ([] : List Int).length + 1 ≤ 2000000 by simp) (show 8 ≤ 1024 by omega),show inb ([c / 10] : List Int) 0 = true from rfl,show gt ([c / 10] : List Int) 0 = c / 10 from rfl,show w64 (0 + 1) = 1 from rfl,Option.bind_some]
  rw [Qh]
  simp only [JX,show decide ((1 : Int) < ln ([1,9] : List Int)) = true from rfl,show inb ([1,9] : List Int) 1 = true from rfl,show (!decide ((10 : Int) = 0)) = true from rfl,show gt ([1,9] : List Int) 1 = 9 from rfl,w9,cond_true,Qa,Vz (show ([c / 10] : List Int).length + 1 ≤ 2000000 by simp) (show 8 ≤ 1024 by omega),show ([c / 10] ++ [c * 9 / 10] : List Int) = [c / 10,c * 9 / 10] from rfl,show inb ([c / 10,c * 9 / 10] : List Int) 1 = true from rfl,show gt ([c / 10,c * 9 / 10] : List Int) 1 = c * 9 / 10 from rfl,show w64 (1 + 1) = 2 from rfl,Option.bind_some]
  rw [Qh]
  simp only [JX,show decide ((2 : Int) < ln ([1,9] : List Int)) = false from rfl,cond_false,Option.bind_some]
  rw [Vj (n:=c - c / 10) (by omega) (by omega),Vj (by omega) (by omega)]
 have i16 : run (Xh c 10 [1,9] (ln ([1,9] : List Int))) ([],c,0) = some ([c / 10,c * 9 / 10],c - c / 10 - c * 9 / 10):=by
  rw [Qh]
  simp only [Xh,show decide ((0 : Int) < ln ([1,9] : List Int)) = true from rfl,show inb ([1,9] : List Int) 0 = true from rfl,show (!decide ((10 : Int) = 0)) = true from rfl,show gt ([1,9] : List Int) 0 = 1 from rfl,List.nil_append,w1,cond_true,Qa,Vz (show ([] : List Int).length + 1 ≤ 2000000 by simp) (show 8 ≤ 1024 by omega),show w64 (0 + 1) = 1 from rfl,Option.bind_some]
  rw [Qh]
  simp only [Xh,show decide ((1 : Int) < ln ([1,9] : List Int)) = true from rfl,show inb ([1,9] : List Int) 1 = true from rfl,show (!decide ((10 : Int) = 0)) = true from rfl,show gt ([1,9] : List Int) 1 = 9 from rfl,w9,cond_true,Qa,Vz (show ([c / 10] : List Int).length + 1 ≤ 2000000 by simp) (show 8 ≤ 1024 by omega),show ([c / 10] ++ [c * 9 / 10] : List Int) = [c / 10,c * 9 / 10] from rfl,show w64 (1 + 1) = 2 from rfl,Option.bind_some]
  rw [Qh]
  simp only [Xh,show decide ((2 : Int) < ln ([1,9] : List Int)) = false from rfl,cond_false,Option.bind_some]
  rw [Vj (n:=c - c / 10) (by omega) (by omega),Vj (by omega) (by omega)]
 have hin1 : (decide (0 ≤ c) && decide (c ≤ 10000000)) = true:=by rw [decide_eq_true h0,decide_eq_true h1]; rfl
 have hleft : c - c / 10 - c * 9 / 10 = 0 ∨ c - c / 10 - c * 9 / 10 = 1:=by omega
 refine ⟨c / 10 + (c - c / 10 - c * 9 / 10),c * 9 / 10,by omega,?_,?_⟩
 ·unfold QdF Qc
  simp only [s4,evO,Option.bind_some,hin1,Bool.not_true,cond_false,show (decide ((1 : Int) ≤ ln ([1,9] : List Int)) && decide (ln ([1,9] : List Int) ≤ 20)) = true from rfl,show decide ((10 : Int) = 0) = false from rfl,Bool.or_self,s13]
  rcases hleft with h | h
  ·rw [h,Qh]
   simp only [ZX,show decide ((0 : Int) < 0) = false from rfl,cond_false,Option.bind_some,Int.add_zero]
  ·rw [h,Qh]
   simp only [ZX,show decide ((0 : Int) < 1) = true from rfl,cond_true,show inb ([c / 10,c * 9 / 10] : List Int) 0 = true from rfl,Qa,show gt ([c / 10,c * 9 / 10] : List Int) 0 = c / 10 from rfl,Option.bind_some,show w64 (0 + 1) = 1 from rfl]
   rw [Qh]
   simp only [ZX,show decide ((1 : Int) < 1) = false from rfl,cond_false,Option.bind_some]
   rw [Vj (by omega) (by omega)]; rfl
 ·unfold Qa3 Qb
  simp only [i6,evO,Option.bind_some,hin1,Bool.not_true,cond_false,show (decide ((1 : Int) ≤ ln ([1,9] : List Int)) && decide (ln ([1,9] : List Int) ≤ 20)) = true from rfl,show decide ((10 : Int) = 0) = false from rfl,i16]
  rcases hleft with h | h
  ·rw [h,Qh]
   simp only [X8,show decide ((0 : Int) < 0) = false from rfl,cond_false,Option.bind_some,Int.add_zero]
  ·rw [h,Qh]
   simp only [X8,show decide ((0 : Int) < 1) = true from rfl,cond_true,show inb ([c / 10,c * 9 / 10] : List Int) 0 = true from rfl,Qa,show gt ([c / 10,c * 9 / 10] : List Int) 0 = c / 10 from rfl,show (!decide (ln (([c / 10,c * 9 / 10] : List Int).set (0 : Int).toNat (w64 (c / 10 + 1))) = 0)) = true from rfl,Option.bind_some,show w64 (1 - 1) = 0 from rfl]
   rw [Qh]
   simp only [X8,show decide ((0 : Int) < 0) = false from rfl,cond_false,Option.bind_some]
   rw [Vj (by omega) (by omega)]; rfl
theorem QpI (p f : Int) (h0 : 0 ≤ p) (h1 : p ≤ 10000000) : ∃ s,QdQ p f = some s ∧ QbO p f = some s ∧ ((¬ (1 ≤ f ∧ f ≤ 999) ∧ s = [⟨0,p⟩]) ∨ (1 ≤ f ∧ ∃ a b,a ≤ p ∧ s = [⟨f,a⟩,⟨0,b⟩])):=by
 obtain ⟨a,b,hab,s1,s2⟩:=QqZ p h0 h1
 unfold QdQ QbO Qc Qb
 simp only [Option.bind_some,decide_eq_true h0,decide_eq_true h1,Bool.and_self,Bool.not_true,cond_false,s1,s2,show inb ([a,b] : List Int) 0 = true from rfl,show inb ([a,b] : List Int) 1 = true from rfl,Qa,show gt ([a,b] : List Int) 0 = a from rfl,show gt ([a,b] : List Int) 1 = b from rfl]
 by_cases hf : 1 ≤ f ∧ f ≤ 999
 ·rw [decide_eq_true hf.1,decide_eq_true hf.2]
  exact ⟨_,rfl,rfl,.inr ⟨hf.1,a,b,hab,rfl⟩⟩
 ·rw [show (decide (1 ≤ f) && decide (f ≤ 999)) = false from by rw [Bool.eq_false_iff]; simpa using fun h=>by omega]
  exact ⟨_,rfl,rfl,.inl ⟨hf,rfl⟩⟩
theorem QCb (p f : Int) (h0 : 0 ≤ p) (h1 : p ≤ 10000000) : ∃ s,QdQ p f = some s ∧ QbO p f = some s ∧ ((¬ (1 ≤ f ∧ f ≤ 999) ∧ s = [⟨0,p⟩]) ∨ (1 ≤ f ∧ ∃ a b,s = [⟨f,a⟩,⟨0,b⟩])):=by
 obtain ⟨s,s1,s2,s3⟩:=QpI p f h0 h1
 refine ⟨s,s1,s2,?_⟩
 rcases s3 with h | ⟨h,a,b,_,e⟩
 ·exact .inl h
 ·exact .inr ⟨h,a,b,e⟩
end Go.Proofs.YtonidbheohhgdaaGreat
namespace Go.Proofs.YtonidbheohhgdaaGreat
open Go
set_option linter.unusedVariables false
set_option linter.unusedSimpArgs false
theorem QvA (l : List Find) (hl : l.length ≤ 1048576) (h : V1 l = some true) : ∀ i (hi : i < l.length),0 ≤ l[i].Finder ∧ l[i].Finder ≤ 999:=by
 have hb : ∀ f : Find,X9 f = some true → 0 ≤ f.Finder ∧ f.Finder ≤ 999:=by
  intro f hf
  obtain ⟨b,b1,_,_⟩:=Qi5 f.Thing
  unfold X9 Qc at hf
  rw [b1] at hf
  simp only [Option.bind_some] at hf
  revert hf
  cases b <;> cases (decide (1 ≤ f.Place) && decide (f.Place ≤ 30)) <;> cases (decide (0 ≤ f.At) && decide (f.At ≤ 100000)) <;> simp
 intro i hi
 obtain ⟨b,h1,h2,h3⟩:=Qdt (n:=l.length) (r:=false) (s1:=Vb l) (s2:=Vb l) (fun i hi _=>by
   obtain ⟨b,q1,q2,_⟩:=Qjb l[i]
   simp only [Vb,Qt hi,Qe hi,Qm hi,QD (show (i : Int) < 9223372036854775807 by omega),cond_true,Qa,q1,Option.bind_some]
   by_cases h0 : 0 < i
   ·simp only [show decide (0 < (i : Int)) = true from decide_eq_true (by omega),Zo h0 (by omega),Qe (show i - 1 < l.length by omega),cond_true,Qa]
    cases b <;> cases decide (l[i].Thing.Id ≤ (gt l ((i - 1 : Nat) : Int)).Thing.Id) <;> first | exact ⟨true,rfl,rfl⟩ | exact ⟨false,rfl,rfl⟩
   ·simp only [show decide (0 < (i : Int)) = false from decide_eq_false (by omega),cond_false]
    cases b <;> first | exact ⟨true,rfl,rfl⟩ | exact ⟨false,rfl,rfl⟩)
  (by simp only [Vb,Qx (Nat.le_refl _),cond_false]) (by simp only [Vb,Qx (Nat.le_refl _),cond_false])
 have he:=(Qau (n:=l.length) (k:=20) _ h1).1
 have hb' : b = true:=by
  unfold V1 at h
  rw [show (ln l : Int) = (l.length : Int) from rfl] at h
  rw [he] at h
  simp at h
  exact h.1
 have hstep:=(h3 hb' i hi).1
 obtain ⟨c,q1,q2,q3⟩:=Qjb l[i]
 simp only [Vb,Qt hi,Qe hi,Qm hi,cond_true,Qa,q1,Option.bind_some] at hstep
 cases c with
 | true=>exact hb _ q1
 | false=>simp at hstep
theorem pay (h : House) (a b c : Int) (hm : Qf h) : ∃ r,J7 h.Book ⟨a,b,c,h.Now⟩ = some r ∧ J4 h.Book ⟨a,b,c,h.Now⟩ = some r ∧ r.1.length ≤ 1048576 ∧
  JA h a b c = some (bif decide (c = 0) then (h,true) else (⟨h.No,h.Finds,h.Secrets,h.Slots,h.Claims,h.Trials,h.Chain,r.1,h.Now⟩,r.2)):=by
 obtain ⟨r,r1,r2,r3⟩:=Qqs h.Book ⟨a,b,c,h.Now⟩ hm.2.2.2.2.2.2
 refine ⟨r,r1,r2,r3,?_⟩
 unfold JA
 rw [r1]
 cases decide (c = 0) <;> rfl
theorem Ql1 (h x : House) (b : Bool) (hm : Qf h) (hx : Qf x) : ((Qp h x b).bind fun r=>some (r.1,r.2)) = some (QbV h x b):=by
 rw [QcD h x b hm hx]; rfl
theorem QwH (h : House) (t : Int) (l : List Bid) (hm : Qf h) (hl : l.length ≤ 1048576) : ∃ r,Jl h t l = some r ∧ Qb9 h t l = some r ∧ Qf r.1:=by
 have hm7:=hm
 obtain ⟨m1,m2,m3,m4,m5,m6,m7⟩:=hm7
 obtain ⟨w,w1,w2⟩:=Qbv h.Slots t m3
 obtain ⟨⟨who,price⟩,p1,p2,p3⟩:=QwG l hl
 unfold Jl Qb9 Qas
 simp only [p1,p2,(VZ h.Finds t m1).1,(VZ h.Finds t m1).2,(XF h hm).1,(XF h hm).2,V5 h hm,JN h hm,w1,w2,Option.bind_some]
 rcases Qjy h.Finds t with hx | ⟨k,hk,hx⟩
 ·rw [hx]
  refine ⟨(h,false),rfl,?_,hm⟩
  cases Jf h <;> rfl
 ·rw [hx,decide_eq_false (show ¬ (k : Int) < 0 by omega)]
  rcases p3 with p3 | ⟨q1,q2,q3⟩
  ·injection p3 with e1 e2
   subst e1 e2
   refine ⟨(h,false),rfl,?_,hm⟩
   cases Jf h with
   | false=>rfl
   | true =>
    cases XT h.Slots t with
    | false=>rfl
    | true=>simp only [Qe hk,Qa]; rfl
  ·simp only at q1 q2 q3
   rw [show decide (who = 0) = false from decide_eq_false (by omega)]
   cases hb : Jf h with
   | false=>exact ⟨(h,false),rfl,rfl,hm⟩
   | true =>
    have ho:=QgW h hm hb
    obtain ⟨f,f1,f2⟩:=QrU h.Finds[k] h.Claims h.Now m4
    have hfin:=QvA h.Finds m1 ho.fS k hk
    obtain ⟨g,g1,g2,g3,g4,g5,g6,g7⟩:=QoI h t 4 who hm
    simp only [cond_false,Bool.not_true,Option.bind_some,Qe hk,Qm hk,Qa,f1]
    by_cases hf : f = 3
    ·subst hf
     obtain ⟨s,s1,s2,s3⟩:=QCb price h.Finds[k].Finder (by omega) (by omega)
     obtain ⟨e,e1,e2,e3,e4⟩:=pay g.1 who 0 price g3
     rw [g5,g6] at e1 e2
     have hpr : decide (price = 0) = false:=decide_eq_false (by omega)
     rw [hpr] at e4
     have n:=g3
     obtain ⟨n1,n2,n3,n4,n5,n6,n7⟩:=n
     have o1 : Qf ⟨g.1.No,g.1.Finds,g.1.Secrets,g.1.Slots,g.1.Claims,g.1.Trials,g.1.Chain,e.1,g.1.Now⟩:=⟨n1,n2,n3,n4,n5,n6,e3⟩
     simp only [decide_true,Bool.not_true,cond_false,g1,e4,s1,Option.bind_some]
     rcases s3 with ⟨hno,rfl⟩ | ⟨hyes,a,b,rfl⟩
     ·have hf0 : h.Finds[k].Finder = 0:=by omega
      have hspec : (bif decide (ln ([⟨0,price⟩] : List Share) = 2) then (none : Option (House × Bool)) else some (h,false)) = some (h,false):=rfl
      simp only [show decide (ln ([⟨0,price⟩] : List Share) = 2) = false from rfl,cond_false,Ql1 h _ _ hm o1]
      refine ⟨QbV h ⟨g.1.No,g.1.Finds,g.1.Secrets,g.1.Slots,g.1.Claims,g.1.Trials,g.1.Chain,e.1,g.1.Now⟩ (g.2 && e.2),?_,?_,Qab _ _ _ hm o1⟩
      ·cases g.2 <;> rfl
      ·cases hi : XT h.Slots t with
       | false=>rw [g4 hi]; rfl
       | true =>
        simp only [Bool.not_true,cond_false,Qe hk,Qm hk,Qa,f2,Option.bind_some,decide_true,Bool.not_true,g2,e2,s2,show decide (h.Finds[k].Finder = 0) = true from decide_eq_true hf0]
        cases e.2 <;> simp only [cond_true,cond_false,Bool.not_true,Option.bind_some,Qbh h _ _ hm o1 (show [g.2,true,true].length ≤ 1048576 by simp),Qbh h _ _ hm o1 (show [g.2,false,true].length ≤ 1048576 by simp),List.all_cons,List.all_nil,Bool.and_true,id_eq]
     ·have hf0 : decide (h.Finds[k].Finder = 0) = false:=decide_eq_false (by omega)
      obtain ⟨d,d1,d2,d3,d4⟩:=pay ⟨g.1.No,g.1.Finds,g.1.Secrets,g.1.Slots,g.1.Claims,g.1.Trials,g.1.Chain,e.1,g.1.Now⟩ 0 h.Finds[k].Finder a o1
      simp only [g6] at d1 d2
      have o2 : Qf ⟨g.1.No,g.1.Finds,g.1.Secrets,g.1.Slots,g.1.Claims,g.1.Trials,g.1.Chain,d.1,g.1.Now⟩:=⟨n1,n2,n3,n4,n5,n6,d3⟩
      simp only [show decide (ln ([⟨h.Finds[k].Finder,a⟩,⟨0,b⟩] : List Share) = 2) = true from rfl,cond_true,show inb ([⟨h.Finds[k].Finder,a⟩,⟨0,b⟩] : List Share) 0 = true from rfl,Qa,show gt ([⟨h.Finds[k].Finder,a⟩,⟨0,b⟩] : List Share) 0 = ⟨h.Finds[k].Finder,a⟩ from rfl,d4,Option.bind_some]
      refine ⟨bif decide (a = 0) then QbV h ⟨g.1.No,g.1.Finds,g.1.Secrets,g.1.Slots,g.1.Claims,g.1.Trials,g.1.Chain,e.1,g.1.Now⟩ (g.2 && e.2) else QbV h ⟨g.1.No,g.1.Finds,g.1.Secrets,g.1.Slots,g.1.Claims,g.1.Trials,g.1.Chain,d.1,g.1.Now⟩ (g.2 && (e.2 && d.2)),?_,?_,?_⟩
      ·cases decide (a = 0) with
       | true=>simp only [cond_true,Ql1 h _ _ hm o1]; cases g.2 <;> cases e.2 <;> rfl
       | false=>simp only [cond_false,Ql1 h _ _ hm o2]; cases g.2 <;> cases e.2 <;> rfl
      ·cases hi : XT h.Slots t with
       | false =>
        rw [g4 hi]
        simp only [Bool.not_false,Bool.false_and,Qev]
        cases decide (a = 0) <;> rfl
       | true =>
        simp only [Bool.not_true,cond_false,Qe hk,Qm hk,Qa,f2,Option.bind_some,decide_true,Bool.not_true,g2,e2,s2,hf0,Bool.not_false,show inb ([⟨h.Finds[k].Finder,a⟩,⟨0,b⟩] : List Share) 0 = true from rfl,show gt ([⟨h.Finds[k].Finder,a⟩,⟨0,b⟩] : List Share) 0 = ⟨h.Finds[k].Finder,a⟩ from rfl,cond_true]
        cases he : e.2 with
        | false =>
         simp only [cond_false,Option.bind_some,Qbh h _ _ hm o1 (show [g.2,false,true].length ≤ 1048576 by simp),List.all_cons,List.all_nil,Bool.and_true,id_eq,Bool.false_and,Bool.and_false,Qev]
         cases decide (a = 0) <;> rfl
        | true =>
         cases ha : decide (a = 0) with
         | true=>simp only [cond_true,cond_false,Bool.not_true,Option.bind_some,Qbh h _ _ hm o1 (show [g.2,true,true].length ≤ 1048576 by simp),List.all_cons,List.all_nil,Bool.and_true,id_eq]
         | false=>simp only [cond_true,cond_false,Bool.not_false,Option.bind_some,d2,Qbh h _ _ hm o2 (show [g.2,true,d.2].length ≤ 1048576 by simp),List.all_cons,List.all_nil,Bool.and_true,Bool.true_and,id_eq]
      ·cases decide (a = 0) with
       | true=>exact Qab _ _ _ hm o1
       | false=>exact Qab _ _ _ hm o2
    ·simp only [decide_eq_false hf,Bool.not_false,cond_true]
     refine ⟨(h,false),rfl,?_,hm⟩
     cases XT h.Slots t with
     | false=>rfl
     | true=>simp only [Bool.not_true,cond_false,Qe hk,Qm hk,Qa,f2,Option.bind_some,decide_eq_false hf,Bool.not_false,cond_true]
end Go.Proofs.YtonidbheohhgdaaGreat
namespace Go.Proofs.YtonidbheohhgdaaGreat
open Go
set_option linter.unusedVariables false
set_option linter.unusedSimpArgs false
theorem QrH (h : House) (e : Event) (hm : Qf h) (he : Qaa e) : ∃ r,JT h e = some r ∧ QaN h e = some r ∧ Qf r.1:=by
 obtain ⟨a1,b1,c1,d1⟩:=QyD h e.Find e.Marks e.N hm he.1
 obtain ⟨a2,b2,c2,d2⟩:=QuH h e.Id e.Who e.N hm
 obtain ⟨a3,b3,c3,d3⟩:=QrY h e.Id e.N hm
 obtain ⟨a4,b4,c4,d4⟩:=QuA h e.N hm
 obtain ⟨a5,b5,c5,d5⟩:=QwH h e.N e.Bids hm he.2
 obtain ⟨a6,b6,c6,d6⟩:=QuJ h e.N hm
 obtain ⟨a7,b7,c7,d7⟩:=QyC h e.N hm
 unfold JT QaN
 rw [b1,c1,b2,c2,b3,c3,b4,c4,b5,c5,b6,c6,b7,c7,V5 h hm,JN h hm]
 cases decide (e.Kind = 1) with
 | true=>exact ⟨a1,rfl,rfl,d1⟩
 | false =>
 cases decide (e.Kind = 2) with
 | true=>exact ⟨a2,rfl,rfl,d2⟩
 | false =>
 cases decide (e.Kind = 3) with
 | true=>exact ⟨a3,rfl,rfl,d3⟩
 | false =>
 cases decide (e.Kind = 4) with
 | true=>exact ⟨a4,rfl,rfl,d4⟩
 | false =>
 cases decide (e.Kind = 5) with
 | true=>exact ⟨a5,rfl,rfl,d5⟩
 | false =>
 cases decide (e.Kind = 6) with
 | true=>exact ⟨a6,rfl,rfl,d6⟩
 | false =>
 cases decide (e.Kind = 7) with
 | true=>exact ⟨a7,rfl,rfl,d7⟩
 | false=>exact ⟨(h,false),rfl,rfl,hm⟩
end Go.Proofs.YtonidbheohhgdaaGreat
namespace Go.Proofs.YtonidbheohhgdaaGreat
open Go
set_option linter.unusedVariables false
set_option linter.unusedSimpArgs false
def Q (a : House) (r : House × Bool) : Prop:=(r.2 = true → QV a = some true ∧ QV r.1 = some true) ∧ (r.2 = false → r.1 = a)
def Qd (a : House) (x : Option (House × Bool)) : Prop:=∀ r,x = some r → Q a r
theorem Qd.bind {A : Type} {a : House} {o : Option A} {k : A → Option (House × Bool)} (h : ∀ y,Qd a (k y)) : Qd a (o.bind k):=fun r hr=>by
 obtain ⟨y,_,hy⟩:=Option.bind_eq_some_iff.1 hr
 exact h y r hy
theorem Qd.cond {a : House} {b : Bool} {x y : Option (House × Bool)} (hx : Qd a x) (hy : Qd a y) : Qd a (bif b then x else y):=by
 cases b with
 | true=>exact hx
 | false=>exact hy
theorem Qd.nd {a : House} {b : Bool} {x : Option (House × Bool)} (hx : Qd a x) : Qd a (nd b <| x):=by
 cases b with
 | true=>exact hx
 | false=>intro r hr; cases hr
theorem Qd.none {a : House} : Qd a none:=fun r hr=>by cases hr
theorem Qd.self {a : House} : Qd a (some (a,false)):=fun r hr=>by
 injection hr with hr; subst hr
 exact ⟨fun h=>(by cases h),fun _=>rfl⟩
theorem Qd.done {a o : House} {o2 : Bool} (hm : Qf a) : Qd a ((Qp a o o2).bind fun r=>some (r.1,r.2)):=fun r hr=>by
 obtain ⟨y,hy,e⟩:=Option.bind_eq_some_iff.1 hr
 injection e with e; subst e
 unfold Qp at hy
 obtain ⟨b,hb,hy⟩:=Option.bind_eq_some_iff.1 hy
 cases b with
 | true =>
  rw [V5 a hm] at hy
  simp only [cond_true,Option.bind_some] at hy
  injection hy with hy; subst hy
  exact ⟨fun h=>(by cases h),fun _=>rfl⟩
 | false =>
  simp only [cond_false] at hy
  injection hy with hy; subst hy
  refine ⟨fun _=>?_,fun h=>(by cases h)⟩
  cases o2 with
  | false=>cases hb
  | true =>
   simp only [Bool.not_true,cond_false] at hb
   obtain ⟨r1,h1,hb⟩:=Option.bind_eq_some_iff.1 hb
   cases r1 with
   | false=>cases hb
   | true =>
    simp only [Bool.not_true,cond_false] at hb
    obtain ⟨r2,h2,hb⟩:=Option.bind_eq_some_iff.1 hb
    cases r2 with
    | false=>cases hb
    | true=>exact ⟨h1,h2⟩
theorem QuZ (a : House) (f : Find) (m : List Mark) (s : Int) (hm : Qf a) : Qd a (ZP a f m s):=by
 unfold ZP
 simp only [V5 a hm,Option.bind_some]
 repeat (first | exact Qd.done hm | exact Qd.self | refine Qd.bind fun _=>?_ | refine Qd.nd ?_ | refine Qd.cond ?_ ?_ | exact Qd.none)
theorem Qrd (a : House) (x y z : Int) (hm : Qf a) : Qd a (Jv a x y z):=by
 unfold Jv
 simp only [V5 a hm,Option.bind_some]
 repeat (first | exact Qd.done hm | exact Qd.self | refine Qd.bind fun _=>?_ | refine Qd.nd ?_ | refine Qd.cond ?_ ?_ | exact Qd.none)
theorem Qp0 (a : House) (x y : Int) (hm : Qf a) : Qd a (JW a x y):=by
 unfold JW
 simp only [V5 a hm,Option.bind_some]
 repeat (first | exact Qd.done hm | exact Qd.self | refine Qd.bind fun _=>?_ | refine Qd.nd ?_ | refine Qd.cond ?_ ?_ | exact Qd.none)
theorem Qr3 (a : House) (x : Int) (hm : Qf a) : Qd a (Zm a x):=by
 unfold Zm
 simp only [V5 a hm,Option.bind_some]
 repeat (first | exact Qd.done hm | exact Qd.self | refine Qd.bind fun _=>?_ | refine Qd.nd ?_ | refine Qd.cond ?_ ?_ | exact Qd.none)
theorem Qvi (a : House) (x : Int) (l : List Bid) (hm : Qf a) : Qd a (Jl a x l):=by
 unfold Jl
 simp only [V5 a hm,Option.bind_some]
 repeat (first | exact Qd.done hm | exact Qd.self | refine Qd.bind fun _=>?_ | refine Qd.nd ?_ | refine Qd.cond ?_ ?_ | exact Qd.none)
theorem Qsn (a : House) (x : Int) (hm : Qf a) : Qd a (Zp a x):=by
 unfold Zp
 simp only [V5 a hm,Option.bind_some]
 repeat (first | exact Qd.done hm | exact Qd.self | refine Qd.bind fun _=>?_ | refine Qd.nd ?_ | refine Qd.cond ?_ ?_ | exact Qd.none)
theorem QuC (a : House) (x : Int) (hm : Qf a) : Qd a (ZR a x):=by
 unfold ZR
 simp only [V5 a hm,Option.bind_some]
 repeat (first | exact Qd.done hm | exact Qd.self | refine Qd.bind fun _=>?_ | refine Qd.nd ?_ | refine Qd.cond ?_ ?_ | exact Qd.none)
end Go.Proofs.YtonidbheohhgdaaGreat
