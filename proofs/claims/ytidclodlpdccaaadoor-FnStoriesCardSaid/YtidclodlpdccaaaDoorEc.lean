/- Types and values told as the machine has them. No condition. -/
import Derived.Test.YtidclodlpdccaaaDoorEvB
import Derived.Test.YtidclodlpdccaaaDoorFn
import Derived.Test.YtidclodlpdccaaaDoorProg
import Derived.KernelRfl
namespace Go.Proofs.YtidclodlpdccaaaDoor
open Go Go.Proofs Go.Proofs.YtidclodlpdccaaaDoor.Am
set_option maxHeartbeats 4000000
set_option linter.unusedVariables false
set_option linter.unusedSimpArgs false
set_option linter.defProp false
set_option maxRecDepth 100000
def c_i64 (x : Int) : List AV := [.i .i64 x]
theorem e_c_i64 (x : Int) : c_i64 x = [.i .i64 x] := _root_.id rfl
instance (x : Int) : EncR c_i64 [.i .i64 x] x := ⟨rfl⟩
theorem ld_i64 (xs : List Int) : lendRows (xs.map c_i64) = xs.map c_i64 := t_lend (fun x => by simp only [e_c_i64, lendRow, lendc]) xs
theorem cl_i64 (xs : List Int) : cleanRows (xs.map c_i64) = true := t_clean (fun x => by simp only [e_c_i64, cleans, AV.clean, Bool.and_self]) xs
theorem ib_i64 {R : List (List AV)} {xs : List Int} (i : Int) [h : EncL c_i64 R xs] : inb R i = inb xs i := by rw [h.eq, t_inb]
theorem ro_i64 {R : List (List AV)} {xs : List Int} (i : Int) [h : EncL c_i64 R xs] (hi : inb xs i = true) : rowOf R i.toNat = c_i64 (gt xs i) := by rw [h.eq, t_row xs i hi]
def c_u8 (x : Int) : List AV := [.i .u8 x]
theorem e_c_u8 (x : Int) : c_u8 x = [.i .u8 x] := _root_.id rfl
instance (x : Int) : EncR c_u8 [.i .u8 x] x := ⟨rfl⟩
theorem ld_u8 (xs : List Int) : lendRows (xs.map c_u8) = xs.map c_u8 := t_lend (fun x => by simp only [e_c_u8, lendRow, lendc]) xs
theorem cl_u8 (xs : List Int) : cleanRows (xs.map c_u8) = true := t_clean (fun x => by simp only [e_c_u8, cleans, AV.clean, Bool.and_self]) xs
theorem ib_u8 {R : List (List AV)} {xs : List Int} (i : Int) [h : EncL c_u8 R xs] : inb R i = inb xs i := by rw [h.eq, t_inb]
theorem ro_u8 {R : List (List AV)} {xs : List Int} (i : Int) [h : EncL c_u8 R xs] (hi : inb xs i = true) : rowOf R i.toNat = c_u8 (gt xs i) := by rw [h.eq, t_row xs i hi]
def c_b (x : Bool) : List AV := [.b x]
theorem e_c_b (x : Bool) : c_b x = [.b x] := _root_.id rfl
instance (x : Bool) : EncR c_b [.b x] x := ⟨rfl⟩
theorem ld_b (xs : List Bool) : lendRows (xs.map c_b) = xs.map c_b := t_lend (fun x => by simp only [e_c_b, lendRow, lendc]) xs
theorem cl_b (xs : List Bool) : cleanRows (xs.map c_b) = true := t_clean (fun x => by simp only [e_c_b, cleans, AV.clean, Bool.and_self]) xs
theorem ib_b {R : List (List AV)} {xs : List Bool} (i : Int) [h : EncL c_b R xs] : inb R i = inb xs i := by rw [h.eq, t_inb]
theorem ro_b {R : List (List AV)} {xs : List Bool} (i : Int) [h : EncL c_b R xs] (hi : inb xs i = true) : rowOf R i.toNat = c_b (gt xs i) := by rw [h.eq, t_row xs i hi]
def c_s (x : List UInt8) : List AV := [.s x]
theorem e_c_s (x : List UInt8) : c_s x = [.s x] := _root_.id rfl
instance (x : List UInt8) : EncR c_s [.s x] x := ⟨rfl⟩
theorem ld_s (xs : List (List UInt8)) : lendRows (xs.map c_s) = xs.map c_s := t_lend (fun x => by simp only [e_c_s, lendRow, lendc]) xs
theorem cl_s (xs : List (List UInt8)) : cleanRows (xs.map c_s) = true := t_clean (fun x => by simp only [e_c_s, cleans, AV.clean, Bool.and_self]) xs
theorem ib_s {R : List (List AV)} {xs : List (List UInt8)} (i : Int) [h : EncL c_s R xs] : inb R i = inb xs i := by rw [h.eq, t_inb]
theorem ro_s {R : List (List AV)} {xs : List (List UInt8)} (i : Int) [h : EncL c_s R xs] (hi : inb xs i = true) : rowOf R i.toNat = c_s (gt xs i) := by rw [h.eq, t_row xs i hi]
def cl1Cur (x : l1Cur) : List AV := [.imm 1 (x.b.map c_u8), .i .i64 x.i, .i .i64 x.h]
theorem e_cl1Cur (x : l1Cur) : cl1Cur x = [.imm 1 (x.b.map c_u8), .i .i64 x.i, .i .i64 x.h] := _root_.id rfl
instance (yxi yxh) {R1 yxb} [H1 : EncL c_u8 R1 yxb] : EncR cl1Cur [.imm 1 R1, .i .i64 yxi, .i .i64 yxh] (⟨yxb, yxi, yxh⟩ : l1Cur) := ⟨by obtain ⟨rfl⟩ := H1; rfl⟩
def cl1CurO (x : l1Cur) : List AV := [.own 1 (x.b.map c_u8), .i .i64 x.i, .i .i64 x.h]
theorem e_cl1CurO (x : l1Cur) : cl1CurO x = [.own 1 (x.b.map c_u8), .i .i64 x.i, .i .i64 x.h] := _root_.id rfl
instance (yxi yxh) {R1 yxb} [H1 : EncL c_u8 R1 yxb] : EncR cl1CurO [.own 1 R1, .i .i64 yxi, .i .i64 yxh] (⟨yxb, yxi, yxh⟩ : l1Cur) := ⟨by obtain ⟨rfl⟩ := H1; rfl⟩
theorem ld_l1Cur (xs : List l1Cur) : lendRows (xs.map cl1CurO) = xs.map cl1Cur := t_lend (fun x => by simp only [e_cl1CurO, e_cl1Cur, lendRow, lendc, ld_u8]) xs
theorem cl_l1Cur (xs : List l1Cur) : cleanRows (xs.map cl1CurO) = true := t_clean (fun x => by simp only [e_cl1CurO, cleans, AV.clean, Bool.and_self, cl_u8]) xs
theorem et_l1Cur (x : l1Cur) : (⟨x.b, x.i, x.h⟩ : l1Cur) = x := _root_.id rfl
def cHand (x : Hand) : List AV := [.i .i64 x.Thing, .i .i64 x.Holder, .i .i64 x.Who, .i .i64 x.At, .i .i64 x.Seal]
theorem e_cHand (x : Hand) : cHand x = [.i .i64 x.Thing, .i .i64 x.Holder, .i .i64 x.Who, .i .i64 x.At, .i .i64 x.Seal] := _root_.id rfl
instance (yxThing yxHolder yxWho yxAt yxSeal)  : EncR cHand [.i .i64 yxThing, .i .i64 yxHolder, .i .i64 yxWho, .i .i64 yxAt, .i .i64 yxSeal] (⟨yxThing, yxHolder, yxWho, yxAt, yxSeal⟩ : Hand) := ⟨by rfl⟩
theorem ld_Hand (xs : List Hand) : lendRows (xs.map cHand) = xs.map cHand := t_lend (fun x => by simp only [e_cHand, lendRow, lendc]) xs
theorem cl_Hand (xs : List Hand) : cleanRows (xs.map cHand) = true := t_clean (fun x => by simp only [e_cHand, cleans, AV.clean, Bool.and_self]) xs
theorem et_Hand (x : Hand) : (⟨x.Thing, x.Holder, x.Who, x.At, x.Seal⟩ : Hand) = x := _root_.id rfl
def encs := aI @e_c_i64 <| aI @ld_i64 <| aI @cl_i64 <| aI @ib_i64 <| aI @ro_i64 <| aI @e_c_u8 <| aI @ld_u8 <| aI @cl_u8 <| aI @ib_u8 <| aI @ro_u8 <| aI @e_c_b <| aI @ld_b <| aI @cl_b <| aI @ib_b <| aI @ro_b <| aI @e_c_s <| aI @ld_s <| aI @cl_s <| aI @ib_s <| aI @ro_s <| aI @e_cl1Cur <| aI @ld_l1Cur <| aI @cl_l1Cur <| aI @et_l1Cur <| aI @e_cl1CurO <| aI @e_cHand <| aI @ld_Hand <| aI @cl_Hand @et_Hand
theorem tys : bsl Tryd.prog 5 = false ∧ slzE Tryd.prog 24 = [0, 0, 0, 0, 0] ∧ slzE Tryd.prog 35 = [0] ∧ slzE Tryd.prog 42 = [0] ∧ tb Tryd.prog 37 = some 40 ∧ tb Tryd.prog 9 = some 16 ∧ tbd Tryd.prog 37 = .st [.i .i64 0, .i .i64 0, .i .i64 0, .i .i64 0, .i .i64 0] [(0, 1), (1, 1), (2, 1), (3, 1), (4, 1)] ∧ tbd Tryd.prog 46 = .arr [.s [], .s [], .s [], .s [], .s []] 1 ∧ tbd Tryd.prog 58 = .st [.nil, .i .i64 0, .i .i64 0] [(0, 1), (1, 1), (2, 1)] ∧ teqP Tryd.prog 4 = some [.t] ∧ tfo Tryd.prog 37 0 = some (0, .one) ∧ tfo Tryd.prog 37 1 = some (1, .one) ∧ tfo Tryd.prog 37 2 = some (2, .one) ∧ tfo Tryd.prog 37 3 = some (3, .one) ∧ tfo Tryd.prog 37 4 = some (4, .one) ∧ tfo Tryd.prog 58 0 = some (0, .one) ∧ tfo Tryd.prog 58 1 = some (1, .one) ∧ tfo Tryd.prog 58 2 = some (2, .one) ∧ ti Tryd.prog 22 = .sl 5 1 ∧ ti Tryd.prog 24 = .sl 37 5 ∧ ti Tryd.prog 3 = .int .i64 ∧ ti Tryd.prog 35 = .sl 9 1 ∧ ti Tryd.prog 42 = .sl 3 1 ∧ ti Tryd.prog 46 = .arr 5 9 1 ∧ ti Tryd.prog 9 = .str ∧ tk Tryd.prog 22 = .one ∧ tk Tryd.prog 3 = .one ∧ tk Tryd.prog 37 = .agg 5 ∧ tk Tryd.prog 46 = .agg 5 ∧ tk Tryd.prog 5 = .one ∧ tk Tryd.prog 9 = .one ∧ tnoint Tryd.prog 24 = true ∧ tnoint Tryd.prog 35 = true ∧ tok Tryd.prog 5 = true ∧ tse Tryd.prog 24 = some (37, 5, [.i .i64 0, .i .i64 0, .i .i64 0, .i .i64 0, .i .i64 0]) ∧ tse Tryd.prog 35 = some (9, 1, [.s []]) ∧ tse Tryd.prog 42 = some (3, 1, [.i .i64 0]) ∧ tzc Tryd.prog 37 = some [.i .i64 0, .i .i64 0, .i .i64 0, .i .i64 0, .i .i64 0] ∧ tzc Tryd.prog 46 = some [.s [], .s [], .s [], .s [], .s []] := by and_intros <;> kernel_rfl
def strsOf : List (List AV) → Option (List (List UInt8))
  | [] => some []
  | [.s x] :: r => (strsOf r).map (x :: ·)
  | _ => none
theorem strsOf_map : ∀ l : List (List UInt8), strsOf (l.map c_s) = some l
  | [] => rfl
  | x :: l => by rw [List.map_cons, e_c_s, strsOf, strsOf_map l]; rfl
def xt (g : Nat) (args : List AV) : Option AV := match args with
  | [.imm 1 R, .s s] => if g = 16 then (strsOf R).bind fun l => (strings_Join l s).map .s else none
  | [.i .i64 x] => if g = 24 then (strconv_Itoa x).map .s else none
  | _ => none
def An3 : Ann := { jn := [(12, (60, 39, 60)), (17, (2, 73, 104))], lp := [(8, ⟨[0, 3, 4, 5, 6, 7, 8], [.s 3 5, .s 6 5], [0, 3, 4, 5, 6, 7], [.s 3 5, .s 6 5]⟩)] }
def An4 : Ann := {}
def An5 : Ann := { sh := [.z 5, .n] }
def An6 : Ann := { ord := [(5, [0, 1, 2, 4, 5, 9, 10, 3, 6, 7, 8, 11, 12, 13, 14, 15])], lp := [(3, ⟨[5, 11, 12, 13], [.s 5 1, .s 11 5], [5], [.s 5 1]⟩)] }
def An7 : Ann := { lp := [(3, ⟨[1, 5, 9, 10, 11], [.s 5 5], [5], [.s 5 5]⟩)], sh := [.z 5] }
def An8 : Ann := {}
def An9 : Ann := { av := [(2, [18]), (3, [19])], sh := [.z 5, .n, .n] }
def An10 : Ann := { jn := [(2, (19, 12, 19)), (8, (39, 31, 39))], lp := [(6, ⟨[2, 7, 8, 24, 25, 26], [.s 8 5], [7], []⟩)] }
def An11 : Ann := { av := [(1, [18]), (2, [22])] }
def An12 : Ann := { jn := [(6, (31, 17, 31))], lp := [(4, ⟨[5, 6, 7], [.s 6 5], [5], []⟩)] }
def An13 : Ann := {}
def An14 : Ann := { av := [(1, [18]), (2, [23]), (3, [22])], sh := [.z 5, .n] }
def An15 : Ann := {}
def An17 : Ann := { lp := [(2, ⟨[0, 1, 5], [], [], []⟩)], rt := ⟨[4], [], [], []⟩ }
def An18 : Ann := { nr := some ([2], [.s 2 0]), jn := [(3, (15, 8, 15))], lp := [(3, ⟨[0, 3, 4], [], [0, 3], []⟩)] }
def An19 : Ann := { ak := [0, 1], av := [(1, [22])] }
def An20 : Ann := { jn := [(7, (61, 17, 61)), (13, (83, 73, 83))], lp := [(5, ⟨[0, 3, 10, 11, 12], [], [], []⟩)], rt := ⟨[2], [], [], []⟩ }
def An21 : Ann := { jn := [(1, (6, 7, 15))] }
def An22 : Ann := { ak := [0], av := [(4, [29]), (5, [29]), (6, [29]), (7, [29])] }
def An23 : Ann := { nr := some ([2], [.r 0, .s 2 5]), ak := [0], av := [(1, [30]), (4, [22]), (5, [22]), (9, [19]), (11, [31]), (13, [19])], sh := [.z 5] }
def An28 : Ann := {}
def An29 : Ann := { ot := [(2, .one 0 (.one 5 (.alt (.one 1 (.alt (.one 2 (.alt (.one 3 (.one 4 (.one 6 (.one 7 (.one 8 (.one 9 (.one 10 (.one 11 (.one 12 (.done)))))))))) (.one 6 (.one 3 (.one 4 (.one 7 (.one 8 (.one 9 (.one 10 (.one 11 (.one 12 (.done)))))))))))) (.one 6 (.one 2 (.one 3 (.one 4 (.one 7 (.one 8 (.one 9 (.one 10 (.one 11 (.one 12 (.done))))))))))))) (.one 6 (.alt (.one 1 (.one 2 (.one 3 (.one 4 (.one 7 (.one 8 (.one 9 (.one 10 (.one 11 (.one 12 (.done))))))))))) (.one 7 (.alt (.one 1 (.one 2 (.one 3 (.one 4 (.one 8 (.one 9 (.one 10 (.one 11 (.one 12 (.done)))))))))) (.one 8 (.one 9 (.one 1 (.one 2 (.one 3 (.one 4 (.one 10 (.one 11 (.one 12 (.done))))))))))))))))), (3, .one 0 (.one 4 (.alt (.one 1 (.alt (.one 2 (.alt (.one 3 (.one 5 (.one 6 (.one 7 (.one 8 (.one 9 (.done))))))) (.one 5 (.one 3 (.one 6 (.one 7 (.one 8 (.one 9 (.done))))))))) (.one 5 (.one 2 (.one 3 (.one 6 (.one 7 (.one 8 (.one 9 (.done)))))))))) (.one 5 (.alt (.one 1 (.one 2 (.one 3 (.one 6 (.one 7 (.one 8 (.one 9 (.done)))))))) (.one 6 (.alt (.one 1 (.one 2 (.one 3 (.one 7 (.one 8 (.one 9 (.done))))))) (.one 7 (.alt (.one 1 (.one 2 (.one 3 (.one 8 (.one 9 (.done)))))) (.one 8 (.one 1 (.one 2 (.one 3 (.one 9 (.done))))))))))))))), (4, .one 0 (.one 1 (.one 5 (.alt (.one 2 (.alt (.one 3 (.alt (.one 4 (.one 6 (.one 7 (.one 8 (.one 9 (.one 10 (.one 11 (.one 12 (.one 13 (.one 14 (.done))))))))))) (.one 6 (.one 4 (.one 7 (.one 8 (.one 9 (.one 10 (.one 11 (.one 12 (.one 13 (.one 14 (.done))))))))))))) (.one 6 (.one 3 (.one 4 (.one 7 (.one 8 (.one 9 (.one 10 (.one 11 (.one 12 (.one 13 (.one 14 (.done)))))))))))))) (.one 6 (.alt (.one 2 (.one 3 (.one 4 (.one 7 (.one 8 (.one 9 (.one 10 (.one 11 (.one 12 (.one 13 (.one 14 (.done)))))))))))) (.one 7 (.alt (.one 2 (.one 3 (.one 4 (.one 8 (.one 9 (.one 10 (.one 11 (.one 12 (.one 13 (.one 14 (.done))))))))))) (.one 8 (.one 2 (.one 3 (.one 4 (.one 9 (.one 10 (.one 11 (.one 12 (.one 13 (.one 14 (.done)))))))))))))))))))], ak := [0] }
def An30 : Ann := { nr := some ([2], [.r 0, .s 2 5]), ak := [0], av := [(3, [22]), (6, [37]), (7, [22])], lp := [(4, ⟨[0, 3, 4, 5], [.s 0 0, .s 3 5], [0, 3], [.s 0 0, .s 3 5]⟩)], sh := [.z 5] }
def An31 : Ann := { ak := [0], av := [(1, [19])] }
def An35 : Ann := { lp := [(3, ⟨[3, 6, 7, 8], [], [3], []⟩)] }
def An36 : Ann := { ot := [(5, .one 1 (.alt (.one 0 (.alt (.one 2 (.one 3 (.one 4 (.one 5 (.one 6 (.done)))))) (.one 3 (.alt (.one 2 (.one 4 (.one 5 (.one 6 (.done))))) (.one 4 (.one 2 (.one 5 (.one 6 (.done))))))))) (.one 3 (.alt (.one 0 (.alt (.one 2 (.one 4 (.one 5 (.one 6 (.done))))) (.one 4 (.one 2 (.one 5 (.one 6 (.done))))))) (.one 4 (.one 0 (.one 2 (.one 5 (.one 6 (.done))))))))))], sh := [.z 5, .n] }
def An37 : Ann := { ak := [0], av := [(1, [19, 22])] }
def An41 : Ann := {}
def An42 : Ann := {}
def An43 : Ann := { jn := [(3, (15, 7, 15)), (7, (67, 25, 67)), (10, (96, 73, 96))], lp := [(3, ⟨[0, 3, 4], [], [0], []⟩)], rt := ⟨[2], [], [], []⟩ }
def An48 : Ann := {}
def An49 : Ann := { lp := [(3, ⟨[0, 3, 4], [], [3], []⟩)] }
def An50 : Ann := { jn := [(1, (6, 7, 15))] }
def An51 : Ann := { lp := [(3, ⟨[0, 1, 2, 7, 8], [], [7], []⟩)] }
def An57 : Ann := {}
noncomputable def T : Tld := { P := Tryd.prog, ann := [(3, An3), (4, An4), (5, An5), (6, An6), (7, An7), (8, An8), (9, An9), (10, An10), (11, An11), (12, An12), (13, An13), (14, An14), (15, An15), (17, An17), (18, An18), (19, An19), (20, An20), (21, An21), (22, An22), (23, An23), (28, An28), (29, An29), (30, An30), (31, An31), (35, An35), (36, An36), (37, An37), (41, An41), (42, An42), (43, An43), (48, An48), (49, An49), (50, An50), (51, An51), (57, An57)], xt := xt, st := fun _ => false, qt := fun _ => false, pz := [], vt := fun _ => false, mt := fun _ _ _ => none }
theorem TP : T.P = Tryd.prog := _root_.id rfl
theorem TZ : T.pz = [] := _root_.id rfl
theorem sk33 : decide ((0 : Int) ≤ 33) = true := _root_.id rfl
theorem sk47 : decide ((0 : Int) ≤ 47) = true := _root_.id rfl
def eY := aI evT <| aI encs <| aI @c_js <| aI @r_map_some <| @e_need_t
def eZ := aI evB <| aI evT <| aI tys <| aI encs <| aI TP <| aI TZ <| aI (@orc_p T) <| aI (@orc_l T) <| aI (@orc_a T) <| aI sk33 <| aI sk47 <| aI @e_need_t <| @orc_m T
theorem e_strings_Join (n : Nat) {R} {l : List (List UInt8)} (s : List UInt8) [H1 : EncL c_s R l] : CP T (n + 1) 16 [.imm 1 R, .s s] = (strings_Join l s).map fun r => .s r := by
  obtain ⟨rfl⟩ := H1
  rw [CP_x T n 16 _ (by kernel_rfl)]
  show (strsOf (l.map c_s)).bind _ = _
  rw [strsOf_map]; rfl
theorem e_strconv_Itoa (n : Nat) (x : Int) : CP T (n + 1) 24 [.i .i64 x] = (strconv_Itoa x).map fun r => .s r := by rw [CP_x T n 24 _ (by kernel_rfl)]; rfl
theorem e_cI : cI = c_i64 := _root_.id rfl
theorem ints_c (xs : List Int) : intsOf (xs.map c_i64) = some xs := s_ints xs
theorem st_18 : T.st 18 = false := by kernel_rfl
theorem qt_18 : T.qt 18 = false := by kernel_rfl
theorem wt_18 : T.wt 18 = true := by kernel_rfl
theorem vt_18 : T.vt 18 = false := by kernel_rfl
theorem st_19 : T.st 19 = false := by kernel_rfl
theorem qt_19 : T.qt 19 = false := by kernel_rfl
theorem wt_19 : T.wt 19 = true := by kernel_rfl
theorem vt_19 : T.vt 19 = false := by kernel_rfl
theorem st_22 : T.st 22 = false := by kernel_rfl
theorem qt_22 : T.qt 22 = false := by kernel_rfl
theorem wt_22 : T.wt 22 = true := by kernel_rfl
theorem vt_22 : T.vt 22 = false := by kernel_rfl
theorem st_23 : T.st 23 = false := by kernel_rfl
theorem qt_23 : T.qt 23 = false := by kernel_rfl
theorem wt_23 : T.wt 23 = true := by kernel_rfl
theorem vt_23 : T.vt 23 = false := by kernel_rfl
theorem st_29 : T.st 29 = false := by kernel_rfl
theorem qt_29 : T.qt 29 = false := by kernel_rfl
theorem wt_29 : T.wt 29 = true := by kernel_rfl
theorem vt_29 : T.vt 29 = false := by kernel_rfl
theorem st_30 : T.st 30 = false := by kernel_rfl
theorem qt_30 : T.qt 30 = false := by kernel_rfl
theorem wt_30 : T.wt 30 = true := by kernel_rfl
theorem vt_30 : T.vt 30 = false := by kernel_rfl
theorem st_31 : T.st 31 = false := by kernel_rfl
theorem qt_31 : T.qt 31 = false := by kernel_rfl
theorem wt_31 : T.wt 31 = true := by kernel_rfl
theorem vt_31 : T.vt 31 = false := by kernel_rfl
theorem st_37 : T.st 37 = false := by kernel_rfl
theorem qt_37 : T.qt 37 = false := by kernel_rfl
theorem wt_37 : T.wt 37 = true := by kernel_rfl
theorem vt_37 : T.vt 37 = false := by kernel_rfl
def srt := aI @e_cI <| aI @ints_c <| aI @orc_s <| aI @orc_q <| aI @orc_w <| aI @orc_v <| aI @st_18 <| aI @qt_18 <| aI @wt_18 <| aI @vt_18 <| aI @st_19 <| aI @qt_19 <| aI @wt_19 <| aI @vt_19 <| aI @st_22 <| aI @qt_22 <| aI @wt_22 <| aI @vt_22 <| aI @st_23 <| aI @qt_23 <| aI @wt_23 <| aI @vt_23 <| aI @st_29 <| aI @qt_29 <| aI @wt_29 <| aI @vt_29 <| aI @st_30 <| aI @qt_30 <| aI @wt_30 <| aI @vt_30 <| aI @st_31 <| aI @qt_31 <| aI @wt_31 <| aI @vt_31 <| aI @st_37 <| aI @qt_37 <| aI @wt_37 @vt_37
theorem Aa3 : T.at 3 = some An3 := by kernel_rfl
theorem Aa4 : T.at 4 = some An4 := by kernel_rfl
theorem Aa5 : T.at 5 = some An5 := by kernel_rfl
theorem Aa6 : T.at 6 = some An6 := by kernel_rfl
theorem Aa7 : T.at 7 = some An7 := by kernel_rfl
theorem Aa8 : T.at 8 = some An8 := by kernel_rfl
theorem Aa9 : T.at 9 = some An9 := by kernel_rfl
theorem Aa10 : T.at 10 = some An10 := by kernel_rfl
theorem Aa11 : T.at 11 = some An11 := by kernel_rfl
theorem Aa12 : T.at 12 = some An12 := by kernel_rfl
theorem Aa13 : T.at 13 = some An13 := by kernel_rfl
theorem Aa14 : T.at 14 = some An14 := by kernel_rfl
theorem Aa15 : T.at 15 = some An15 := by kernel_rfl
theorem Aa17 : T.at 17 = some An17 := by kernel_rfl
theorem Aa18 : T.at 18 = some An18 := by kernel_rfl
theorem Aa19 : T.at 19 = some An19 := by kernel_rfl
theorem Aa20 : T.at 20 = some An20 := by kernel_rfl
theorem Aa21 : T.at 21 = some An21 := by kernel_rfl
theorem Aa22 : T.at 22 = some An22 := by kernel_rfl
theorem Aa23 : T.at 23 = some An23 := by kernel_rfl
theorem Aa28 : T.at 28 = some An28 := by kernel_rfl
theorem Aa29 : T.at 29 = some An29 := by kernel_rfl
theorem Aa30 : T.at 30 = some An30 := by kernel_rfl
theorem Aa31 : T.at 31 = some An31 := by kernel_rfl
theorem Aa35 : T.at 35 = some An35 := by kernel_rfl
theorem Aa36 : T.at 36 = some An36 := by kernel_rfl
theorem Aa37 : T.at 37 = some An37 := by kernel_rfl
theorem Aa41 : T.at 41 = some An41 := by kernel_rfl
theorem Aa42 : T.at 42 = some An42 := by kernel_rfl
theorem Aa43 : T.at 43 = some An43 := by kernel_rfl
theorem Aa48 : T.at 48 = some An48 := by kernel_rfl
theorem Aa49 : T.at 49 = some An49 := by kernel_rfl
theorem Aa50 : T.at 50 = some An50 := by kernel_rfl
theorem Aa51 : T.at 51 = some An51 := by kernel_rfl
theorem Aa57 : T.at 57 = some An57 := by kernel_rfl
end Go.Proofs.YtidclodlpdccaaaDoor
