/- Types and values told as the machine has them. No condition. -/
import Derived.Test.YtaajilepbclmfaaEv3
import Derived.Test.YtaajilepbclmfaaFn
import Derived.Test.YtaajilepbclmfaaProg
import Derived.KernelRfl
namespace Go.Proofs.Ytaajilepbclmfaa
open Go Go.Proofs Go.Proofs.Ytaajilepbclmfaa.Am
set_option linter.unusedVariables false
set_option linter.unusedSimpArgs false
set_option linter.defProp false
set_option maxRecDepth 100000
def c_i64 (x : Int) : List AV := [.i .i64 x]
theorem e_c_i64 (x : Int) : c_i64 x = [.i .i64 x] := _root_.id rfl
instance (x : Int) : EncR c_i64 [.i .i64 x] x := ⟨rfl⟩
theorem ld_i64 (xs : List Int) : lendRows (xs.map c_i64) = xs.map c_i64 := t_lend (fun x => by simp only [e_c_i64, lendRow, lendc]) xs
theorem cl_i64 (xs : List Int) : cleanRows (xs.map c_i64) = true := t_clean (fun x => by simp only [e_c_i64, cleans, AV.clean, Bool.and_self]) xs
theorem ib_i64 {R : List (List AV)} {xs : List Int} (i : Int) [h : EncL c_i64 R xs] : inb R i = inb xs i := by rw [h.eq, t_inb]
theorem ro_i64 {R : List (List AV)} {xs : List Int} (i : Int) [h : EncL c_i64 R xs] (hi : inb xs i = true) : rowOf R i.toNat = c_i64 (gt xs i) := by rw [h.eq, t_row xs i hi]
def c_u8 (x : Int) : List AV := [.i .u8 x]
theorem e_c_u8 (x : Int) : c_u8 x = [.i .u8 x] := _root_.id rfl
instance (x : Int) : EncR c_u8 [.i .u8 x] x := ⟨rfl⟩
theorem ld_u8 (xs : List Int) : lendRows (xs.map c_u8) = xs.map c_u8 := t_lend (fun x => by simp only [e_c_u8, lendRow, lendc]) xs
theorem cl_u8 (xs : List Int) : cleanRows (xs.map c_u8) = true := t_clean (fun x => by simp only [e_c_u8, cleans, AV.clean, Bool.and_self]) xs
theorem ib_u8 {R : List (List AV)} {xs : List Int} (i : Int) [h : EncL c_u8 R xs] : inb R i = inb xs i := by rw [h.eq, t_inb]
theorem ro_u8 {R : List (List AV)} {xs : List Int} (i : Int) [h : EncL c_u8 R xs] (hi : inb xs i = true) : rowOf R i.toNat = c_u8 (gt xs i) := by rw [h.eq, t_row xs i hi]
def c_b (x : Bool) : List AV := [.b x]
theorem e_c_b (x : Bool) : c_b x = [.b x] := _root_.id rfl
instance (x : Bool) : EncR c_b [.b x] x := ⟨rfl⟩
theorem ld_b (xs : List Bool) : lendRows (xs.map c_b) = xs.map c_b := t_lend (fun x => by simp only [e_c_b, lendRow, lendc]) xs
theorem cl_b (xs : List Bool) : cleanRows (xs.map c_b) = true := t_clean (fun x => by simp only [e_c_b, cleans, AV.clean, Bool.and_self]) xs
theorem ib_b {R : List (List AV)} {xs : List Bool} (i : Int) [h : EncL c_b R xs] : inb R i = inb xs i := by rw [h.eq, t_inb]
theorem ro_b {R : List (List AV)} {xs : List Bool} (i : Int) [h : EncL c_b R xs] (hi : inb xs i = true) : rowOf R i.toNat = c_b (gt xs i) := by rw [h.eq, t_row xs i hi]
def c_s (x : List UInt8) : List AV := [.s x]
theorem e_c_s (x : List UInt8) : c_s x = [.s x] := _root_.id rfl
instance (x : List UInt8) : EncR c_s [.s x] x := ⟨rfl⟩
theorem ld_s (xs : List (List UInt8)) : lendRows (xs.map c_s) = xs.map c_s := t_lend (fun x => by simp only [e_c_s, lendRow, lendc]) xs
theorem cl_s (xs : List (List UInt8)) : cleanRows (xs.map c_s) = true := t_clean (fun x => by simp only [e_c_s, cleans, AV.clean, Bool.and_self]) xs
theorem ib_s {R : List (List AV)} {xs : List (List UInt8)} (i : Int) [h : EncL c_s R xs] : inb R i = inb xs i := by rw [h.eq, t_inb]
theorem ro_s {R : List (List AV)} {xs : List (List UInt8)} (i : Int) [h : EncL c_s R xs] (hi : inb xs i = true) : rowOf R i.toNat = c_s (gt xs i) := by rw [h.eq, t_row xs i hi]
def cHand (x : Hand) : List AV := [.i .i64 x.Thing, .i .i64 x.Holder, .i .i64 x.Who, .i .i64 x.At, .i .i64 x.Seal]
theorem e_cHand (x : Hand) : cHand x = [.i .i64 x.Thing, .i .i64 x.Holder, .i .i64 x.Who, .i .i64 x.At, .i .i64 x.Seal] := _root_.id rfl
instance (yxThing : Int) (yxHolder : Int) (yxWho : Int) (yxAt : Int) (yxSeal : Int)  : EncR cHand [.i .i64 yxThing, .i .i64 yxHolder, .i .i64 yxWho, .i .i64 yxAt, .i .i64 yxSeal] (⟨yxThing, yxHolder, yxWho, yxAt, yxSeal⟩ : Hand) := ⟨by rfl⟩
theorem ld_Hand (xs : List Hand) : lendRows (xs.map cHand) = xs.map cHand := t_lend (fun x => by simp only [e_cHand, lendRow, lendc]) xs
theorem cl_Hand (xs : List Hand) : cleanRows (xs.map cHand) = true := t_clean (fun x => by simp only [e_cHand, cleans, AV.clean, Bool.and_self]) xs
theorem et_Hand (x : Hand) : (⟨x.Thing, x.Holder, x.Who, x.At, x.Seal⟩ : Hand) = x := _root_.id rfl
def encs := And.intro @e_c_i64 <| And.intro @ld_i64 <| And.intro @cl_i64 <| And.intro @ib_i64 <| And.intro @ro_i64 <| And.intro @e_c_u8 <| And.intro @ld_u8 <| And.intro @cl_u8 <| And.intro @ib_u8 <| And.intro @ro_u8 <| And.intro @e_c_b <| And.intro @ld_b <| And.intro @cl_b <| And.intro @ib_b <| And.intro @ro_b <| And.intro @e_c_s <| And.intro @ld_s <| And.intro @cl_s <| And.intro @ib_s <| And.intro @ro_s <| And.intro @e_cHand <| And.intro @ld_Hand <| And.intro @cl_Hand @et_Hand
theorem ty0 : slzE Try.prog 25 = [0, 0, 0, 0, 0] := by kernel_rfl
theorem ty1 : slzE Try.prog 41 = [0] := by kernel_rfl
theorem ty2 : tb Try.prog 34 = some 40 := by kernel_rfl
theorem ty3 : tfo Try.prog 34 0 = some (0, .one) := by kernel_rfl
theorem ty4 : tfo Try.prog 34 1 = some (1, .one) := by kernel_rfl
theorem ty5 : tfo Try.prog 34 2 = some (2, .one) := by kernel_rfl
theorem ty6 : tfo Try.prog 34 3 = some (3, .one) := by kernel_rfl
theorem ty7 : tfo Try.prog 34 4 = some (4, .one) := by kernel_rfl
theorem ty8 : tfo Try.prog 36 0 = some (0, .one) := by kernel_rfl
theorem ty9 : tfo Try.prog 36 1 = some (1, .one) := by kernel_rfl
theorem ty10 : tfo Try.prog 36 2 = some (2, .one) := by kernel_rfl
theorem ty11 : tfo Try.prog 36 3 = some (3, .one) := by kernel_rfl
theorem ty12 : tfo Try.prog 36 4 = some (4, .one) := by kernel_rfl
theorem ty13 : ti Try.prog 22 = .sl 36 5 := by kernel_rfl
theorem ty14 : ti Try.prog 25 = .sl 34 5 := by kernel_rfl
theorem ty15 : ti Try.prog 41 = .sl 3 1 := by kernel_rfl
theorem ty16 : tk Try.prog 3 = .one := by kernel_rfl
theorem ty17 : tk Try.prog 34 = .agg 5 := by kernel_rfl
theorem ty18 : tk Try.prog 36 = .agg 5 := by kernel_rfl
theorem ty19 : tnoint Try.prog 25 = true := by kernel_rfl
theorem ty20 : tse Try.prog 25 = some (34, 5, [.i .i64 0, .i .i64 0, .i .i64 0, .i .i64 0, .i .i64 0]) := by kernel_rfl
theorem ty21 : tse Try.prog 41 = some (3, 1, [.i .i64 0]) := by kernel_rfl
theorem ty22 : tzc Try.prog 34 = some [.i .i64 0, .i .i64 0, .i .i64 0, .i .i64 0, .i .i64 0] := by kernel_rfl
def tys := And.intro @ty0 <| And.intro @ty1 <| And.intro @ty2 <| And.intro @ty3 <| And.intro @ty4 <| And.intro @ty5 <| And.intro @ty6 <| And.intro @ty7 <| And.intro @ty8 <| And.intro @ty9 <| And.intro @ty10 <| And.intro @ty11 <| And.intro @ty12 <| And.intro @ty13 <| And.intro @ty14 <| And.intro @ty15 <| And.intro @ty16 <| And.intro @ty17 <| And.intro @ty18 <| And.intro @ty19 <| And.intro @ty20 <| And.intro @ty21 @ty22
noncomputable def T : Tld := ⟨Try.prog, [(3, {}), (4, {}), (5, { jn := [(4, (25, 14, 25))], lp := [(4, ⟨[0, 2, 7, 8, 9], [.s 8 5], [7], []⟩)] }), (6, { lp := [(3, ⟨[0, 3, 4], [.s 3 5], [3], [.s 3 5]⟩)], sh := [.z 5] }), (7, { jn := [(2, (19, 12, 19)), (8, (39, 31, 39))], lp := [(6, ⟨[2, 7, 8, 24, 25, 26], [.s 8 5], [7], []⟩)] }), (8, { lp := [(4, ⟨[0, 1, 5], [], [], []⟩)], rt := ⟨[4], [], [], []⟩ }), (9, { lp := [(3, ⟨[0, 1, 5, 6], [.s 5 5], [5], [.s 5 5]⟩)], sh := [.z 5] }), (10, { jn := [(3, (15, 7, 15)), (7, (67, 25, 67)), (10, (96, 73, 96))], lp := [(3, ⟨[0, 3, 4], [], [0], []⟩)], rt := ⟨[2], [], [], []⟩ }), (11, { jn := [(1, (6, 7, 15))] }), (12, {}), (13, {}), (14, {}), (15, { jn := [(7, (61, 17, 61)), (13, (83, 73, 83))], lp := [(5, ⟨[0, 3, 10, 11, 12], [], [], []⟩)], rt := ⟨[2], [], [], []⟩ }), (16, { jn := [(1, (6, 7, 15))] }), (17, { lp := [(3, ⟨[1, 5, 9, 10, 11], [.s 5 5], [5], [.s 5 5]⟩)], sh := [.z 5] }), (18, {}), (19, {}), (20, { lp := [(3, ⟨[0, 1, 2, 7, 8], [], [7], []⟩)] }), (21, {}), (22, { lp := [(2, ⟨[0, 1, 5], [], [], []⟩)], rt := ⟨[4], [], [], []⟩ }), (23, { lp := [(3, ⟨[0, 3, 4], [], [3], []⟩)] }), (24, { lp := [(3, ⟨[3, 6, 7, 8], [], [3], []⟩)] }), (25, {}), (26, {}), (27, {})], fun _ _ => none⟩
theorem TP : T.P = Try.prog := _root_.id rfl
theorem a3 : T.at 3 = some {} := by kernel_rfl
theorem a4 : T.at 4 = some {} := by kernel_rfl
theorem a5 : T.at 5 = some { jn := [(4, (25, 14, 25))], lp := [(4, ⟨[0, 2, 7, 8, 9], [.s 8 5], [7], []⟩)] } := by kernel_rfl
theorem a6 : T.at 6 = some { lp := [(3, ⟨[0, 3, 4], [.s 3 5], [3], [.s 3 5]⟩)], sh := [.z 5] } := by kernel_rfl
theorem a7 : T.at 7 = some { jn := [(2, (19, 12, 19)), (8, (39, 31, 39))], lp := [(6, ⟨[2, 7, 8, 24, 25, 26], [.s 8 5], [7], []⟩)] } := by kernel_rfl
theorem a8 : T.at 8 = some { lp := [(4, ⟨[0, 1, 5], [], [], []⟩)], rt := ⟨[4], [], [], []⟩ } := by kernel_rfl
theorem a9 : T.at 9 = some { lp := [(3, ⟨[0, 1, 5, 6], [.s 5 5], [5], [.s 5 5]⟩)], sh := [.z 5] } := by kernel_rfl
theorem a10 : T.at 10 = some { jn := [(3, (15, 7, 15)), (7, (67, 25, 67)), (10, (96, 73, 96))], lp := [(3, ⟨[0, 3, 4], [], [0], []⟩)], rt := ⟨[2], [], [], []⟩ } := by kernel_rfl
theorem a11 : T.at 11 = some { jn := [(1, (6, 7, 15))] } := by kernel_rfl
theorem a12 : T.at 12 = some {} := by kernel_rfl
theorem a13 : T.at 13 = some {} := by kernel_rfl
theorem a14 : T.at 14 = some {} := by kernel_rfl
theorem a15 : T.at 15 = some { jn := [(7, (61, 17, 61)), (13, (83, 73, 83))], lp := [(5, ⟨[0, 3, 10, 11, 12], [], [], []⟩)], rt := ⟨[2], [], [], []⟩ } := by kernel_rfl
theorem a16 : T.at 16 = some { jn := [(1, (6, 7, 15))] } := by kernel_rfl
theorem a17 : T.at 17 = some { lp := [(3, ⟨[1, 5, 9, 10, 11], [.s 5 5], [5], [.s 5 5]⟩)], sh := [.z 5] } := by kernel_rfl
theorem a18 : T.at 18 = some {} := by kernel_rfl
theorem a19 : T.at 19 = some {} := by kernel_rfl
theorem a20 : T.at 20 = some { lp := [(3, ⟨[0, 1, 2, 7, 8], [], [7], []⟩)] } := by kernel_rfl
theorem a21 : T.at 21 = some {} := by kernel_rfl
theorem a22 : T.at 22 = some { lp := [(2, ⟨[0, 1, 5], [], [], []⟩)], rt := ⟨[4], [], [], []⟩ } := by kernel_rfl
theorem a23 : T.at 23 = some { lp := [(3, ⟨[0, 3, 4], [], [3], []⟩)] } := by kernel_rfl
theorem a24 : T.at 24 = some { lp := [(3, ⟨[3, 6, 7, 8], [], [3], []⟩)] } := by kernel_rfl
theorem a25 : T.at 25 = some {} := by kernel_rfl
theorem a26 : T.at 26 = some {} := by kernel_rfl
theorem a27 : T.at 27 = some {} := by kernel_rfl
end Go.Proofs.Ytaajilepbclmfaa
