/- Types and values told as the machine has them. No condition. -/
import Derived.Test.YtbbnecdpcblcfaaEv3
import Derived.Test.YtbbnecdpcblcfaaFn
import Derived.Test.YtbbnecdpcblcfaaProg
import Derived.KernelRfl
namespace Go.Proofs.Ytbbnecdpcblcfaa
open Go Go.Proofs Go.Proofs.Ytbbnecdpcblcfaa.Am
set_option linter.unusedVariables false
set_option linter.unusedSimpArgs false
set_option linter.defProp false
set_option maxRecDepth 100000
def c_i64 (x : Int) : List AV := [.i .i64 x]
theorem e_c_i64 (x : Int) : c_i64 x = [.i .i64 x] := _root_.id rfl
instance (x : Int) : EncR c_i64 [.i .i64 x] x := ⟨rfl⟩
theorem ld_i64 (xs : List Int) : lendRows (xs.map c_i64) = xs.map c_i64 := t_lend (fun x => by simp only [e_c_i64, lendRow, lendc]) xs
theorem cl_i64 (xs : List Int) : cleanRows (xs.map c_i64) = true := t_clean (fun x => by simp only [e_c_i64, cleans, AV.clean, Bool.and_self]) xs
theorem ib_i64 {R : List (List AV)} {xs : List Int} (i : Int) [h : EncL c_i64 R xs] : inb R i = inb xs i := by rw [h.eq, t_inb]
theorem ro_i64 {R : List (List AV)} {xs : List Int} (i : Int) [h : EncL c_i64 R xs] (hi : inb xs i = true) : rowOf R i.toNat = c_i64 (gt xs i) := by rw [h.eq, t_row xs i hi]
def c_u8 (x : Int) : List AV := [.i .u8 x]
theorem e_c_u8 (x : Int) : c_u8 x = [.i .u8 x] := _root_.id rfl
instance (x : Int) : EncR c_u8 [.i .u8 x] x := ⟨rfl⟩
theorem ld_u8 (xs : List Int) : lendRows (xs.map c_u8) = xs.map c_u8 := t_lend (fun x => by simp only [e_c_u8, lendRow, lendc]) xs
theorem cl_u8 (xs : List Int) : cleanRows (xs.map c_u8) = true := t_clean (fun x => by simp only [e_c_u8, cleans, AV.clean, Bool.and_self]) xs
theorem ib_u8 {R : List (List AV)} {xs : List Int} (i : Int) [h : EncL c_u8 R xs] : inb R i = inb xs i := by rw [h.eq, t_inb]
theorem ro_u8 {R : List (List AV)} {xs : List Int} (i : Int) [h : EncL c_u8 R xs] (hi : inb xs i = true) : rowOf R i.toNat = c_u8 (gt xs i) := by rw [h.eq, t_row xs i hi]
def c_b (x : Bool) : List AV := [.b x]
theorem e_c_b (x : Bool) : c_b x = [.b x] := _root_.id rfl
instance (x : Bool) : EncR c_b [.b x] x := ⟨rfl⟩
theorem ld_b (xs : List Bool) : lendRows (xs.map c_b) = xs.map c_b := t_lend (fun x => by simp only [e_c_b, lendRow, lendc]) xs
theorem cl_b (xs : List Bool) : cleanRows (xs.map c_b) = true := t_clean (fun x => by simp only [e_c_b, cleans, AV.clean, Bool.and_self]) xs
theorem ib_b {R : List (List AV)} {xs : List Bool} (i : Int) [h : EncL c_b R xs] : inb R i = inb xs i := by rw [h.eq, t_inb]
theorem ro_b {R : List (List AV)} {xs : List Bool} (i : Int) [h : EncL c_b R xs] (hi : inb xs i = true) : rowOf R i.toNat = c_b (gt xs i) := by rw [h.eq, t_row xs i hi]
def c_s (x : List UInt8) : List AV := [.s x]
theorem e_c_s (x : List UInt8) : c_s x = [.s x] := _root_.id rfl
instance (x : List UInt8) : EncR c_s [.s x] x := ⟨rfl⟩
theorem ld_s (xs : List (List UInt8)) : lendRows (xs.map c_s) = xs.map c_s := t_lend (fun x => by simp only [e_c_s, lendRow, lendc]) xs
theorem cl_s (xs : List (List UInt8)) : cleanRows (xs.map c_s) = true := t_clean (fun x => by simp only [e_c_s, cleans, AV.clean, Bool.and_self]) xs
theorem ib_s {R : List (List AV)} {xs : List (List UInt8)} (i : Int) [h : EncL c_s R xs] : inb R i = inb xs i := by rw [h.eq, t_inb]
theorem ro_s {R : List (List AV)} {xs : List (List UInt8)} (i : Int) [h : EncL c_s R xs] (hi : inb xs i = true) : rowOf R i.toNat = c_s (gt xs i) := by rw [h.eq, t_row xs i hi]
def cHit (x : Hit) : List AV := [.i .i64 x.House, .i .i64 x.Thing]
theorem e_cHit (x : Hit) : cHit x = [.i .i64 x.House, .i .i64 x.Thing] := _root_.id rfl
instance (yxHouse : Int) (yxThing : Int)  : EncR cHit [.i .i64 yxHouse, .i .i64 yxThing] (⟨yxHouse, yxThing⟩ : Hit) := ⟨by rfl⟩
theorem ld_Hit (xs : List Hit) : lendRows (xs.map cHit) = xs.map cHit := t_lend (fun x => by simp only [e_cHit, lendRow, lendc]) xs
theorem cl_Hit (xs : List Hit) : cleanRows (xs.map cHit) = true := t_clean (fun x => by simp only [e_cHit, cleans, AV.clean, Bool.and_self]) xs
theorem et_Hit (x : Hit) : (⟨x.House, x.Thing⟩ : Hit) = x := _root_.id rfl
def cSlot (x : Slot) : List AV := [.i .i64 x.Id, .i .i64 x.Size, .i .i64 x.Thing]
theorem e_cSlot (x : Slot) : cSlot x = [.i .i64 x.Id, .i .i64 x.Size, .i .i64 x.Thing] := _root_.id rfl
instance (yxId : Int) (yxSize : Int) (yxThing : Int)  : EncR cSlot [.i .i64 yxId, .i .i64 yxSize, .i .i64 yxThing] (⟨yxId, yxSize, yxThing⟩ : Slot) := ⟨by rfl⟩
theorem ld_Slot (xs : List Slot) : lendRows (xs.map cSlot) = xs.map cSlot := t_lend (fun x => by simp only [e_cSlot, lendRow, lendc]) xs
theorem cl_Slot (xs : List Slot) : cleanRows (xs.map cSlot) = true := t_clean (fun x => by simp only [e_cSlot, cleans, AV.clean, Bool.and_self]) xs
theorem et_Slot (x : Slot) : (⟨x.Id, x.Size, x.Thing⟩ : Slot) = x := _root_.id rfl
def cClaim (x : Claim) : List AV := [.i .i64 x.Id, .i .i64 x.Who, .i .i64 x.Thing, .i .i64 x.At, .i .i64 x.State]
theorem e_cClaim (x : Claim) : cClaim x = [.i .i64 x.Id, .i .i64 x.Who, .i .i64 x.Thing, .i .i64 x.At, .i .i64 x.State] := _root_.id rfl
instance (yxId : Int) (yxWho : Int) (yxThing : Int) (yxAt : Int) (yxState : Int)  : EncR cClaim [.i .i64 yxId, .i .i64 yxWho, .i .i64 yxThing, .i .i64 yxAt, .i .i64 yxState] (⟨yxId, yxWho, yxThing, yxAt, yxState⟩ : Claim) := ⟨by rfl⟩
theorem ld_Claim (xs : List Claim) : lendRows (xs.map cClaim) = xs.map cClaim := t_lend (fun x => by simp only [e_cClaim, lendRow, lendc]) xs
theorem cl_Claim (xs : List Claim) : cleanRows (xs.map cClaim) = true := t_clean (fun x => by simp only [e_cClaim, cleans, AV.clean, Bool.and_self]) xs
theorem et_Claim (x : Claim) : (⟨x.Id, x.Who, x.Thing, x.At, x.State⟩ : Claim) = x := _root_.id rfl
def cHand (x : Hand) : List AV := [.i .i64 x.Thing, .i .i64 x.Holder, .i .i64 x.Who, .i .i64 x.At, .i .i64 x.Seal]
theorem e_cHand (x : Hand) : cHand x = [.i .i64 x.Thing, .i .i64 x.Holder, .i .i64 x.Who, .i .i64 x.At, .i .i64 x.Seal] := _root_.id rfl
instance (yxThing : Int) (yxHolder : Int) (yxWho : Int) (yxAt : Int) (yxSeal : Int)  : EncR cHand [.i .i64 yxThing, .i .i64 yxHolder, .i .i64 yxWho, .i .i64 yxAt, .i .i64 yxSeal] (⟨yxThing, yxHolder, yxWho, yxAt, yxSeal⟩ : Hand) := ⟨by rfl⟩
theorem ld_Hand (xs : List Hand) : lendRows (xs.map cHand) = xs.map cHand := t_lend (fun x => by simp only [e_cHand, lendRow, lendc]) xs
theorem cl_Hand (xs : List Hand) : cleanRows (xs.map cHand) = true := t_clean (fun x => by simp only [e_cHand, cleans, AV.clean, Bool.and_self]) xs
theorem et_Hand (x : Hand) : (⟨x.Thing, x.Holder, x.Who, x.At, x.Seal⟩ : Hand) = x := _root_.id rfl
def cThing (x : Thing) : List AV := [.i .i64 x.Id, .i .i64 x.Kind, .i .i64 x.Colour, .i .i64 x.Size, .i .i64 x.Worth]
theorem e_cThing (x : Thing) : cThing x = [.i .i64 x.Id, .i .i64 x.Kind, .i .i64 x.Colour, .i .i64 x.Size, .i .i64 x.Worth] := _root_.id rfl
instance (yxId : Int) (yxKind : Int) (yxColour : Int) (yxSize : Int) (yxWorth : Int)  : EncR cThing [.i .i64 yxId, .i .i64 yxKind, .i .i64 yxColour, .i .i64 yxSize, .i .i64 yxWorth] (⟨yxId, yxKind, yxColour, yxSize, yxWorth⟩ : Thing) := ⟨by rfl⟩
theorem ld_Thing (xs : List Thing) : lendRows (xs.map cThing) = xs.map cThing := t_lend (fun x => by simp only [e_cThing, lendRow, lendc]) xs
theorem cl_Thing (xs : List Thing) : cleanRows (xs.map cThing) = true := t_clean (fun x => by simp only [e_cThing, cleans, AV.clean, Bool.and_self]) xs
theorem et_Thing (x : Thing) : (⟨x.Id, x.Kind, x.Colour, x.Size, x.Worth⟩ : Thing) = x := _root_.id rfl
def cFind (x : Find) : List AV := [.i .i64 x.Thing.Id, .i .i64 x.Thing.Kind, .i .i64 x.Thing.Colour, .i .i64 x.Thing.Size, .i .i64 x.Thing.Worth, .i .i64 x.Place, .i .i64 x.At, .i .i64 x.Finder]
theorem e_cFind (x : Find) : cFind x = [.i .i64 x.Thing.Id, .i .i64 x.Thing.Kind, .i .i64 x.Thing.Colour, .i .i64 x.Thing.Size, .i .i64 x.Thing.Worth, .i .i64 x.Place, .i .i64 x.At, .i .i64 x.Finder] := _root_.id rfl
instance (yxThingxId : Int) (yxThingxKind : Int) (yxThingxColour : Int) (yxThingxSize : Int) (yxThingxWorth : Int) (yxPlace : Int) (yxAt : Int) (yxFinder : Int)  : EncR cFind [.i .i64 yxThingxId, .i .i64 yxThingxKind, .i .i64 yxThingxColour, .i .i64 yxThingxSize, .i .i64 yxThingxWorth, .i .i64 yxPlace, .i .i64 yxAt, .i .i64 yxFinder] (⟨⟨yxThingxId, yxThingxKind, yxThingxColour, yxThingxSize, yxThingxWorth⟩, yxPlace, yxAt, yxFinder⟩ : Find) := ⟨by rfl⟩
theorem ld_Find (xs : List Find) : lendRows (xs.map cFind) = xs.map cFind := t_lend (fun x => by simp only [e_cFind, lendRow, lendc]) xs
theorem cl_Find (xs : List Find) : cleanRows (xs.map cFind) = true := t_clean (fun x => by simp only [e_cFind, cleans, AV.clean, Bool.and_self]) xs
theorem et_Find (x : Find) : (⟨x.Thing, x.Place, x.At, x.Finder⟩ : Find) = x := _root_.id rfl
def encs := And.intro @e_c_i64 <| And.intro @ld_i64 <| And.intro @cl_i64 <| And.intro @ib_i64 <| And.intro @ro_i64 <| And.intro @e_c_u8 <| And.intro @ld_u8 <| And.intro @cl_u8 <| And.intro @ib_u8 <| And.intro @ro_u8 <| And.intro @e_c_b <| And.intro @ld_b <| And.intro @cl_b <| And.intro @ib_b <| And.intro @ro_b <| And.intro @e_c_s <| And.intro @ld_s <| And.intro @cl_s <| And.intro @ib_s <| And.intro @ro_s <| And.intro @e_cHit <| And.intro @ld_Hit <| And.intro @cl_Hit <| And.intro @et_Hit <| And.intro @e_cSlot <| And.intro @ld_Slot <| And.intro @cl_Slot <| And.intro @et_Slot <| And.intro @e_cClaim <| And.intro @ld_Claim <| And.intro @cl_Claim <| And.intro @et_Claim <| And.intro @e_cHand <| And.intro @ld_Hand <| And.intro @cl_Hand <| And.intro @et_Hand <| And.intro @e_cThing <| And.intro @ld_Thing <| And.intro @cl_Thing <| And.intro @et_Thing <| And.intro @e_cFind <| And.intro @ld_Find <| And.intro @cl_Find <| And.intro @et_Find @e_eq_Hit
theorem ty0 : tb Try.prog 63 = some 16 := by kernel_rfl
theorem ty1 : tb Try.prog 68 = some 40 := by kernel_rfl
theorem ty2 : tb Try.prog 74 = some 40 := by kernel_rfl
theorem ty3 : tb Try.prog 81 = some 64 := by kernel_rfl
theorem ty4 : tbd Try.prog 58 = .arr [.s [], .s [], .s [], .s [], .s [], .s [], .s []] 1 := by kernel_rfl
theorem ty5 : tbd Try.prog 60 = .st [.i .i64 0, .i .i64 0, .i .i64 0] [(0, 1), (1, 1), (2, 1)] := by kernel_rfl
theorem ty6 : teqP Try.prog 4 = some [.t] := by kernel_rfl
theorem ty7 : teqP Try.prog 63 = some [.i, .i] := by kernel_rfl
theorem ty8 : tfo Try.prog 60 0 = some (0, .one) := by kernel_rfl
theorem ty9 : tfo Try.prog 60 1 = some (1, .one) := by kernel_rfl
theorem ty10 : tfo Try.prog 60 2 = some (2, .one) := by kernel_rfl
theorem ty11 : tfo Try.prog 63 0 = some (0, .one) := by kernel_rfl
theorem ty12 : tfo Try.prog 63 1 = some (1, .one) := by kernel_rfl
theorem ty13 : tfo Try.prog 65 0 = some (0, .one) := by kernel_rfl
theorem ty14 : tfo Try.prog 65 1 = some (1, .one) := by kernel_rfl
theorem ty15 : tfo Try.prog 68 0 = some (0, .one) := by kernel_rfl
theorem ty16 : tfo Try.prog 68 1 = some (1, .one) := by kernel_rfl
theorem ty17 : tfo Try.prog 68 2 = some (2, .one) := by kernel_rfl
theorem ty18 : tfo Try.prog 68 3 = some (3, .one) := by kernel_rfl
theorem ty19 : tfo Try.prog 68 4 = some (4, .one) := by kernel_rfl
theorem ty20 : tfo Try.prog 70 0 = some (0, .one) := by kernel_rfl
theorem ty21 : tfo Try.prog 70 1 = some (1, .one) := by kernel_rfl
theorem ty22 : tfo Try.prog 70 2 = some (2, .one) := by kernel_rfl
theorem ty23 : tfo Try.prog 70 3 = some (3, .one) := by kernel_rfl
theorem ty24 : tfo Try.prog 70 4 = some (4, .one) := by kernel_rfl
theorem ty25 : tfo Try.prog 74 0 = some (0, .one) := by kernel_rfl
theorem ty26 : tfo Try.prog 74 1 = some (1, .one) := by kernel_rfl
theorem ty27 : tfo Try.prog 74 2 = some (2, .one) := by kernel_rfl
theorem ty28 : tfo Try.prog 74 3 = some (3, .one) := by kernel_rfl
theorem ty29 : tfo Try.prog 74 4 = some (4, .one) := by kernel_rfl
theorem ty30 : tfo Try.prog 76 0 = some (0, .one) := by kernel_rfl
theorem ty31 : tfo Try.prog 76 1 = some (1, .one) := by kernel_rfl
theorem ty32 : tfo Try.prog 76 2 = some (2, .one) := by kernel_rfl
theorem ty33 : tfo Try.prog 76 3 = some (3, .one) := by kernel_rfl
theorem ty34 : tfo Try.prog 76 4 = some (4, .one) := by kernel_rfl
theorem ty35 : tfo Try.prog 79 0 = some (0, .one) := by kernel_rfl
theorem ty36 : tfo Try.prog 79 1 = some (1, .one) := by kernel_rfl
theorem ty37 : tfo Try.prog 79 2 = some (2, .one) := by kernel_rfl
theorem ty38 : tfo Try.prog 79 3 = some (3, .one) := by kernel_rfl
theorem ty39 : tfo Try.prog 79 4 = some (4, .one) := by kernel_rfl
theorem ty40 : tfo Try.prog 81 0 = some (0, .agg 5) := by kernel_rfl
theorem ty41 : tfo Try.prog 81 1 = some (5, .one) := by kernel_rfl
theorem ty42 : tfo Try.prog 81 2 = some (6, .one) := by kernel_rfl
theorem ty43 : tfo Try.prog 81 3 = some (7, .one) := by kernel_rfl
theorem ty44 : tfo Try.prog 83 0 = some (0, .one) := by kernel_rfl
theorem ty45 : tfo Try.prog 83 1 = some (1, .one) := by kernel_rfl
theorem ty46 : tfo Try.prog 83 2 = some (2, .one) := by kernel_rfl
theorem ty47 : tfo Try.prog 83 3 = some (3, .one) := by kernel_rfl
theorem ty48 : tfo Try.prog 83 4 = some (4, .one) := by kernel_rfl
theorem ty49 : tfo Try.prog 85 0 = some (0, .agg 5) := by kernel_rfl
theorem ty50 : tfo Try.prog 85 1 = some (5, .one) := by kernel_rfl
theorem ty51 : tfo Try.prog 85 2 = some (6, .one) := by kernel_rfl
theorem ty52 : tfo Try.prog 85 3 = some (7, .one) := by kernel_rfl
theorem ty53 : ti Try.prog 24 = .sl 60 3 := by kernel_rfl
theorem ty54 : ti Try.prog 29 = .sl 65 2 := by kernel_rfl
theorem ty55 : ti Try.prog 32 = .sl 63 2 := by kernel_rfl
theorem ty56 : ti Try.prog 35 = .sl 70 5 := by kernel_rfl
theorem ty57 : ti Try.prog 38 = .sl 68 5 := by kernel_rfl
theorem ty58 : ti Try.prog 42 = .sl 76 5 := by kernel_rfl
theorem ty59 : ti Try.prog 45 = .sl 74 5 := by kernel_rfl
theorem ty60 : ti Try.prog 49 = .sl 85 8 := by kernel_rfl
theorem ty61 : ti Try.prog 52 = .sl 81 8 := by kernel_rfl
theorem ty62 : ti Try.prog 57 = .sl 9 1 := by kernel_rfl
theorem ty63 : ti Try.prog 58 = .arr 7 9 1 := by kernel_rfl
theorem ty64 : tk Try.prog 3 = .one := by kernel_rfl
theorem ty65 : tk Try.prog 58 = .agg 7 := by kernel_rfl
theorem ty66 : tk Try.prog 60 = .agg 3 := by kernel_rfl
theorem ty67 : tk Try.prog 63 = .agg 2 := by kernel_rfl
theorem ty68 : tk Try.prog 65 = .agg 2 := by kernel_rfl
theorem ty69 : tk Try.prog 68 = .agg 5 := by kernel_rfl
theorem ty70 : tk Try.prog 70 = .agg 5 := by kernel_rfl
theorem ty71 : tk Try.prog 74 = .agg 5 := by kernel_rfl
theorem ty72 : tk Try.prog 76 = .agg 5 := by kernel_rfl
theorem ty73 : tk Try.prog 79 = .agg 5 := by kernel_rfl
theorem ty74 : tk Try.prog 81 = .agg 8 := by kernel_rfl
theorem ty75 : tk Try.prog 83 = .agg 5 := by kernel_rfl
theorem ty76 : tk Try.prog 85 = .agg 8 := by kernel_rfl
theorem ty77 : tk Try.prog 9 = .one := by kernel_rfl
theorem ty78 : tnoint Try.prog 45 = true := by kernel_rfl
theorem ty79 : tse Try.prog 24 = some (60, 3, [.i .i64 0, .i .i64 0, .i .i64 0]) := by kernel_rfl
theorem ty80 : tse Try.prog 32 = some (63, 2, [.i .i64 0, .i .i64 0]) := by kernel_rfl
theorem ty81 : tse Try.prog 38 = some (68, 5, [.i .i64 0, .i .i64 0, .i .i64 0, .i .i64 0, .i .i64 0]) := by kernel_rfl
theorem ty82 : tse Try.prog 45 = some (74, 5, [.i .i64 0, .i .i64 0, .i .i64 0, .i .i64 0, .i .i64 0]) := by kernel_rfl
theorem ty83 : tse Try.prog 52 = some (81, 8, [.i .i64 0, .i .i64 0, .i .i64 0, .i .i64 0, .i .i64 0, .i .i64 0, .i .i64 0, .i .i64 0]) := by kernel_rfl
theorem ty84 : tse Try.prog 57 = some (9, 1, [.s []]) := by kernel_rfl
theorem ty85 : tzc Try.prog 58 = some [.s [], .s [], .s [], .s [], .s [], .s [], .s []] := by kernel_rfl
theorem ty86 : tzc Try.prog 63 = some [.i .i64 0, .i .i64 0] := by kernel_rfl
theorem ty87 : tzc Try.prog 68 = some [.i .i64 0, .i .i64 0, .i .i64 0, .i .i64 0, .i .i64 0] := by kernel_rfl
theorem ty88 : tzc Try.prog 74 = some [.i .i64 0, .i .i64 0, .i .i64 0, .i .i64 0, .i .i64 0] := by kernel_rfl
theorem ty89 : tzc Try.prog 79 = some [.i .i64 0, .i .i64 0, .i .i64 0, .i .i64 0, .i .i64 0] := by kernel_rfl
theorem ty90 : tzc Try.prog 81 = some [.i .i64 0, .i .i64 0, .i .i64 0, .i .i64 0, .i .i64 0, .i .i64 0, .i .i64 0, .i .i64 0] := by kernel_rfl
def tys := And.intro @ty0 <| And.intro @ty1 <| And.intro @ty2 <| And.intro @ty3 <| And.intro @ty4 <| And.intro @ty5 <| And.intro @ty6 <| And.intro @ty7 <| And.intro @ty8 <| And.intro @ty9 <| And.intro @ty10 <| And.intro @ty11 <| And.intro @ty12 <| And.intro @ty13 <| And.intro @ty14 <| And.intro @ty15 <| And.intro @ty16 <| And.intro @ty17 <| And.intro @ty18 <| And.intro @ty19 <| And.intro @ty20 <| And.intro @ty21 <| And.intro @ty22 <| And.intro @ty23 <| And.intro @ty24 <| And.intro @ty25 <| And.intro @ty26 <| And.intro @ty27 <| And.intro @ty28 <| And.intro @ty29 <| And.intro @ty30 <| And.intro @ty31 <| And.intro @ty32 <| And.intro @ty33 <| And.intro @ty34 <| And.intro @ty35 <| And.intro @ty36 <| And.intro @ty37 <| And.intro @ty38 <| And.intro @ty39 <| And.intro @ty40 <| And.intro @ty41 <| And.intro @ty42 <| And.intro @ty43 <| And.intro @ty44 <| And.intro @ty45 <| And.intro @ty46 <| And.intro @ty47 <| And.intro @ty48 <| And.intro @ty49 <| And.intro @ty50 <| And.intro @ty51 <| And.intro @ty52 <| And.intro @ty53 <| And.intro @ty54 <| And.intro @ty55 <| And.intro @ty56 <| And.intro @ty57 <| And.intro @ty58 <| And.intro @ty59 <| And.intro @ty60 <| And.intro @ty61 <| And.intro @ty62 <| And.intro @ty63 <| And.intro @ty64 <| And.intro @ty65 <| And.intro @ty66 <| And.intro @ty67 <| And.intro @ty68 <| And.intro @ty69 <| And.intro @ty70 <| And.intro @ty71 <| And.intro @ty72 <| And.intro @ty73 <| And.intro @ty74 <| And.intro @ty75 <| And.intro @ty76 <| And.intro @ty77 <| And.intro @ty78 <| And.intro @ty79 <| And.intro @ty80 <| And.intro @ty81 <| And.intro @ty82 <| And.intro @ty83 <| And.intro @ty84 <| And.intro @ty85 <| And.intro @ty86 <| And.intro @ty87 <| And.intro @ty88 <| And.intro @ty89 @ty90
noncomputable def T : Tld := ⟨Try.prog, [(3, {}), (5, {}), (6, {}), (7, {}), (8, {}), (9, {}), (10, { jn := [(2, (10, 5, 10))] }), (11, {}), (12, {}), (13, { lp := [(4, ⟨[0, 1, 5], [], [], []⟩)], rt := ⟨[4], [], [], []⟩ }), (15, { lp := [(2, ⟨[0, 1, 5], [], [1], []⟩)], rt := ⟨[4], [], [], []⟩ }), (16, {}), (17, { lp := [(4, ⟨[0, 1, 5], [], [], []⟩)], rt := ⟨[4], [], [], []⟩ }), (18, { lp := [(3, ⟨[0, 3, 4], [.s 3 2], [3], [.s 3 2]⟩)] }), (19, {}), (20, { lp := [(4, ⟨[0, 1, 5], [], [], []⟩)], rt := ⟨[4], [], [], []⟩ }), (21, {}), (22, { lp := [(3, ⟨[0, 3, 4], [], [3], []⟩)] }), (23, { lp := [(3, ⟨[0, 3, 4], [.s 3 5], [3], [.s 3 5]⟩)] }), (24, { lp := [(3, ⟨[3, 6, 7, 8], [], [3], []⟩)] }), (25, { lp := [(4, ⟨[0, 1, 5], [], [], []⟩)], rt := ⟨[4], [], [], []⟩ }), (26, {}), (27, { lp := [(4, ⟨[5, 6, 7], [.s 6 5], [5], []⟩)] }), (28, { lp := [(3, ⟨[0, 3, 4], [.s 3 5], [3], [.s 3 5]⟩)] }), (29, { lp := [(4, ⟨[5, 6, 7], [.s 6 5], [5], []⟩)] }), (30, { lp := [(4, ⟨[0, 1, 5], [], [], []⟩)], rt := ⟨[4], [], [], []⟩ }), (31, {}), (32, { lp := [(3, ⟨[0, 1, 5, 6], [], [5], []⟩)] }), (33, { lp := [(3, ⟨[0, 3, 4], [.s 3 8], [3], [.s 3 8]⟩)] }), (34, { lp := [(3, ⟨[1, 5, 8, 9, 10], [], [5], []⟩)] }), (35, { lp := [(4, ⟨[0, 1, 5], [], [], []⟩)], rt := ⟨[4], [], [], []⟩ }), (36, { jn := [(1, (6, 7, 15))] }), (37, {}), (38, {}), (39, { lp := [(4, ⟨[0, 1, 12, 13], [], [], []⟩)], rt := ⟨[4], [], [], []⟩ }), (40, {}), (41, {}), (42, {}), (43, { lp := [(3, ⟨[0, 1, 5, 6], [.s 5 5], [5], [.s 5 5]⟩)] }), (44, {}), (45, { lp := [(3, ⟨[1, 5, 9, 10, 11], [.s 5 5], [5], [.s 5 5]⟩)] }), (46, {}), (47, {}), (48, {}), (49, {}), (50, {})]⟩
theorem TP : T.P = Try.prog := _root_.id rfl
theorem a3 : T.at 3 = some {} := by kernel_rfl
theorem a5 : T.at 5 = some {} := by kernel_rfl
theorem a6 : T.at 6 = some {} := by kernel_rfl
theorem a7 : T.at 7 = some {} := by kernel_rfl
theorem a8 : T.at 8 = some {} := by kernel_rfl
theorem a9 : T.at 9 = some {} := by kernel_rfl
theorem a10 : T.at 10 = some { jn := [(2, (10, 5, 10))] } := by kernel_rfl
theorem a11 : T.at 11 = some {} := by kernel_rfl
theorem a12 : T.at 12 = some {} := by kernel_rfl
theorem a13 : T.at 13 = some { lp := [(4, ⟨[0, 1, 5], [], [], []⟩)], rt := ⟨[4], [], [], []⟩ } := by kernel_rfl
theorem a15 : T.at 15 = some { lp := [(2, ⟨[0, 1, 5], [], [1], []⟩)], rt := ⟨[4], [], [], []⟩ } := by kernel_rfl
theorem a16 : T.at 16 = some {} := by kernel_rfl
theorem a17 : T.at 17 = some { lp := [(4, ⟨[0, 1, 5], [], [], []⟩)], rt := ⟨[4], [], [], []⟩ } := by kernel_rfl
theorem a18 : T.at 18 = some { lp := [(3, ⟨[0, 3, 4], [.s 3 2], [3], [.s 3 2]⟩)] } := by kernel_rfl
theorem a19 : T.at 19 = some {} := by kernel_rfl
theorem a20 : T.at 20 = some { lp := [(4, ⟨[0, 1, 5], [], [], []⟩)], rt := ⟨[4], [], [], []⟩ } := by kernel_rfl
theorem a21 : T.at 21 = some {} := by kernel_rfl
theorem a22 : T.at 22 = some { lp := [(3, ⟨[0, 3, 4], [], [3], []⟩)] } := by kernel_rfl
theorem a23 : T.at 23 = some { lp := [(3, ⟨[0, 3, 4], [.s 3 5], [3], [.s 3 5]⟩)] } := by kernel_rfl
theorem a24 : T.at 24 = some { lp := [(3, ⟨[3, 6, 7, 8], [], [3], []⟩)] } := by kernel_rfl
theorem a25 : T.at 25 = some { lp := [(4, ⟨[0, 1, 5], [], [], []⟩)], rt := ⟨[4], [], [], []⟩ } := by kernel_rfl
theorem a26 : T.at 26 = some {} := by kernel_rfl
theorem a27 : T.at 27 = some { lp := [(4, ⟨[5, 6, 7], [.s 6 5], [5], []⟩)] } := by kernel_rfl
theorem a28 : T.at 28 = some { lp := [(3, ⟨[0, 3, 4], [.s 3 5], [3], [.s 3 5]⟩)] } := by kernel_rfl
theorem a29 : T.at 29 = some { lp := [(4, ⟨[5, 6, 7], [.s 6 5], [5], []⟩)] } := by kernel_rfl
theorem a30 : T.at 30 = some { lp := [(4, ⟨[0, 1, 5], [], [], []⟩)], rt := ⟨[4], [], [], []⟩ } := by kernel_rfl
theorem a31 : T.at 31 = some {} := by kernel_rfl
theorem a32 : T.at 32 = some { lp := [(3, ⟨[0, 1, 5, 6], [], [5], []⟩)] } := by kernel_rfl
theorem a33 : T.at 33 = some { lp := [(3, ⟨[0, 3, 4], [.s 3 8], [3], [.s 3 8]⟩)] } := by kernel_rfl
theorem a34 : T.at 34 = some { lp := [(3, ⟨[1, 5, 8, 9, 10], [], [5], []⟩)] } := by kernel_rfl
theorem a35 : T.at 35 = some { lp := [(4, ⟨[0, 1, 5], [], [], []⟩)], rt := ⟨[4], [], [], []⟩ } := by kernel_rfl
theorem a36 : T.at 36 = some { jn := [(1, (6, 7, 15))] } := by kernel_rfl
theorem a37 : T.at 37 = some {} := by kernel_rfl
theorem a38 : T.at 38 = some {} := by kernel_rfl
theorem a39 : T.at 39 = some { lp := [(4, ⟨[0, 1, 12, 13], [], [], []⟩)], rt := ⟨[4], [], [], []⟩ } := by kernel_rfl
theorem a40 : T.at 40 = some {} := by kernel_rfl
theorem a41 : T.at 41 = some {} := by kernel_rfl
theorem a42 : T.at 42 = some {} := by kernel_rfl
theorem a43 : T.at 43 = some { lp := [(3, ⟨[0, 1, 5, 6], [.s 5 5], [5], [.s 5 5]⟩)] } := by kernel_rfl
theorem a44 : T.at 44 = some {} := by kernel_rfl
theorem a45 : T.at 45 = some { lp := [(3, ⟨[1, 5, 9, 10, 11], [.s 5 5], [5], [.s 5 5]⟩)] } := by kernel_rfl
theorem a46 : T.at 46 = some {} := by kernel_rfl
theorem a47 : T.at 47 = some {} := by kernel_rfl
theorem a48 : T.at 48 = some {} := by kernel_rfl
theorem a49 : T.at 49 = some {} := by kernel_rfl
theorem a50 : T.at 50 = some {} := by kernel_rfl
end Go.Proofs.Ytbbnecdpcblcfaa
