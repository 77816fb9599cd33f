/- The law FnExactCountEvents of typed values. No condition. -/
import Derived.Test.YtomlnigcnkjelaaFam
namespace Go.Proofs.Ytomlnigcnkjelaa
open Go
set_option linter.unusedVariables false
set_option linter.unusedSimpArgs false
theorem countEvents (l : List Event) (k : Int) (h : l.length ≤ 1048576) : ∃ c, spec_CountEvents l k = some c ∧ impl_CountEvents l k = some c := by
  have hr := run_loop l (step := spec_CountEvents_l3 l k) (fun i (n : Int) => (n, (i : Int))) (fun _ n x => some (.inl (bif decide (x.Kind = k) then w64 (n + 1) else n))) (fun n => some n) 0
    (fun i s hi => by simp only [spec_CountEvents_l3, lt_ln hi, inb_n hi, gt_n hi, w64_n (show (i : Int) < 9223372036854775807 by omega), cond_true, need_true, Option.map_some, Sum.map_inl]; cases decide (l[i].Kind = k) <;> rfl)
    (fun s => by simp only [spec_CountEvents_l3, ge_ln (Nat.le_refl _), cond_false, Option.map_some])
  rw [loopI_fold l 0 0 (fun _ _ _ _ => rfl)] at hr
  obtain ⟨c, hr⟩ : ∃ c, run (spec_CountEvents_l3 l k) (0, ((0 : Nat) : Int)) = some c := ⟨_, hr⟩
  exact ⟨c, by unfold spec_CountEvents; rw [show ((0 : Int), (0 : Int)) = ((0 : Int), ((0 : Nat) : Int)) from rfl, hr]; rfl, by unfold impl_CountEvents; rw [show impl_CountEvents_l3 k l (ln l) = spec_CountEvents_l3 l k from rfl, show ((0 : Int), (0 : Int)) = ((0 : Int), ((0 : Nat) : Int)) from rfl, hr]; rfl⟩
theorem pure_FnExactCountEvents (aList : List Event) (aKind : Int) (h1 : (okL okEvent) aList) (h2 : i64 aKind) : laws_FnExactCountEvents aList aKind = some true := by
  unfold laws_FnExactCountEvents
  obtain ⟨r, e, hle, h | ⟨hp, hs⟩⟩ := szEventS_sm aList 1048576 h1 (by omega) (by omega)
  · subst h; rw [e]; rfl
  · obtain ⟨c, hc1, hc2⟩ := countEvents aList aKind hs.1
    have hd : decide (r < 0) = false := decide_eq_false (by omega)
    simp [e, hd, toEventS_id aList hs, hc1, hc2, eqEventS_refl aList hs]
end Go.Proofs.Ytomlnigcnkjelaa
