/- The law FnExactFindAll of typed values. No condition. -/
import Derived.Test.YtcpelionmmnogaaFam
import Derived.Test.YtcpelionmmnogaaMk
namespace Go.Proofs.Ytcpelionmmnogaa
open Go
set_option linter.unusedVariables false
set_option linter.unusedSimpArgs false
def foundE (m : List Mark) (x : Find) : Event := ⟨1, x, m, 0, 0, 0, []⟩
theorem findAll (l : List Find) (m : List Mark) (hl : l.length ≤ 1048576) (hm : m.length ≤ 1048576) : spec_FindAll l m = some (l.map (foundE m)) ∧ impl_FindAll l m = some (l.map (foundE m)) := by
  have hrm : rm (0 + m.length) 16 = true := rm_ok (by omega) (by omega)
  have h1 := run_traj (step := spec_FindAll_l3 l m) (fun i => ((l.take i).map (foundE m), (i : Int))) (r := l.map (foundE m)) l.length (fun i hi => by
      have hr2 : rm (((l.take i).map (foundE m)).length + 1) 144 = true := rm_ok (by rw [List.length_map, List.length_take]; omega) (by omega)
      simp only [spec_FindAll_l3, lt_ln hi, inb_n hi, gt_n hi, hrm, hr2, cond_true, need_true, w64_n (show (i : Int) < 9223372036854775807 by omega)]
      rw [List.take_succ_eq_append_getElem hi, List.map_append]; rfl)
    (by simp only [spec_FindAll_l3, ge_ln (Nat.le_refl _), cond_false, List.take_length])
  have h2 := run_traj (step := impl_FindAll_l3 m l (ln l)) (fun i => ((l.take i).map (foundE m), (i : Int))) (r := l.map (foundE m)) l.length (fun i hi => by
      have hr2 : rm (((l.take i).map (foundE m)).length + 1) 144 = true := rm_ok (by rw [List.length_map, List.length_take]; omega) (by omega)
      simp only [impl_FindAll_l3, slices_Clone_Mark, lt_ln hi, inb_n hi, gt_n hi, hrm, hr2, cond_true, need_true, Option.bind_some, w64_n (show (i : Int) < 9223372036854775807 by omega)]
      rw [List.take_succ_eq_append_getElem hi, List.map_append]; rfl)
    (by simp only [impl_FindAll_l3, ge_ln (Nat.le_refl _), cond_false, List.take_length])
  refine ⟨?_, ?_⟩
  · unfold spec_FindAll
    rw [show run (spec_FindAll_l3 l m) ([], 0) = _ from by simpa using h1]; rfl
  · unfold impl_FindAll
    rw [show run (impl_FindAll_l3 m l (ln l)) ([], 0) = _ from by simpa using h2]; rfl
theorem pure_FnExactFindAll (aL : List Find) (a : List Mark) (h1 : (okL okFind) aL) (h2 : (okL okMark) a) : laws_FnExactFindAll aL a = some true := by
  unfold laws_FnExactFindAll
  obtain ⟨r, e, hle, h | ⟨hp, hs⟩⟩ := szFindS_sm aL 1048576 h1.1 (by omega) (by omega)
  · subst h; rw [e]; rfl
  obtain ⟨r2, e2, hle2, h | ⟨hp2, hs2⟩⟩ := szMarkS_sm a r h2.1 hp (by omega)
  · have hd : decide (r < 0) = false := decide_eq_false (by omega)
    subst h; simp only [e, e2, hd, Option.bind_some, cond_false]; rfl
  have hd : decide (r < 0) = false := decide_eq_false (by omega)
  have hd2 : decide (r2 < 0) = false := decide_eq_false (by omega)
  obtain ⟨f1, f2⟩ := findAll aL a hs hs2
  have hsm : smL sm_Event (aL.map (foundE a)) := ⟨by rw [List.length_map]; exact hs, fun x hx => by
    obtain ⟨y, _, rfl⟩ := List.mem_map.1 hx
    exact ⟨hs2, by simp [foundE]⟩⟩
  have hq := eqEventS_refl _ hsm
  obtain ⟨n1, k1, g1, u1, v1⟩ := mk_FindS aL 1 (by omega) (fun _ _ => trivial) (by omega) (by omega)
  obtain ⟨n2, k2, g2, _, u2, v2⟩ := mk_MarkS a k1 (by omega) (fun _ _ => trivial) (by omega) (by omega)
  obtain ⟨n3, k3, g3, g4, u3, v3⟩ := mk_EventS (aL.map (foundE a)) 1 (by rw [List.length_map]; omega) (fun x hx => by
    obtain ⟨z1, z2⟩ := hsm.2 x hx
    exact ⟨by omega, by omega⟩) (by omega) (by omega)
  have hk2 : decide (k2 < 0) = false := decide_eq_false (by omega)
  have hk3 : decide (k3 < 0) = false := decide_eq_false (by omega)
  simp only [e, e2, hd, hd2, toFindS_id aL hs, toMarkS_id a hs2, f1, f2, hq, eqFindS_refl aL hs, eqMarkS_refl a hs2, g1, g2, g3, g4, hk2, hk3, Option.bind_some, cond_false, Bool.not_true, decide_true]
end Go.Proofs.Ytcpelionmmnogaa
