/- The law GridMay of the package parquetrylaw25 answers true for every view that comes in, whatever its size, and the view reads afterwards as it read before. Conditions: those of the given row alone. -/
import Derived.Test.YtchccpmjhajcaaaGreatRows
import Derived.Test.YtchccpmjhajcaaaGreatC0
import Derived.ProofKit
import Derived.OpenShut
import Derived.JoinedOf
set_option linter.unusedVariables false
set_option linter.unusedSimpArgs false
namespace Go.Proofs.YtchccpmjhajcaaaGreat
open Go.ChangeShapes Go.WideShapes Go.RowKit

theorem gridMay_own : ownKnob Tryz.prog.godebug = none := by kernel_rfl
theorem gridMay_types : VE.TyOk Tryz.prog := VE.tyOk_of (by kernel_rfl) (by kernel_rfl) (by kernel_rfl)
theorem gridMay_view : VE.shapeT Tryz.prog 8 28 = some (VE.viewT 3 59 75) := by kernel_rfl
theorem gridMay_28 : 28 < Tryz.prog.types.size := Nat.le_of_ble_eq_true (by kernel_rfl)
theorem gridMay_types_in : ∀ t ∈ Tryz.f3.params.toList, t < Tryz.prog.types.size := by
  rw [Tryz.params3]
  intro t ht
  rw [List.mem_singleton.1 ht]
  exact gridMay_28
theorem gridMay_cells : (Tryz.prog.cellsOf 3 = 1 ∧ Tryz.prog.bytesOf 3 = 8) ∧ (Tryz.prog.cellsOf 59 = 6 ∧ Tryz.prog.bytesOf 59 = 56) ∧ (Tryz.prog.cellsOf 75 = 4 ∧ Tryz.prog.bytesOf 75 = 32) :=
  ⟨⟨by kernel_rfl, by kernel_rfl⟩, ⟨by kernel_rfl, by kernel_rfl⟩, ⟨by kernel_rfl, by kernel_rfl⟩⟩
theorem gridMay_res : Tryz.f3.resultTypes = #[4] := by kernel_rfl

set_option maxRecDepth 100000 in
theorem gridMay_contract (H : Type) (enc : TypeId × Value → H) (W : World) (base : Nat) (args : Array Value) (ds gs : List (DataW H)) (before : List MemPlace)
    (hval : ∀ (j : Nat) t v, Tryz.f3.params[j]? = some t → args[j]? = some v → Value.okWide Tryz.prog W .any base t v)
    (hW : DataW.Whole enc Tryz.prog Tryz.f3.params.toList Rows.gridMaySpec.vars false W args.toList ds gs before)
    (hw : (DataW.weightsEach Tryz.prog (Tryz.f3.params.toList ++ Rows.gridMaySpec.plain.varTypes Tryz.prog) (ds ++ gs)).all (· ≤ reachBytes) = true) :
    Calls Tryz.prog 3 args W fun e W' => ∃ v, e = .returned v ∧ Rows.gridMaySpec.post enc Tryz.prog Tryz.f3 false true false false W args v W' := by
  have hW' := hW
  obtain ⟨p, q, hA0, hV, rfl, hfz, hnd⟩ := hW
  have hA : DataW.TrodAll enc Tryz.prog W 0 (fun _ => true) true Tryz.f3.params.toList args.toList ds p := hA0
  rw [Tryz.params3] at hA hval hw
  obtain ⟨v0, vs0, d0, ds0, p0, q0, hargs, rfl, rfl, h0, r0⟩ := trodAll_cons hA
  obtain ⟨rfl, rfl, rfl⟩ := trodAll_nil r0
  obtain rfl : args = #[v0] := by cases args; simp_all
  obtain ⟨rfl, rfl⟩ := trodVars_none hV
  have hwt : ∀ m ∈ d0.weights Tryz.prog 28, m ≤ reachBytes := fun m hm => of_decide_eq_true (List.all_eq_true.1 hw m (List.mem_append_left _ hm))
  have hv : Value.okWide Tryz.prog W .any base 28 v0 := hval 0 28 v0 (by simp) (by simp)
  obtain ⟨us, cs, rfl, hL⟩ := VE.arg_struct gridMay_types Tryz.underlying28 gridMay_view gridMay_28 hv h0 hwt
  obtain ⟨sh, vw, vh, vc, vm, w, h, u, v, rfl, R, F, I⟩ := VE.view_in hL gridMay_cells.1 gridMay_cells.2.1 gridMay_cells.2.2
  exact VE.row_law (E := VE.E) VE.envOk VE.tabOk VE.memOkF gridMay_types gridMay_types_in rfl gridMay_res Tryz.underlying4 hW' rfl (.cons (.ag hL.rel) .nil)
    (VE.GridMay_ok _ _ (Nat.le_refl _) R F I w h u v)

set_option maxRecDepth 100000 in
theorem gridMay_lifted (os : Os) (started : os.Started) (H : Type) (enc : TypeId × Value → H) :
    ReturnsInHanded {} Tryz.checked os 3 .any (Rows.gridMaySpec.pre6 enc Tryz.prog Tryz.f3 Rows.gridMayRow.domain false) (Rows.gridMaySpec.post enc Tryz.prog Tryz.f3 false true false false) := by
  refine returnsInHanded_of_change_sized (C := Tryz.checked) gridMay_own started (by kernel_rfl) Tryz.func3
    (ChangeSpec.witness6 (enc := enc) (C := Tryz.checked) false ⟨#[], #[.agg #[.int .i64 0, .slice none 0 0, .slice none 0 0, .slice none 0 0, .slice none 0 0, .int .i64 0, .int .i64 0, .int .i64 0, .int .i64 0]], []⟩ 8 (by kernel_rfl) (by kernel_rfl) (by kernel_rfl) (by kernel_rfl)) ?_
  intro W base args ds gs before hval hW _ hw _
  exact gridMay_contract H enc W base args ds gs before hval hW hw

theorem gridMay_facts : joinedFacts Tryz.prog 3 Tryz.f3 Rows.gridMaySpec Rows.gridMayRow = true := by kernel_rfl
theorem gridMay_named : Tryz.prog.funcNamed Rows.gridMayRow.func = some 3 := by kernel_rfl
theorem gridMay_inst : Tryz.f3.isInstance Tryz.prog Rows.gridMayRow.origin Rows.gridMayRow.targs := of_decide_eq_true (by kernel_rfl)
theorem gridMay_wrap : Tryz.f3.isWrapper Tryz.prog Rows.gridMayRow.wrapper Rows.gridMayRow.mainSum := by
  unfold Func.isWrapper; first | (rw [if_pos (by decide +kernel)]; kernel_rfl) | (rw [if_neg (by decide +kernel)]; exact ⟨rfl, rfl⟩)

theorem gridMay_proved : Rows.GridMaySaid :=
  OpenClaim.holds_of_wide 3 Tryz.f3 rfl rfl rfl rfl rfl rfl rfl ⟨rfl, rfl, rfl, rfl, rfl⟩ rfl rfl rfl rfl rfl gridMay_named Tryz.func3 gridMay_facts
    gridMay_inst gridMay_wrap (fun os started H enc _ => gridMay_lifted os started H enc)
end Go.Proofs.YtchccpmjhajcaaaGreat
