/- The law ViewNobody of the package parquetrylaw27 answers true for every step that comes in, whatever its text's length, and the step reads afterwards as it read before. Conditions: those of the given row alone. -/
import Derived.Test.YtchccpmjhajcaaaGreatRows
import Derived.Test.YtchccpmjhajcaaaGreatC0
import Derived.ProofKit
import Derived.OpenShut
import Derived.JoinedOf
set_option linter.unusedVariables false
set_option linter.unusedSimpArgs false
namespace Go.Proofs.YtchccpmjhajcaaaGreat
open Go.ChangeShapes Go.WideShapes Go.RowKit

theorem viewNobody_own : ownKnob Tryz.prog.godebug = none := by kernel_rfl
theorem viewNobody_types : VE.TyOk Tryz.prog := VE.tyOk_of (by kernel_rfl) (by kernel_rfl) (by kernel_rfl)
theorem viewNobody_step : VE.shapeT Tryz.prog 8 38 = some VE.stepT := by kernel_rfl
theorem viewNobody_38 : 38 < Tryz.prog.types.size := Nat.le_of_ble_eq_true (by kernel_rfl)
theorem viewNobody_types_in : ∀ t ∈ Tryz.f4.params.toList, t < Tryz.prog.types.size := by
  rw [Tryz.params4]
  intro t ht
  rw [List.mem_singleton.1 ht]
  exact viewNobody_38
theorem viewNobody_res : Tryz.f4.resultTypes = #[4] := by kernel_rfl

set_option maxRecDepth 100000 in
theorem viewNobody_contract (H : Type) (enc : TypeId × Value → H) (W : World) (base : Nat) (args : Array Value) (ds gs : List (DataW H)) (before : List MemPlace)
    (hval : ∀ (j : Nat) t v, Tryz.f4.params[j]? = some t → args[j]? = some v → Value.okWide Tryz.prog W .any base t v)
    (hW : DataW.Whole enc Tryz.prog Tryz.f4.params.toList Rows.viewNobodySpec.vars false W args.toList ds gs before)
    (hw : (DataW.weightsEach Tryz.prog (Tryz.f4.params.toList ++ Rows.viewNobodySpec.plain.varTypes Tryz.prog) (ds ++ gs)).all (· ≤ reachBytes) = true) :
    Calls Tryz.prog 4 args W fun e W' => ∃ v, e = .returned v ∧ Rows.viewNobodySpec.post enc Tryz.prog Tryz.f4 false true false false W args v W' := by
  have hW' := hW
  obtain ⟨p, q, hA0, hV, rfl, hfz, hnd⟩ := hW
  have hA : DataW.TrodAll enc Tryz.prog W 0 (fun _ => true) true Tryz.f4.params.toList args.toList ds p := hA0
  rw [Tryz.params4] at hA hval hw
  obtain ⟨v0, vs0, d0, ds0, p0, q0, hargs, rfl, rfl, h0, r0⟩ := trodAll_cons hA
  obtain ⟨rfl, rfl, rfl⟩ := trodAll_nil r0
  obtain rfl : args = #[v0] := by cases args; simp_all
  obtain ⟨rfl, rfl⟩ := trodVars_none hV
  have hwt : ∀ m ∈ d0.weights Tryz.prog 38, m ≤ reachBytes := fun m hm => of_decide_eq_true (List.all_eq_true.1 hw m (List.mem_append_left _ hm))
  have hv : Value.okWide Tryz.prog W .any base 38 v0 := hval 0 38 v0 (by simp) (by simp)
  obtain ⟨us, cs, rfl, hL⟩ := VE.arg_struct viewNobody_types Tryz.underlying38 viewNobody_step viewNobody_38 hv h0 hwt
  obtain ⟨k, r, c, rs, cs, n, sz, tx, al, wr, di, rfl⟩ := VE.step_in hL
  exact VE.row_law (E := VE.E) VE.envOk VE.tabOk VE.memOkF viewNobody_types viewNobody_types_in rfl viewNobody_res Tryz.underlying4 hW' rfl (.cons (.ag hL.rel) .nil)
    (VE.ViewNobody_ok _ _ (Nat.le_refl _) k r c rs cs n sz tx al wr di)

set_option maxRecDepth 100000 in
theorem viewNobody_lifted (os : Os) (started : os.Started) (H : Type) (enc : TypeId × Value → H) :
    ReturnsInHanded {} Tryz.checked os 4 .any (Rows.viewNobodySpec.pre6 enc Tryz.prog Tryz.f4 Rows.viewNobodyRow.domain false) (Rows.viewNobodySpec.post enc Tryz.prog Tryz.f4 false true false false) := by
  refine returnsInHanded_of_change_sized (C := Tryz.checked) viewNobody_own started (by kernel_rfl) Tryz.func4
    (ChangeSpec.witness6 (enc := enc) (C := Tryz.checked) false ⟨#[], #[.agg #[.int .i64 0, .int .i64 0, .int .i64 0, .int .i64 0, .int .i64 0, .int .i64 0, .int .i64 0, .string ⟨⟨[]⟩⟩, .int .i64 0, .int .i64 0, .int .i64 0]], []⟩ 8 (by kernel_rfl) (by kernel_rfl) (by kernel_rfl) (by kernel_rfl)) ?_
  intro W base args ds gs before hval hW _ hw _
  exact viewNobody_contract H enc W base args ds gs before hval hW hw

theorem viewNobody_facts : joinedFacts Tryz.prog 4 Tryz.f4 Rows.viewNobodySpec Rows.viewNobodyRow = true := by kernel_rfl
theorem viewNobody_named : Tryz.prog.funcNamed Rows.viewNobodyRow.func = some 4 := by kernel_rfl
theorem viewNobody_inst : Tryz.f4.isInstance Tryz.prog Rows.viewNobodyRow.origin Rows.viewNobodyRow.targs := of_decide_eq_true (by kernel_rfl)
theorem viewNobody_wrap : Tryz.f4.isWrapper Tryz.prog Rows.viewNobodyRow.wrapper Rows.viewNobodyRow.mainSum := by
  unfold Func.isWrapper; first | (rw [if_pos (by decide +kernel)]; kernel_rfl) | (rw [if_neg (by decide +kernel)]; exact ⟨rfl, rfl⟩)

theorem viewNobody_proved : Rows.ViewNobodySaid :=
  OpenClaim.holds_of_wide 4 Tryz.f4 rfl rfl rfl rfl rfl rfl rfl ⟨rfl, rfl, rfl, rfl, rfl⟩ rfl rfl rfl rfl rfl viewNobody_named Tryz.func4 viewNobody_facts
    viewNobody_inst viewNobody_wrap (fun os started H enc _ => viewNobody_lifted os started H enc)
end Go.Proofs.YtchccpmjhajcaaaGreat
