/- What law27 awake calls, reckoned once each: level 1. -/
import Derived.Test.YtchccpmjhajcaaaGreatAw0
set_option linter.unusedVariables false
set_option linter.unusedSimpArgs false
set_option linter.unusedSectionVars false
namespace VE
open Go
def mem1 : Tr (List Memo) := (.node (.node (.node (.node (.node (.node .nil (some [m7, m1]) (.node (.node (.node .nil (some [m55]) .nil) none .nil) none (.node .nil (some [m35, m34]) .nil))) none .nil) none (.node .nil none (.node .nil none (.node .nil none (.node .nil (some [m61]) .nil))))) none (.node (.node .nil none (.node .nil none (.node (.node (.node .nil (some [m44, m43, m39, m38]) .nil) none .nil) none .nil))) none (.node .nil none (.node (.node .nil (some [m78, m45, m40, m27, m22, m20, m18, m15, m10, m9]) .nil) none .nil)))) none (.node (.node (.node (.node (.node .nil none (.node (.node .nil (some [m59, m58]) .nil) none .nil)) none .nil) none (.node .nil none (.node .nil (some [m31]) .nil))) none (.node (.node .nil none (.node (.node .nil (some [m69]) .nil) none .nil)) none .nil)) none (.node .nil none (.node (.node (.node (.node (.node .nil (some [m42, m37]) .nil) none .nil) none .nil) none .nil) none (.node (.node (.node (.node .nil (some [m56, m53]) .nil) none .nil) none .nil) none .nil))))) none (.node (.node .nil none (.node (.node (.node (.node .nil none (.node .nil (some [m67]) .nil)) none (.node (.node .nil (some [m65]) .nil) none (.node .nil (some [m47]) .nil))) none .nil) none .nil)) none (.node (.node .nil none (.node .nil none (.node .nil none (.node (.node .nil (some [m50]) .nil) none .nil)))) none (.node .nil none (.node (.node .nil none (.node .nil none (.node .nil (some [m51]) .nil))) (some [m6, m0]) (.node (.node (.node (.node .nil (some [m54]) .nil) none .nil) none .nil) none .nil))))))
def m2 : Memo := ⟨k_sheet_Check, [(.ag [z, (.sl 0 0 1 1 1 false), (.sl 1 0 1 1 1 false), .sn, .sn])], [.cells [(.i .i64 (.ofNat 3))], .cells [(.i .i64 (.ofNat 1))]], z, []⟩
def m8 : Memo := ⟨k_sheet_Check, [(.ag [z, (.sl 0 0 1 1 1 false), (.sl 1 0 1 1 1 false), (.sl 2 0 1 1 6 false), .sn])], [.cells [(.i .i64 (.ofNat 3))], .cells [(.i .i64 (.ofNat 1))], .cells [z, z, (.s [97, 98]), z, z, z]], z, []⟩
def m32 : Memo := ⟨k_axis_Size, [(.sl 0 0 1 1 1 false), (.sl 1 0 1 1 1 false), (.ag [z, z, (.i .i64 (.ofNat 1)), (.i .i64 (.ofNat 1))])], [.cells [(.i .i64 (.ofNat 3))], .cells [(.i .i64 (.ofNat 1))]], (.tu [(.c .f64 4613937818241073152 4607182418800017408), z]), []⟩
def m36 : Memo := ⟨k_base_Paragraphs, [(.sl 0 0 2 2 3 false)], [.cells [z, (.i .i64 (.ofNat 1)), (.i .i64 (.ofNat 97)), (.i .i64 (.ofNat 1)), (.i .i64 (.ofNat 1)), (.i .i64 (.ofNat 98))]], (.sl 1 0 1 1 1 false), [.cells [(.i .i64 (.ofNat 2))]]⟩
def m41 : Memo := ⟨k_cluster_see, [(.ag [z, (.i .i64 (.ofNat 1)), (.i .i64 (.ofNat 97))])], [], (.ag [z, (.i .i64 (.ofNat 1)), (.i .i64 (.ofNat 97)), z, (.i .i64 (.ofNat 1)), (.b false)]), []⟩
def m46 : Memo := ⟨k_cluster_see, [(.ag [(.i .i64 (.ofNat 1)), (.i .i64 (.ofNat 1)), (.i .i64 (.ofNat 98))])], [], (.ag [(.i .i64 (.ofNat 1)), (.i .i64 (.ofNat 1)), (.i .i64 (.ofNat 98)), z, (.i .i64 (.ofNat 1)), (.b false)]), []⟩
def m49 : Memo := ⟨k_class_All, [(.sl 0 0 2 2 3 false)], [.cells [z, (.i .i64 (.ofNat 1)), (.i .i64 (.ofNat 97)), (.i .i64 (.ofNat 1)), (.i .i64 (.ofNat 1)), (.i .i64 (.ofNat 98))]], (.sl 1 0 2 2 1 false), [.cells [z, z]]⟩
def m52 : Memo := ⟨k_seqs_Sequences, [(.sl 0 0 2 2 1 false), z], [.cells [z, z]], (.sl 1 0 1 1 4 false), [.cells [z, z, z, (.sl 2 0 2 2 1 false)], .cells [z, (.i .i64 (.ofNat 1))]]⟩
def m57 : Memo := ⟨k_weak_Weak, [(.sl 0 0 2 2 1 false), z], [.cells [z, z]], (.sl 1 0 2 2 1 false), [.cells [z, z]]⟩
def m60 : Memo := ⟨k_pairs_Find, [(.sl 0 0 2 2 1 false), (.sl 1 0 2 2 1 false)], [.cells [z, z], .cells [(.i .i64 (.ofNat 97)), (.i .i64 (.ofNat 98))]], .sn, []⟩
def m66 : Memo := ⟨k_bidi_Line, [(.sl 0 0 2 2 3 false), (.sl 1 0 2 2 1 false), z], [.cells [z, (.i .i64 (.ofNat 1)), (.i .i64 (.ofNat 97)), (.i .i64 (.ofNat 1)), (.i .i64 (.ofNat 1)), (.i .i64 (.ofNat 98))], .cells [z, z]], (.sl 2 0 2 2 1 false), [.cells [z, z]]⟩
def m68 : Memo := ⟨k_place_laid_text, [(.ag [z, (.i .i64 (.ofNat 2)), (.i .i64 (.ofNat 2)), (.i .i64 (.ofNat 1)), z, (.sl 0 0 2 2 6 false), (.sl 1 0 2 2 1 false), z]), z], [.cells [z, (.i .i64 (.ofNat 1)), z, (.i .i64 (.ofNat 1)), (.i .i64 (.ofNat 1)), (.i .i64 (.ofNat 97)), (.i .i64 (.ofNat 1)), (.i .i64 (.ofNat 1)), (.i .i64 (.ofNat 1)), (.i .i64 (.ofNat 2)), (.i .i64 (.ofNat 1)), (.i .i64 (.ofNat 98))], .cells [z, z]], (.sl 2 0 2 2 6 false), [.cells [(.i .i64 (.ofNat 4)), z, z, z, z, (.i .i64 (.ofNat 97)), (.i .i64 (.ofNat 4)), z, z, (.i .i64 (.ofNat 1)), z, (.i .i64 (.ofNat 98))]]⟩
theorem memOk1 : MemoOk E mem1 := memoOk_of (.o (.o (.o (.o (.o (.s (.cons rfl v7 (.cons rfl v1 .nil)) .e (.o (.o (.s (.cons rfl v55 .nil) .e .e) .e) (.s (.cons rfl v35 (.cons rfl v34 .nil)) .e .e))) .e) (.o .e (.o .e (.o .e (.s (.cons rfl v61 .nil) .e .e))))) (.o (.o .e (.o .e (.o (.o (.s (.cons rfl v44 (.cons rfl v43 (.cons rfl v39 (.cons rfl v38 .nil)))) .e .e) .e) .e))) (.o .e (.o (.s (.cons rfl v78 (.cons rfl v45 (.cons rfl v40 (.cons rfl v27 (.cons rfl v22 (.cons rfl v20 (.cons rfl v18 (.cons rfl v15 (.cons rfl v10 (.cons rfl v9 .nil)))))))))) .e .e) .e)))) (.o (.o (.o (.o (.o .e (.o (.s (.cons rfl v59 (.cons rfl v58 .nil)) .e .e) .e)) .e) (.o .e (.s (.cons rfl v31 .nil) .e .e))) (.o (.o .e (.o (.s (.cons rfl v69 .nil) .e .e) .e)) .e)) (.o .e (.o (.o (.o (.o (.s (.cons rfl v42 (.cons rfl v37 .nil)) .e .e) .e) .e) .e) (.o (.o (.o (.s (.cons rfl v56 (.cons rfl v53 .nil)) .e .e) .e) .e) .e))))) (.o (.o .e (.o (.o (.o (.o .e (.s (.cons rfl v67 .nil) .e .e)) (.o (.s (.cons rfl v65 .nil) .e .e) (.s (.cons rfl v47 .nil) .e .e))) .e) .e)) (.o (.o .e (.o .e (.o .e (.o (.s (.cons rfl v50 .nil) .e .e) .e)))) (.o .e (.s (.cons rfl v6 (.cons rfl v0 .nil)) (.o .e (.o .e (.s (.cons rfl v51 .nil) .e .e))) (.o (.o (.o (.s (.cons rfl v54 .nil) .e .e) .e) .e) .e))))))
theorem cok1 : COk E (orcM tab mem1 400) := orcM_ok envOk tabOk memOk1 400
theorem c2 : chkM (orcM tab mem1 400) m2 = true := by kernel_rfl
theorem v2 : Valid E m2 := valid_of cok1 c2
theorem c8 : chkM (orcM tab mem1 400) m8 = true := by kernel_rfl
theorem v8 : Valid E m8 := valid_of cok1 c8
theorem c32 : chkM (orcM tab mem1 400) m32 = true := by kernel_rfl
theorem v32 : Valid E m32 := valid_of cok1 c32
theorem c36 : chkM (orcM tab mem1 400) m36 = true := by kernel_rfl
theorem v36 : Valid E m36 := valid_of cok1 c36
theorem c41 : chkM (orcM tab mem1 400) m41 = true := by kernel_rfl
theorem v41 : Valid E m41 := valid_of cok1 c41
theorem c46 : chkM (orcM tab mem1 400) m46 = true := by kernel_rfl
theorem v46 : Valid E m46 := valid_of cok1 c46
theorem c49 : chkM (orcM tab mem1 400) m49 = true := by kernel_rfl
theorem v49 : Valid E m49 := valid_of cok1 c49
theorem c52 : chkM (orcM tab mem1 400) m52 = true := by kernel_rfl
theorem v52 : Valid E m52 := valid_of cok1 c52
theorem c57 : chkM (orcM tab mem1 400) m57 = true := by kernel_rfl
theorem v57 : Valid E m57 := valid_of cok1 c57
theorem c60 : chkM (orcM tab mem1 400) m60 = true := by kernel_rfl
theorem v60 : Valid E m60 := valid_of cok1 c60
theorem c66 : chkM (orcM tab mem1 400) m66 = true := by kernel_rfl
theorem v66 : Valid E m66 := valid_of cok1 c66
theorem c68 : chkM (orcM tab mem1 400) m68 = true := by kernel_rfl
theorem v68 : Valid E m68 := valid_of cok1 c68
end VE
