/- What law25 awake calls, reckoned once each: level 1. -/
import Derived.Test.YtchccpmjhajcaaaGreatAw0
set_option linter.unusedVariables false
set_option linter.unusedSimpArgs false
set_option linter.unusedSectionVars false
namespace VE
open Go
def mem1 : Tr (List Memo) := (.node (.node (.node (.node (.node (.node .nil (some [m124, m2]) (.node (.node (.node .nil (some [m167, m68]) .nil) none .nil) none (.node .nil (some [m48, m47]) .nil))) none .nil) none (.node .nil none (.node .nil none (.node .nil none (.node .nil (some [m170, m74]) .nil))))) none (.node (.node .nil none (.node .nil none (.node (.node (.node .nil (some [m57, m56, m52, m51]) .nil) none .nil) none .nil))) none (.node .nil none (.node (.node .nil (some [m101, m58, m53, m40, m34, m31, m27, m21, m18, m15, m11, m6, m4]) .nil) none .nil)))) none (.node (.node (.node (.node (.node .nil none (.node (.node .nil (some [m72, m71]) .nil) none .nil)) none .nil) none (.node .nil none (.node .nil (some [m93, m44]) .nil))) none (.node (.node .nil none (.node (.node .nil (some [m178, m82]) .nil) none .nil)) none (.node .nil (some [m0]) .nil))) none (.node .nil none (.node (.node (.node (.node (.node .nil (some [m55, m50]) .nil) none .nil) none .nil) none .nil) none (.node (.node (.node (.node .nil (some [m168, m165, m69, m66]) .nil) none .nil) none .nil) none .nil))))) none (.node (.node (.node .nil none (.node .nil none (.node (.node .nil (some [m208, m199, m191, m151, m148, m139, m133, m130]) .nil) none .nil))) none (.node (.node (.node (.node .nil none (.node .nil (some [m80]) .nil)) none (.node (.node .nil (some [m78]) .nil) none (.node .nil (some [m60]) .nil))) none (.node .nil none (.node .nil (some [m154, m96]) .nil))) none .nil)) none (.node (.node .nil none (.node .nil none (.node .nil none (.node (.node .nil (some [m162, m63]) .nil) none .nil)))) none (.node .nil none (.node (.node .nil none (.node .nil none (.node .nil (some [m163, m64]) .nil))) none (.node (.node (.node (.node .nil (some [m166, m67]) .nil) none .nil) none .nil) none (.node .nil none (.node .nil (some [m175]) .nil))))))))
def m1 : Memo := ⟨k_sheet_limits, [(.ag [z, (.sl 0 0 2 2 1 true), (.sl 1 0 1 1 1 true), (.sl 2 0 1 1 6 true), .sn])], [.cells [(.i .i64 (.ofNat 3)), (.i .i64 (.ofNat 2))], .cells [(.i .i64 (.ofNat 1))], .cells [z, z, (.s [97, 98]), z, z, z]], (.b true), []⟩
def m5 : Memo := ⟨k_axis_Find, [(.sl 0 0 2 2 1 true), z], [.cells [(.i .i64 (.ofNat 3)), (.i .i64 (.ofNat 2))]], (.tu [z, (.i .i64 (.negSucc 0))]), []⟩
def m12 : Memo := ⟨k_axis_Find, [(.sl 0 0 2 2 1 true), (.i .i64 (.ofNat 1))], [.cells [(.i .i64 (.ofNat 3)), (.i .i64 (.ofNat 2))]], (.tu [z, z]), []⟩
def m16 : Memo := ⟨k_axis_Find, [(.sl 0 0 2 2 1 true), (.i .i64 (.ofNat 2))], [.cells [(.i .i64 (.ofNat 3)), (.i .i64 (.ofNat 2))]], (.tu [z, (.i .i64 (.ofNat 1))]), []⟩
def m19 : Memo := ⟨k_axis_Find, [(.sl 0 0 2 2 1 true), (.i .i64 (.ofNat 3))], [.cells [(.i .i64 (.ofNat 3)), (.i .i64 (.ofNat 2))]], (.tu [z, (.i .i64 (.ofNat 2))]), []⟩
def m22 : Memo := ⟨k_axis_Find, [(.sl 0 0 2 2 1 true), (.i .i64 (.ofNat 4))], [.cells [(.i .i64 (.ofNat 3)), (.i .i64 (.ofNat 2))]], (.tu [(.i .i64 (.ofNat 1)), (.i .i64 (.negSucc 0))]), []⟩
def m28 : Memo := ⟨k_axis_Find, [(.sl 0 0 2 2 1 true), (.i .i64 (.ofNat 5))], [.cells [(.i .i64 (.ofNat 3)), (.i .i64 (.ofNat 2))]], (.tu [(.i .i64 (.ofNat 1)), z]), []⟩
def m32 : Memo := ⟨k_axis_Find, [(.sl 0 0 2 2 1 true), (.i .i64 (.ofNat 6))], [.cells [(.i .i64 (.ofNat 3)), (.i .i64 (.ofNat 2))]], (.tu [(.i .i64 (.ofNat 1)), (.i .i64 (.ofNat 1))]), []⟩
def m35 : Memo := ⟨k_axis_Find, [(.sl 0 0 2 2 1 true), (.i .i64 (.ofNat 7))], [.cells [(.i .i64 (.ofNat 3)), (.i .i64 (.ofNat 2))]], (.tu [(.i .i64 (.ofNat 2)), (.i .i64 (.negSucc 0))]), []⟩
def m45 : Memo := ⟨k_axis_Size, [(.sl 0 0 2 2 1 true), (.sl 1 0 1 1 1 true), (.ag [z, z, (.i .i64 (.ofNat 1)), (.i .i64 (.ofNat 1))])], [.cells [(.i .i64 (.ofNat 3)), (.i .i64 (.ofNat 2))], .cells [(.i .i64 (.ofNat 1))]], (.tu [(.c .f64 4613937818241073152 4607182418800017408), z]), []⟩
def m49 : Memo := ⟨k_base_Paragraphs, [(.sl 0 0 2 2 3 false)], [.cells [z, (.i .i64 (.ofNat 1)), (.i .i64 (.ofNat 97)), (.i .i64 (.ofNat 1)), (.i .i64 (.ofNat 1)), (.i .i64 (.ofNat 98))]], (.sl 1 0 1 1 1 false), [.cells [(.i .i64 (.ofNat 2))]]⟩
def m54 : Memo := ⟨k_cluster_see, [(.ag [z, (.i .i64 (.ofNat 1)), (.i .i64 (.ofNat 97))])], [], (.ag [z, (.i .i64 (.ofNat 1)), (.i .i64 (.ofNat 97)), z, (.i .i64 (.ofNat 1)), (.b false)]), []⟩
def m59 : Memo := ⟨k_cluster_see, [(.ag [(.i .i64 (.ofNat 1)), (.i .i64 (.ofNat 1)), (.i .i64 (.ofNat 98))])], [], (.ag [(.i .i64 (.ofNat 1)), (.i .i64 (.ofNat 1)), (.i .i64 (.ofNat 98)), z, (.i .i64 (.ofNat 1)), (.b false)]), []⟩
def m62 : Memo := ⟨k_class_All, [(.sl 0 0 2 2 3 false)], [.cells [z, (.i .i64 (.ofNat 1)), (.i .i64 (.ofNat 97)), (.i .i64 (.ofNat 1)), (.i .i64 (.ofNat 1)), (.i .i64 (.ofNat 98))]], (.sl 1 0 2 2 1 false), [.cells [z, z]]⟩
def m65 : Memo := ⟨k_seqs_Sequences, [(.sl 0 0 2 2 1 false), z], [.cells [z, z]], (.sl 1 0 1 1 4 false), [.cells [z, z, z, (.sl 2 0 2 2 1 false)], .cells [z, (.i .i64 (.ofNat 1))]]⟩
def m70 : Memo := ⟨k_weak_Weak, [(.sl 0 0 2 2 1 false), z], [.cells [z, z]], (.sl 1 0 2 2 1 false), [.cells [z, z]]⟩
def m73 : Memo := ⟨k_pairs_Find, [(.sl 0 0 2 2 1 false), (.sl 1 0 2 2 1 false)], [.cells [z, z], .cells [(.i .i64 (.ofNat 97)), (.i .i64 (.ofNat 98))]], .sn, []⟩
def m79 : Memo := ⟨k_bidi_Line, [(.sl 0 0 2 2 3 false), (.sl 1 0 2 2 1 false), z], [.cells [z, (.i .i64 (.ofNat 1)), (.i .i64 (.ofNat 97)), (.i .i64 (.ofNat 1)), (.i .i64 (.ofNat 1)), (.i .i64 (.ofNat 98))], .cells [z, z]], (.sl 2 0 2 2 1 false), [.cells [z, z]]⟩
def m81 : Memo := ⟨k_place_laid_text, [(.ag [z, (.i .i64 (.ofNat 2)), (.i .i64 (.ofNat 2)), (.i .i64 (.ofNat 1)), z, (.sl 0 0 2 2 6 false), (.sl 1 0 2 2 1 false), z]), z], [.cells [z, (.i .i64 (.ofNat 1)), z, (.i .i64 (.ofNat 1)), (.i .i64 (.ofNat 1)), (.i .i64 (.ofNat 97)), (.i .i64 (.ofNat 1)), (.i .i64 (.ofNat 1)), (.i .i64 (.ofNat 1)), (.i .i64 (.ofNat 2)), (.i .i64 (.ofNat 1)), (.i .i64 (.ofNat 98))], .cells [z, z]], (.sl 2 0 2 2 6 false), [.cells [(.i .i64 (.ofNat 4)), z, z, z, z, (.i .i64 (.ofNat 97)), (.i .i64 (.ofNat 4)), z, z, (.i .i64 (.ofNat 1)), z, (.i .i64 (.ofNat 98))]]⟩
def m94 : Memo := ⟨k_axis_Size, [(.sl 0 0 2 2 1 true), (.sl 1 0 1 1 1 true), (.ag [z, (.i .i64 (.ofNat 1)), (.i .i64 (.ofNat 1)), (.i .i64 (.ofNat 1))])], [.cells [(.i .i64 (.ofNat 3)), (.i .i64 (.ofNat 2))], .cells [(.i .i64 (.ofNat 1))]], (.tu [(.c .f64 4611686018427387904 4607182418800017408), z]), []⟩
def m123 : Memo := ⟨k_sheet_limits, [(.ag [(.i .i64 (.ofNat 1)), (.sl 0 0 2 2 1 true), (.sl 1 0 1 1 1 true), (.sl 2 0 1 1 6 true), .sn])], [.cells [(.i .i64 (.ofNat 3)), (.i .i64 (.ofNat 2))], .cells [(.i .i64 (.ofNat 1))], .cells [z, z, (.s [97, 98]), z, z, z]], (.b true), []⟩
def m164 : Memo := ⟨k_seqs_Sequences, [(.sl 0 0 2 2 1 false), (.i .i64 (.ofNat 1))], [.cells [z, z]], (.sl 1 0 1 1 4 false), [.cells [(.i .i64 (.ofNat 1)), (.i .i64 (.ofNat 1)), (.i .i64 (.ofNat 1)), (.sl 2 0 2 2 1 false)], .cells [z, (.i .i64 (.ofNat 1))]]⟩
def m169 : Memo := ⟨k_weak_Weak, [(.sl 0 0 2 2 1 false), (.i .i64 (.ofNat 1))], [.cells [z, z]], (.sl 1 0 2 2 1 false), [.cells [z, z]]⟩
def m174 : Memo := ⟨k_bidi_Line, [(.sl 0 0 2 2 3 false), (.sl 1 0 2 2 1 false), (.i .i64 (.ofNat 1))], [.cells [z, (.i .i64 (.ofNat 1)), (.i .i64 (.ofNat 97)), (.i .i64 (.ofNat 1)), (.i .i64 (.ofNat 1)), (.i .i64 (.ofNat 98))], .cells [(.i .i64 (.ofNat 2)), (.i .i64 (.ofNat 2))]], (.sl 2 0 2 2 1 false), [.cells [(.i .i64 (.ofNat 2)), (.i .i64 (.ofNat 2))]]⟩
def m176 : Memo := ⟨k_bidi_turn, [(.sl 0 0 2 2 1 false), z, (.i .i64 (.ofNat 2)), (.i .i64 (.ofNat 1))], [.cells [(.i .i64 (.ofNat 2)), (.i .i64 (.ofNat 2))]], (.sl 1 0 2 2 1 false), [.cells [z, (.i .i64 (.ofNat 1))]]⟩
theorem memOk1 : MemoOk E mem1 := memoOk_of (.o (.o (.o (.o (.o (.s (.cons rfl v124 (.cons rfl v2 .nil)) .e (.o (.o (.s (.cons rfl v167 (.cons rfl v68 .nil)) .e .e) .e) (.s (.cons rfl v48 (.cons rfl v47 .nil)) .e .e))) .e) (.o .e (.o .e (.o .e (.s (.cons rfl v170 (.cons rfl v74 .nil)) .e .e))))) (.o (.o .e (.o .e (.o (.o (.s (.cons rfl v57 (.cons rfl v56 (.cons rfl v52 (.cons rfl v51 .nil)))) .e .e) .e) .e))) (.o .e (.o (.s (.cons rfl v101 (.cons rfl v58 (.cons rfl v53 (.cons rfl v40 (.cons rfl v34 (.cons rfl v31 (.cons rfl v27 (.cons rfl v21 (.cons rfl v18 (.cons rfl v15 (.cons rfl v11 (.cons rfl v6 (.cons rfl v4 .nil))))))))))))) .e .e) .e)))) (.o (.o (.o (.o (.o .e (.o (.s (.cons rfl v72 (.cons rfl v71 .nil)) .e .e) .e)) .e) (.o .e (.s (.cons rfl v93 (.cons rfl v44 .nil)) .e .e))) (.o (.o .e (.o (.s (.cons rfl v178 (.cons rfl v82 .nil)) .e .e) .e)) (.s (.cons rfl v0 .nil) .e .e))) (.o .e (.o (.o (.o (.o (.s (.cons rfl v55 (.cons rfl v50 .nil)) .e .e) .e) .e) .e) (.o (.o (.o (.s (.cons rfl v168 (.cons rfl v165 (.cons rfl v69 (.cons rfl v66 .nil)))) .e .e) .e) .e) .e))))) (.o (.o (.o .e (.o .e (.o (.s (.cons rfl v208 (.cons rfl v199 (.cons rfl v191 (.cons rfl v151 (.cons rfl v148 (.cons rfl v139 (.cons rfl v133 (.cons rfl v130 .nil)))))))) .e .e) .e))) (.o (.o (.o (.o .e (.s (.cons rfl v80 .nil) .e .e)) (.o (.s (.cons rfl v78 .nil) .e .e) (.s (.cons rfl v60 .nil) .e .e))) (.o .e (.s (.cons rfl v154 (.cons rfl v96 .nil)) .e .e))) .e)) (.o (.o .e (.o .e (.o .e (.o (.s (.cons rfl v162 (.cons rfl v63 .nil)) .e .e) .e)))) (.o .e (.o (.o .e (.o .e (.s (.cons rfl v163 (.cons rfl v64 .nil)) .e .e))) (.o (.o (.o (.s (.cons rfl v166 (.cons rfl v67 .nil)) .e .e) .e) .e) (.o .e (.s (.cons rfl v175 .nil) .e .e))))))))
theorem cok1 : COk E (orcM tab mem1 400) := orcM_ok envOk tabOk memOk1 400
theorem c1 : chkM (orcM tab mem1 400) m1 = true := by kernel_rfl
theorem v1 : Valid E m1 := valid_of cok1 c1
theorem c5 : chkM (orcM tab mem1 400) m5 = true := by kernel_rfl
theorem v5 : Valid E m5 := valid_of cok1 c5
theorem c12 : chkM (orcM tab mem1 400) m12 = true := by kernel_rfl
theorem v12 : Valid E m12 := valid_of cok1 c12
theorem c16 : chkM (orcM tab mem1 400) m16 = true := by kernel_rfl
theorem v16 : Valid E m16 := valid_of cok1 c16
theorem c19 : chkM (orcM tab mem1 400) m19 = true := by kernel_rfl
theorem v19 : Valid E m19 := valid_of cok1 c19
theorem c22 : chkM (orcM tab mem1 400) m22 = true := by kernel_rfl
theorem v22 : Valid E m22 := valid_of cok1 c22
theorem c28 : chkM (orcM tab mem1 400) m28 = true := by kernel_rfl
theorem v28 : Valid E m28 := valid_of cok1 c28
theorem c32 : chkM (orcM tab mem1 400) m32 = true := by kernel_rfl
theorem v32 : Valid E m32 := valid_of cok1 c32
theorem c35 : chkM (orcM tab mem1 400) m35 = true := by kernel_rfl
theorem v35 : Valid E m35 := valid_of cok1 c35
theorem c45 : chkM (orcM tab mem1 400) m45 = true := by kernel_rfl
theorem v45 : Valid E m45 := valid_of cok1 c45
theorem c49 : chkM (orcM tab mem1 400) m49 = true := by kernel_rfl
theorem v49 : Valid E m49 := valid_of cok1 c49
theorem c54 : chkM (orcM tab mem1 400) m54 = true := by kernel_rfl
theorem v54 : Valid E m54 := valid_of cok1 c54
theorem c59 : chkM (orcM tab mem1 400) m59 = true := by kernel_rfl
theorem v59 : Valid E m59 := valid_of cok1 c59
theorem c62 : chkM (orcM tab mem1 400) m62 = true := by kernel_rfl
theorem v62 : Valid E m62 := valid_of cok1 c62
theorem c65 : chkM (orcM tab mem1 400) m65 = true := by kernel_rfl
theorem v65 : Valid E m65 := valid_of cok1 c65
theorem c70 : chkM (orcM tab mem1 400) m70 = true := by kernel_rfl
theorem v70 : Valid E m70 := valid_of cok1 c70
theorem c73 : chkM (orcM tab mem1 400) m73 = true := by kernel_rfl
theorem v73 : Valid E m73 := valid_of cok1 c73
theorem c79 : chkM (orcM tab mem1 400) m79 = true := by kernel_rfl
theorem v79 : Valid E m79 := valid_of cok1 c79
theorem c81 : chkM (orcM tab mem1 400) m81 = true := by kernel_rfl
theorem v81 : Valid E m81 := valid_of cok1 c81
theorem c94 : chkM (orcM tab mem1 400) m94 = true := by kernel_rfl
theorem v94 : Valid E m94 := valid_of cok1 c94
theorem c123 : chkM (orcM tab mem1 400) m123 = true := by kernel_rfl
theorem v123 : Valid E m123 := valid_of cok1 c123
theorem c164 : chkM (orcM tab mem1 400) m164 = true := by kernel_rfl
theorem v164 : Valid E m164 := valid_of cok1 c164
theorem c169 : chkM (orcM tab mem1 400) m169 = true := by kernel_rfl
theorem v169 : Valid E m169 := valid_of cok1 c169
theorem c174 : chkM (orcM tab mem1 400) m174 = true := by kernel_rfl
theorem v174 : Valid E m174 := valid_of cok1 c174
theorem c176 : chkM (orcM tab mem1 400) m176 = true := by kernel_rfl
theorem v176 : Valid E m176 := valid_of cok1 c176
end VE
