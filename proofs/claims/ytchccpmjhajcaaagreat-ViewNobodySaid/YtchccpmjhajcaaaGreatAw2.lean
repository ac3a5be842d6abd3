/- What law27 awake calls, reckoned once each: level 2. -/
import Derived.Test.YtchccpmjhajcaaaGreatAw1
set_option linter.unusedVariables false
set_option linter.unusedSimpArgs false
set_option linter.unusedSectionVars false
namespace VE
open Go
def mem2 : Tr (List Memo) := (.node (.node (.node (.node (.node (.node .nil (some [m7, m1]) (.node (.node (.node .nil (some [m55]) .nil) (some [m36]) .nil) none (.node .nil (some [m35, m34]) .nil))) none .nil) none (.node .nil none (.node .nil none (.node .nil none (.node .nil (some [m61]) .nil))))) none (.node (.node .nil none (.node .nil none (.node (.node (.node .nil (some [m44, m43, m39, m38]) .nil) none .nil) none (.node .nil (some [m57]) .nil)))) none (.node .nil none (.node (.node .nil (some [m78, m45, m40, m27, m22, m20, m18, m15, m10, m9]) .nil) none (.node (.node .nil (some [m52]) .nil) none .nil))))) none (.node (.node (.node (.node (.node .nil none (.node (.node .nil (some [m59, m58]) .nil) none .nil)) none .nil) none (.node .nil none (.node .nil (some [m31]) .nil))) none (.node (.node .nil none (.node (.node .nil (some [m69]) .nil) none .nil)) none (.node .nil none (.node (.node .nil (some [m49]) .nil) none .nil)))) none (.node .nil none (.node (.node (.node (.node (.node .nil (some [m42, m37]) .nil) none .nil) none .nil) none .nil) none (.node (.node (.node (.node .nil (some [m56, m53]) .nil) none .nil) none .nil) none .nil))))) none (.node (.node (.node .nil none (.node (.node .nil none (.node (.node .nil (some [m68]) .nil) none .nil)) none .nil)) none (.node (.node (.node (.node .nil none (.node .nil (some [m67]) .nil)) none (.node (.node .nil (some [m65]) .nil) none (.node .nil (some [m47]) .nil))) none (.node .nil none (.node (.node .nil (some [m46, m41]) .nil) none .nil))) none .nil)) none (.node (.node (.node (.node (.node .nil none (.node .nil (some [m66]) .nil)) none (.node (.node (.node .nil (some [m60]) .nil) none .nil) none .nil)) (some [m8, m2]) (.node .nil none (.node .nil (some [m32]) .nil))) none (.node .nil none (.node .nil none (.node (.node .nil (some [m50]) .nil) none .nil)))) none (.node .nil none (.node (.node .nil none (.node .nil none (.node .nil (some [m51]) .nil))) (some [m6, m0]) (.node (.node (.node (.node .nil (some [m54]) .nil) none .nil) none .nil) none .nil))))))
def m3 : Memo := ⟨k_p_edit_editor_here, [(.p 0 0), z, z], [.cells [z, (.sl 1 0 1 1 1 false), (.sl 2 0 1 1 1 false), .sn, .sn], .cells [(.i .i64 (.ofNat 3))], .cells [(.i .i64 (.ofNat 1))]], z, []⟩
def m4 : Memo := ⟨k_sheet_Get, [(.ag [z, (.sl 0 0 1 1 1 false), (.sl 1 0 1 1 1 false), .sn, .sn]), z, z], [.cells [(.i .i64 (.ofNat 3))], .cells [(.i .i64 (.ofNat 1))]], (.tu [(.ag [z, z, (.s []), z, z, z]), z]), []⟩
def m11 : Memo := ⟨k_edge_spot_region, [(.ag [z, (.sl 0 0 1 1 1 false), (.sl 1 0 1 1 1 false), (.sl 2 0 1 1 6 false), .sn, z, z, (.b true), (.b true)]), z, z], [.cells [(.i .i64 (.ofNat 3))], .cells [(.i .i64 (.ofNat 1))], .cells [z, z, (.s [97, 98]), z, z, z]], (.tu [(.ag [z, z, (.i .i64 (.ofNat 1)), (.i .i64 (.ofNat 1))]), (.b true)]), []⟩
def m12 : Memo := ⟨k_edge_spot_parts, [(.ag [z, (.sl 0 0 1 1 1 false), (.sl 1 0 1 1 1 false), (.sl 2 0 1 1 6 false), .sn, z, z, (.b true), (.b true)]), (.i .i64 (.negSucc 0)), (.i .i64 (.negSucc 0)), z, (.i .i64 (.negSucc 0))], [.cells [(.i .i64 (.ofNat 3))], .cells [(.i .i64 (.ofNat 1))], .cells [z, z, (.s [97, 98]), z, z, z]], (.b false), []⟩
def m13 : Memo := ⟨k_edge_spot_parts, [(.ag [z, (.sl 0 0 1 1 1 false), (.sl 1 0 1 1 1 false), (.sl 2 0 1 1 6 false), .sn, z, z, (.b true), (.b true)]), (.i .i64 (.negSucc 0)), (.i .i64 (.negSucc 0)), (.i .i64 (.negSucc 0)), z], [.cells [(.i .i64 (.ofNat 3))], .cells [(.i .i64 (.ofNat 1))], .cells [z, z, (.s [97, 98]), z, z, z]], (.b false), []⟩
def m16 : Memo := ⟨k_edge_spot_region, [(.ag [z, (.sl 0 0 1 1 1 false), (.sl 1 0 1 1 1 false), (.sl 2 0 1 1 6 false), .sn, z, z, (.b false), (.b true)]), z, z], [.cells [(.i .i64 (.ofNat 3))], .cells [(.i .i64 (.ofNat 1))], .cells [z, z, (.s [97, 98]), z, z, z]], (.tu [(.ag [z, z, (.i .i64 (.ofNat 1)), (.i .i64 (.ofNat 1))]), (.b true)]), []⟩
def m23 : Memo := ⟨k_edge_spot_parts, [(.ag [z, (.sl 0 0 1 1 1 false), (.sl 1 0 1 1 1 false), (.sl 2 0 1 1 6 false), .sn, (.i .i64 (.ofNat 1)), z, (.b true), (.b true)]), (.i .i64 (.negSucc 0)), (.i .i64 (.ofNat 1)), z, (.i .i64 (.ofNat 1))], [.cells [(.i .i64 (.ofNat 3))], .cells [(.i .i64 (.ofNat 1))], .cells [z, z, (.s [97, 98]), z, z, z]], (.b false), []⟩
def m24 : Memo := ⟨k_edge_spot_region, [(.ag [z, (.sl 0 0 1 1 1 false), (.sl 1 0 1 1 1 false), (.sl 2 0 1 1 6 false), .sn, (.i .i64 (.ofNat 1)), z, (.b true), (.b true)]), z, z], [.cells [(.i .i64 (.ofNat 3))], .cells [(.i .i64 (.ofNat 1))], .cells [z, z, (.s [97, 98]), z, z, z]], (.tu [(.ag [z, z, (.i .i64 (.ofNat 1)), (.i .i64 (.ofNat 1))]), (.b true)]), []⟩
def m25 : Memo := ⟨k_edge_spot_parts, [(.ag [z, (.sl 0 0 1 1 1 false), (.sl 1 0 1 1 1 false), (.sl 2 0 1 1 6 false), .sn, (.i .i64 (.ofNat 1)), z, (.b true), (.b true)]), (.i .i64 (.negSucc 0)), z, (.i .i64 (.negSucc 0)), (.i .i64 (.ofNat 1))], [.cells [(.i .i64 (.ofNat 3))], .cells [(.i .i64 (.ofNat 1))], .cells [z, z, (.s [97, 98]), z, z, z]], (.b false), []⟩
def m28 : Memo := ⟨k_edge_spot_region, [(.ag [z, (.sl 0 0 1 1 1 false), (.sl 1 0 1 1 1 false), (.sl 2 0 1 1 6 false), .sn, z, z, (.b true), (.b false)]), z, z], [.cells [(.i .i64 (.ofNat 3))], .cells [(.i .i64 (.ofNat 1))], .cells [z, z, (.s [97, 98]), z, z, z]], (.tu [(.ag [z, z, (.i .i64 (.ofNat 1)), (.i .i64 (.ofNat 1))]), (.b true)]), []⟩
def m30 : Memo := ⟨k_edge_Arms, [(.ag [z, (.sl 0 0 1 1 1 false), (.sl 1 0 1 1 1 false), (.sl 2 0 1 1 6 false), .sn]), (.i .i64 (.ofNat 1)), (.i .i64 (.ofNat 1))], [.cells [(.i .i64 (.ofNat 3))], .cells [(.i .i64 (.ofNat 1))], .cells [z, z, (.s [97, 98]), z, z, z]], (.tu [z, z]), []⟩
def m33 : Memo := ⟨k_sheet_Get, [(.ag [z, (.sl 0 0 1 1 1 false), (.sl 1 0 1 1 1 false), (.sl 2 0 1 1 6 false), .sn]), z, z], [.cells [(.i .i64 (.ofNat 3))], .cells [(.i .i64 (.ofNat 1))], .cells [z, z, (.s [97, 98]), z, z, z]], (.tu [(.ag [z, z, (.s [97, 98]), z, z, z]), z]), []⟩
def m48 : Memo := ⟨k_cluster_Of, [(.sl 0 0 2 2 3 false)], [.cells [z, (.i .i64 (.ofNat 1)), (.i .i64 (.ofNat 97)), (.i .i64 (.ofNat 1)), (.i .i64 (.ofNat 1)), (.i .i64 (.ofNat 98))]], (.sl 1 0 2 2 6 false), [.cells [z, (.i .i64 (.ofNat 1)), z, (.i .i64 (.ofNat 1)), (.i .i64 (.ofNat 1)), (.i .i64 (.ofNat 97)), (.i .i64 (.ofNat 1)), (.i .i64 (.ofNat 1)), (.i .i64 (.ofNat 1)), (.i .i64 (.ofNat 2)), (.i .i64 (.ofNat 1)), (.i .i64 (.ofNat 98))]]⟩
def m62 : Memo := ⟨k_bidi_part_levels, [(.ag [z, z, z, (.sl 0 0 2 2 1 false)]), (.sl 1 0 2 2 1 false), (.sl 2 0 2 2 1 false), (.sl 3 0 2 2 1 false)], [.cells [z, (.i .i64 (.ofNat 1))], .cells [(.i .i64 (.ofNat 97)), (.i .i64 (.ofNat 98))], .cells [z, z], .cells [z, z]], (.sl 4 0 2 2 1 true), [.cells [z, z]]⟩
def m72 : Memo := ⟨k_edge_Arms, [(.ag [z, (.sl 0 0 1 1 1 false), (.sl 1 0 1 1 1 false), (.sl 2 0 1 1 6 false), .sn]), (.i .i64 (.ofNat 2)), (.i .i64 (.ofNat 1))], [.cells [(.i .i64 (.ofNat 3))], .cells [(.i .i64 (.ofNat 1))], .cells [z, z, (.s [97, 98]), z, z, z]], (.tu [z, z]), []⟩
def m74 : Memo := ⟨k_edge_Arms, [(.ag [z, (.sl 0 0 1 1 1 false), (.sl 1 0 1 1 1 false), (.sl 2 0 1 1 6 false), .sn]), (.i .i64 (.ofNat 3)), (.i .i64 (.ofNat 1))], [.cells [(.i .i64 (.ofNat 3))], .cells [(.i .i64 (.ofNat 1))], .cells [z, z, (.s [97, 98]), z, z, z]], (.tu [z, z]), []⟩
def m76 : Memo := ⟨k_edge_spot_region, [(.ag [z, (.sl 0 0 1 1 1 false), (.sl 1 0 1 1 1 false), (.sl 2 0 1 1 6 false), .sn, (.i .i64 (.ofNat 1)), z, (.b true), (.b false)]), z, z], [.cells [(.i .i64 (.ofNat 3))], .cells [(.i .i64 (.ofNat 1))], .cells [z, z, (.s [97, 98]), z, z, z]], (.tu [(.ag [z, z, (.i .i64 (.ofNat 1)), (.i .i64 (.ofNat 1))]), (.b true)]), []⟩
def m79 : Memo := ⟨k_edge_spot_region, [(.ag [z, (.sl 0 0 1 1 1 false), (.sl 1 0 1 1 1 false), (.sl 2 0 1 1 6 false), .sn, z, (.i .i64 (.ofNat 1)), (.b true), (.b true)]), z, z], [.cells [(.i .i64 (.ofNat 3))], .cells [(.i .i64 (.ofNat 1))], .cells [z, z, (.s [97, 98]), z, z, z]], (.tu [(.ag [z, z, (.i .i64 (.ofNat 1)), (.i .i64 (.ofNat 1))]), (.b true)]), []⟩
def m80 : Memo := ⟨k_edge_spot_parts, [(.ag [z, (.sl 0 0 1 1 1 false), (.sl 1 0 1 1 1 false), (.sl 2 0 1 1 6 false), .sn, z, (.i .i64 (.ofNat 1)), (.b true), (.b true)]), (.i .i64 (.ofNat 1)), (.i .i64 (.negSucc 0)), (.i .i64 (.ofNat 1)), z], [.cells [(.i .i64 (.ofNat 3))], .cells [(.i .i64 (.ofNat 1))], .cells [z, z, (.s [97, 98]), z, z, z]], (.b false), []⟩
def m81 : Memo := ⟨k_edge_spot_parts, [(.ag [z, (.sl 0 0 1 1 1 false), (.sl 1 0 1 1 1 false), (.sl 2 0 1 1 6 false), .sn, z, (.i .i64 (.ofNat 1)), (.b true), (.b true)]), z, (.i .i64 (.negSucc 0)), (.i .i64 (.ofNat 1)), (.i .i64 (.negSucc 0))], [.cells [(.i .i64 (.ofNat 3))], .cells [(.i .i64 (.ofNat 1))], .cells [z, z, (.s [97, 98]), z, z, z]], (.b false), []⟩
def m83 : Memo := ⟨k_edge_spot_region, [(.ag [z, (.sl 0 0 1 1 1 false), (.sl 1 0 1 1 1 false), (.sl 2 0 1 1 6 false), .sn, z, (.i .i64 (.ofNat 1)), (.b false), (.b true)]), z, z], [.cells [(.i .i64 (.ofNat 3))], .cells [(.i .i64 (.ofNat 1))], .cells [z, z, (.s [97, 98]), z, z, z]], (.tu [(.ag [z, z, (.i .i64 (.ofNat 1)), (.i .i64 (.ofNat 1))]), (.b true)]), []⟩
def m87 : Memo := ⟨k_edge_spot_parts, [(.ag [z, (.sl 0 0 1 1 1 false), (.sl 1 0 1 1 1 false), (.sl 2 0 1 1 6 false), .sn, (.i .i64 (.ofNat 1)), (.i .i64 (.ofNat 1)), (.b true), (.b true)]), z, (.i .i64 (.ofNat 1)), (.i .i64 (.ofNat 1)), (.i .i64 (.ofNat 1))], [.cells [(.i .i64 (.ofNat 3))], .cells [(.i .i64 (.ofNat 1))], .cells [z, z, (.s [97, 98]), z, z, z]], (.b false), []⟩
def m88 : Memo := ⟨k_edge_spot_parts, [(.ag [z, (.sl 0 0 1 1 1 false), (.sl 1 0 1 1 1 false), (.sl 2 0 1 1 6 false), .sn, (.i .i64 (.ofNat 1)), (.i .i64 (.ofNat 1)), (.b true), (.b true)]), (.i .i64 (.ofNat 1)), z, (.i .i64 (.ofNat 1)), (.i .i64 (.ofNat 1))], [.cells [(.i .i64 (.ofNat 3))], .cells [(.i .i64 (.ofNat 1))], .cells [z, z, (.s [97, 98]), z, z, z]], (.b false), []⟩
def m89 : Memo := ⟨k_edge_spot_region, [(.ag [z, (.sl 0 0 1 1 1 false), (.sl 1 0 1 1 1 false), (.sl 2 0 1 1 6 false), .sn, (.i .i64 (.ofNat 1)), (.i .i64 (.ofNat 1)), (.b true), (.b true)]), z, z], [.cells [(.i .i64 (.ofNat 3))], .cells [(.i .i64 (.ofNat 1))], .cells [z, z, (.s [97, 98]), z, z, z]], (.tu [(.ag [z, z, (.i .i64 (.ofNat 1)), (.i .i64 (.ofNat 1))]), (.b true)]), []⟩
theorem memOk2 : MemoOk E mem2 := memoOk_of (.o (.o (.o (.o (.o (.s (.cons rfl v7 (.cons rfl v1 .nil)) .e (.o (.s (.cons rfl v36 .nil) (.s (.cons rfl v55 .nil) .e .e) .e) (.s (.cons rfl v35 (.cons rfl v34 .nil)) .e .e))) .e) (.o .e (.o .e (.o .e (.s (.cons rfl v61 .nil) .e .e))))) (.o (.o .e (.o .e (.o (.o (.s (.cons rfl v44 (.cons rfl v43 (.cons rfl v39 (.cons rfl v38 .nil)))) .e .e) .e) (.s (.cons rfl v57 .nil) .e .e)))) (.o .e (.o (.s (.cons rfl v78 (.cons rfl v45 (.cons rfl v40 (.cons rfl v27 (.cons rfl v22 (.cons rfl v20 (.cons rfl v18 (.cons rfl v15 (.cons rfl v10 (.cons rfl v9 .nil)))))))))) .e .e) (.o (.s (.cons rfl v52 .nil) .e .e) .e))))) (.o (.o (.o (.o (.o .e (.o (.s (.cons rfl v59 (.cons rfl v58 .nil)) .e .e) .e)) .e) (.o .e (.s (.cons rfl v31 .nil) .e .e))) (.o (.o .e (.o (.s (.cons rfl v69 .nil) .e .e) .e)) (.o .e (.o (.s (.cons rfl v49 .nil) .e .e) .e)))) (.o .e (.o (.o (.o (.o (.s (.cons rfl v42 (.cons rfl v37 .nil)) .e .e) .e) .e) .e) (.o (.o (.o (.s (.cons rfl v56 (.cons rfl v53 .nil)) .e .e) .e) .e) .e))))) (.o (.o (.o .e (.o (.o .e (.o (.s (.cons rfl v68 .nil) .e .e) .e)) .e)) (.o (.o (.o (.o .e (.s (.cons rfl v67 .nil) .e .e)) (.o (.s (.cons rfl v65 .nil) .e .e) (.s (.cons rfl v47 .nil) .e .e))) (.o .e (.o (.s (.cons rfl v46 (.cons rfl v41 .nil)) .e .e) .e))) .e)) (.o (.o (.s (.cons rfl v8 (.cons rfl v2 .nil)) (.o (.o .e (.s (.cons rfl v66 .nil) .e .e)) (.o (.o (.s (.cons rfl v60 .nil) .e .e) .e) .e)) (.o .e (.s (.cons rfl v32 .nil) .e .e))) (.o .e (.o .e (.o (.s (.cons rfl v50 .nil) .e .e) .e)))) (.o .e (.s (.cons rfl v6 (.cons rfl v0 .nil)) (.o .e (.o .e (.s (.cons rfl v51 .nil) .e .e))) (.o (.o (.o (.s (.cons rfl v54 .nil) .e .e) .e) .e) .e))))))
theorem cok2 : COk E (orcM tab mem2 400) := orcM_ok envOk tabOk memOk2 400
theorem c3 : chkM (orcM tab mem2 400) m3 = true := by kernel_rfl
theorem v3 : Valid E m3 := valid_of cok2 c3
theorem c4 : chkM (orcM tab mem2 400) m4 = true := by kernel_rfl
theorem v4 : Valid E m4 := valid_of cok2 c4
theorem c11 : chkM (orcM tab mem2 400) m11 = true := by kernel_rfl
theorem v11 : Valid E m11 := valid_of cok2 c11
theorem c12 : chkM (orcM tab mem2 400) m12 = true := by kernel_rfl
theorem v12 : Valid E m12 := valid_of cok2 c12
theorem c13 : chkM (orcM tab mem2 400) m13 = true := by kernel_rfl
theorem v13 : Valid E m13 := valid_of cok2 c13
theorem c16 : chkM (orcM tab mem2 400) m16 = true := by kernel_rfl
theorem v16 : Valid E m16 := valid_of cok2 c16
theorem c23 : chkM (orcM tab mem2 400) m23 = true := by kernel_rfl
theorem v23 : Valid E m23 := valid_of cok2 c23
theorem c24 : chkM (orcM tab mem2 400) m24 = true := by kernel_rfl
theorem v24 : Valid E m24 := valid_of cok2 c24
theorem c25 : chkM (orcM tab mem2 400) m25 = true := by kernel_rfl
theorem v25 : Valid E m25 := valid_of cok2 c25
theorem c28 : chkM (orcM tab mem2 400) m28 = true := by kernel_rfl
theorem v28 : Valid E m28 := valid_of cok2 c28
theorem c30 : chkM (orcM tab mem2 400) m30 = true := by kernel_rfl
theorem v30 : Valid E m30 := valid_of cok2 c30
theorem c33 : chkM (orcM tab mem2 400) m33 = true := by kernel_rfl
theorem v33 : Valid E m33 := valid_of cok2 c33
theorem c48 : chkM (orcM tab mem2 400) m48 = true := by kernel_rfl
theorem v48 : Valid E m48 := valid_of cok2 c48
theorem c62 : chkM (orcM tab mem2 400) m62 = true := by kernel_rfl
theorem v62 : Valid E m62 := valid_of cok2 c62
theorem c72 : chkM (orcM tab mem2 400) m72 = true := by kernel_rfl
theorem v72 : Valid E m72 := valid_of cok2 c72
theorem c74 : chkM (orcM tab mem2 400) m74 = true := by kernel_rfl
theorem v74 : Valid E m74 := valid_of cok2 c74
theorem c76 : chkM (orcM tab mem2 400) m76 = true := by kernel_rfl
theorem v76 : Valid E m76 := valid_of cok2 c76
theorem c79 : chkM (orcM tab mem2 400) m79 = true := by kernel_rfl
theorem v79 : Valid E m79 := valid_of cok2 c79
theorem c80 : chkM (orcM tab mem2 400) m80 = true := by kernel_rfl
theorem v80 : Valid E m80 := valid_of cok2 c80
theorem c81 : chkM (orcM tab mem2 400) m81 = true := by kernel_rfl
theorem v81 : Valid E m81 := valid_of cok2 c81
theorem c83 : chkM (orcM tab mem2 400) m83 = true := by kernel_rfl
theorem v83 : Valid E m83 := valid_of cok2 c83
theorem c87 : chkM (orcM tab mem2 400) m87 = true := by kernel_rfl
theorem v87 : Valid E m87 := valid_of cok2 c87
theorem c88 : chkM (orcM tab mem2 400) m88 = true := by kernel_rfl
theorem v88 : Valid E m88 := valid_of cok2 c88
theorem c89 : chkM (orcM tab mem2 400) m89 = true := by kernel_rfl
theorem v89 : Valid E m89 := valid_of cok2 c89
end VE
