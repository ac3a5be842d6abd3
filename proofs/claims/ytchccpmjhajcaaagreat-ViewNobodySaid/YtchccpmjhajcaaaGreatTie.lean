/- Each function of the table is that of the given program. -/
import Derived.Test.YtchccpmjhajcaaaGreatTab0
import Derived.Test.YtchccpmjhajcaaaGreatProg
set_option linter.unusedVariables false
set_option linter.unusedSimpArgs false
set_option linter.unusedSectionVars false
namespace VE
open Go
noncomputable def E : Env := ⟨Go.Proofs.Tryz.prog, eqs, keys⟩
theorem ok_law27_ViewNobody : compF E.P E.eqs E.keys [[1, 4, 5]] Go.Proofs.Tryz.f4 = some f_law27_ViewNobody := by kernel_rfl
theorem ok_ref25_Own : compF E.P E.eqs E.keys [] Go.Proofs.Tryz.f5 = some f_ref25_Own := by kernel_rfl
theorem ok_grid_May : compF E.P E.eqs E.keys [] Go.Proofs.Tryz.f6 = some f_grid_May := by kernel_rfl
theorem ok_ref25_May : compF E.P E.eqs E.keys [] Go.Proofs.Tryz.f7 = some f_ref25_May := by kernel_rfl
theorem ok_ref21_Same : compF E.P E.eqs E.keys [[2, 3, 5]] Go.Proofs.Tryz.f8 = some f_ref21_Same := by kernel_rfl
theorem ok_law27_awake : compF E.P E.eqs E.keys [] Go.Proofs.Tryz.f10 = some f_law27_awake := by kernel_rfl
theorem ok_p_view_View_Do : compF E.P E.eqs E.keys [] Go.Proofs.Tryz.f11 = some f_p_view_View_Do := by kernel_rfl
theorem ok_p_view_View_Back : compF E.P E.eqs E.keys [] Go.Proofs.Tryz.f12 = some f_p_view_View_Back := by kernel_rfl
theorem ok_p_view_View_Left : compF E.P E.eqs E.keys [] Go.Proofs.Tryz.f13 = some f_p_view_View_Left := by kernel_rfl
theorem ok_ref27_Same : compF E.P E.eqs E.keys [] Go.Proofs.Tryz.f14 = some f_ref27_Same := by kernel_rfl
theorem ok_p_view_View_Now : compF E.P E.eqs E.keys [] Go.Proofs.Tryz.f15 = some f_p_view_View_Now := by kernel_rfl
theorem ok_p_view_View_Screen : compF E.P E.eqs E.keys [] Go.Proofs.Tryz.f16 = some f_p_view_View_Screen := by kernel_rfl
theorem ok_ref21_Own : compF E.P E.eqs E.keys [] Go.Proofs.Tryz.f17 = some f_ref21_Own := by kernel_rfl
theorem ok_sheet_Check : compF E.P E.eqs E.keys [[1, 28, 29, 30], [1, 43, 44, 45]] Go.Proofs.Tryz.f18 = some f_sheet_Check := by kernel_rfl
theorem ok_ref21_Check : compF E.P E.eqs E.keys [[1, 3], [1, 5], [1, 6], [1, 6, 7], [1, 8]] Go.Proofs.Tryz.f19 = some f_ref21_Check := by kernel_rfl
theorem ok_ref21_numbers : compF E.P E.eqs E.keys [[0, 1, 5]] Go.Proofs.Tryz.f20 = some f_ref21_numbers := by kernel_rfl
theorem ok_ref21_Rects : compF E.P E.eqs E.keys [[0, 1, 5]] Go.Proofs.Tryz.f21 = some f_ref21_Rects := by kernel_rfl
theorem ok_view_New : compF E.P E.eqs E.keys [] Go.Proofs.Tryz.f24 = some f_view_New := by kernel_rfl
theorem ok_law27_row : compF E.P E.eqs E.keys [[0, 1, 2, 7, 8]] Go.Proofs.Tryz.f25 = some f_law27_row := by kernel_rfl
theorem ok_view_does : compF E.P E.eqs E.keys [] Go.Proofs.Tryz.f26 = some f_view_does := by kernel_rfl
theorem ok_p_view_View_none : compF E.P E.eqs E.keys [] Go.Proofs.Tryz.f27 = some f_p_view_View_none := by kernel_rfl
theorem ok_sheet_Own : compF E.P E.eqs E.keys [] Go.Proofs.Tryz.f28 = some f_sheet_Own := by kernel_rfl
theorem ok_grid_Render : compF E.P E.eqs E.keys [[1, 5, 6, 7, 28, 29], [1, 5, 6, 7, 8, 28, 29, 33, 34]] Go.Proofs.Tryz.f29 = some f_grid_Render := by kernel_rfl
theorem ok_sheet_limits : compF E.P E.eqs E.keys [] Go.Proofs.Tryz.f30 = some f_sheet_limits := by kernel_rfl
theorem ok_sheet_order : compF E.P E.eqs E.keys [] Go.Proofs.Tryz.f31 = some f_sheet_order := by kernel_rfl
theorem ok_slices_ContainsFunc_LCell_Cell : compF E.P E.eqs E.keys [] Go.Proofs.Tryz.f32 = some f_slices_ContainsFunc_LCell_Cell := by kernel_rfl
theorem ok_sheet_Check_1 : compF E.P E.eqs E.keys [] Go.Proofs.Tryz.f33 = some f_sheet_Check_1 := by kernel_rfl
theorem ok_sheet_has : compF E.P E.eqs E.keys [] Go.Proofs.Tryz.f34 = some f_sheet_has := by kernel_rfl
theorem ok_sheet_one : compF E.P E.eqs E.keys [] Go.Proofs.Tryz.f35 = some f_sheet_one := by kernel_rfl
theorem ok_slices_ContainsFunc_LRect_Rect : compF E.P E.eqs E.keys [] Go.Proofs.Tryz.f36 = some f_slices_ContainsFunc_LRect_Rect := by kernel_rfl
theorem ok_sheet_Check_2 : compF E.P E.eqs E.keys [] Go.Proofs.Tryz.f37 = some f_sheet_Check_2 := by kernel_rfl
theorem ok_sheet_Check_3 : compF E.P E.eqs E.keys [] Go.Proofs.Tryz.f38 = some f_sheet_Check_3 := by kernel_rfl
theorem ok_sheet_Meet : compF E.P E.eqs E.keys [] Go.Proofs.Tryz.f39 = some f_sheet_Meet := by kernel_rfl
theorem ok_sheet_spot : compF E.P E.eqs E.keys [] Go.Proofs.Tryz.f40 = some f_sheet_spot := by kernel_rfl
theorem ok_sheet_corner : compF E.P E.eqs E.keys [] Go.Proofs.Tryz.f41 = some f_sheet_corner := by kernel_rfl
theorem ok_sheet_around : compF E.P E.eqs E.keys [] Go.Proofs.Tryz.f42 = some f_sheet_around := by kernel_rfl
theorem ok_ref21_Limits : compF E.P E.eqs E.keys [[1, 3], [1, 4], [1, 5]] Go.Proofs.Tryz.f43 = some f_ref21_Limits := by kernel_rfl
theorem ok_ref21_Order : compF E.P E.eqs E.keys [[1, 3], [1, 4], [1, 5], [1, 7]] Go.Proofs.Tryz.f44 = some f_ref21_Order := by kernel_rfl
theorem ok_ref21_there : compF E.P E.eqs E.keys [] Go.Proofs.Tryz.f45 = some f_ref21_there := by kernel_rfl
theorem ok_ref21_Meet : compF E.P E.eqs E.keys [] Go.Proofs.Tryz.f46 = some f_ref21_Meet := by kernel_rfl
theorem ok_ref21_Around : compF E.P E.eqs E.keys [[1, 2, 3, 6, 7]] Go.Proofs.Tryz.f47 = some f_ref21_Around := by kernel_rfl
theorem ok_view_now_scrolled : compF E.P E.eqs E.keys [] Go.Proofs.Tryz.f48 = some f_view_now_scrolled := by kernel_rfl
theorem ok_view_now_sized : compF E.P E.eqs E.keys [] Go.Proofs.Tryz.f49 = some f_view_now_sized := by kernel_rfl
theorem ok_view_now_edited : compF E.P E.eqs E.keys [] Go.Proofs.Tryz.f50 = some f_view_now_edited := by kernel_rfl
theorem ok_slices_Clone_Lint_int : compF E.P E.eqs E.keys [] Go.Proofs.Tryz.f51 = some f_slices_Clone_Lint_int := by kernel_rfl
theorem ok_slices_Clone_LCell_Cell : compF E.P E.eqs E.keys [] Go.Proofs.Tryz.f52 = some f_slices_Clone_LCell_Cell := by kernel_rfl
theorem ok_slices_Clone_LRect_Rect : compF E.P E.eqs E.keys [] Go.Proofs.Tryz.f53 = some f_slices_Clone_LRect_Rect := by kernel_rfl
theorem ok_axis_Back : compF E.P E.eqs E.keys [] Go.Proofs.Tryz.f54 = some f_axis_Back := by kernel_rfl
theorem ok_p_grid_screen_slot : compF E.P E.eqs E.keys [] Go.Proofs.Tryz.f55 = some f_p_grid_screen_slot := by kernel_rfl
theorem ok_sheet_limits_1 : compF E.P E.eqs E.keys [] Go.Proofs.Tryz.f56 = some f_sheet_limits_1 := by kernel_rfl
theorem ok_sheet_over : compF E.P E.eqs E.keys [] Go.Proofs.Tryz.f57 = some f_sheet_over := by kernel_rfl
theorem ok_sheet_sizes : compF E.P E.eqs E.keys [] Go.Proofs.Tryz.f58 = some f_sheet_sizes := by kernel_rfl
theorem ok_sheet_rise_Cell : compF E.P E.eqs E.keys [[0, 1, 5]] Go.Proofs.Tryz.f59 = some f_sheet_rise_Cell := by kernel_rfl
theorem ok_sheet_rise_Rect : compF E.P E.eqs E.keys [[0, 1, 5]] Go.Proofs.Tryz.f60 = some f_sheet_rise_Rect := by kernel_rfl
theorem ok_sheet_order_1 : compF E.P E.eqs E.keys [] Go.Proofs.Tryz.f61 = some f_sheet_order_1 := by kernel_rfl
theorem ok_sheet_styled : compF E.P E.eqs E.keys [] Go.Proofs.Tryz.f62 = some f_sheet_styled := by kernel_rfl
theorem ok_sheet_order_2 : compF E.P E.eqs E.keys [] Go.Proofs.Tryz.f63 = some f_sheet_order_2 := by kernel_rfl
theorem ok_slices_IndexFunc_LCell_Cell : compF E.P E.eqs E.keys [[0, 1, 7, 8]] Go.Proofs.Tryz.f64 = some f_slices_IndexFunc_LCell_Cell := by kernel_rfl
theorem ok_slices_IndexFunc_LRect_Rect : compF E.P E.eqs E.keys [[0, 1, 7, 8]] Go.Proofs.Tryz.f65 = some f_slices_IndexFunc_LRect_Rect := by kernel_rfl
theorem ok_sheet_share : compF E.P E.eqs E.keys [] Go.Proofs.Tryz.f66 = some f_sheet_share := by kernel_rfl
theorem ok_sheet_around_1 : compF E.P E.eqs E.keys [] Go.Proofs.Tryz.f67 = some f_sheet_around_1 := by kernel_rfl
theorem ok_ref21_ahead : compF E.P E.eqs E.keys [] Go.Proofs.Tryz.f68 = some f_ref21_ahead := by kernel_rfl
theorem ok_ref21_Styled : compF E.P E.eqs E.keys [] Go.Proofs.Tryz.f69 = some f_ref21_Styled := by kernel_rfl
theorem ok_ref21_Covers : compF E.P E.eqs E.keys [] Go.Proofs.Tryz.f70 = some f_ref21_Covers := by kernel_rfl
theorem ok_view_far : compF E.P E.eqs E.keys [] Go.Proofs.Tryz.f71 = some f_view_far := by kernel_rfl
theorem ok_edit_Do : compF E.P E.eqs E.keys [] Go.Proofs.Tryz.f72 = some f_edit_Do := by kernel_rfl
theorem ok_edge_Arms : compF E.P E.eqs E.keys [[13, 14, 50, 51]] Go.Proofs.Tryz.f74 = some f_edge_Arms := by kernel_rfl
theorem ok_p_grid_screen_border : compF E.P E.eqs E.keys [] Go.Proofs.Tryz.f75 = some f_p_grid_screen_border := by kernel_rfl
theorem ok_axis_Find : compF E.P E.eqs E.keys [] Go.Proofs.Tryz.f76 = some f_axis_Find := by kernel_rfl
theorem ok_sheet_Region : compF E.P E.eqs E.keys [] Go.Proofs.Tryz.f77 = some f_sheet_Region := by kernel_rfl
theorem ok_p_grid_screen_inside : compF E.P E.eqs E.keys [] Go.Proofs.Tryz.f78 = some f_p_grid_screen_inside := by kernel_rfl
theorem ok_slices_ContainsFunc_Lint_int : compF E.P E.eqs E.keys [] Go.Proofs.Tryz.f79 = some f_slices_ContainsFunc_Lint_int := by kernel_rfl
theorem ok_sheet_over_1 : compF E.P E.eqs E.keys [] Go.Proofs.Tryz.f80 = some f_sheet_over_1 := by kernel_rfl
theorem ok_slices_Min_Lint_int : compF E.P E.eqs E.keys [[0, 3, 4]] Go.Proofs.Tryz.f81 = some f_slices_Min_Lint_int := by kernel_rfl
theorem ok_sheet_ahead : compF E.P E.eqs E.keys [] Go.Proofs.Tryz.f82 = some f_sheet_ahead := by kernel_rfl
theorem ok_ref21_in : compF E.P E.eqs E.keys [] Go.Proofs.Tryz.f83 = some f_ref21_in := by kernel_rfl
theorem ok_p_edit_editor_does : compF E.P E.eqs E.keys [] Go.Proofs.Tryz.f84 = some f_p_edit_editor_does := by kernel_rfl
theorem ok_axis_point : compF E.P E.eqs E.keys [] Go.Proofs.Tryz.f85 = some f_axis_point := by kernel_rfl
theorem ok_edge_ways : compF E.P E.eqs E.keys [] Go.Proofs.Tryz.f86 = some f_edge_ways := by kernel_rfl
theorem ok_edge_spot_arm : compF E.P E.eqs E.keys [] Go.Proofs.Tryz.f87 = some f_edge_spot_arm := by kernel_rfl
theorem ok_edge_Glyph : compF E.P E.eqs E.keys [] Go.Proofs.Tryz.f89 = some f_edge_Glyph := by kernel_rfl
theorem ok_axis_Starts : compF E.P E.eqs E.keys [[3, 7, 8, 9]] Go.Proofs.Tryz.f90 = some f_axis_Starts := by kernel_rfl
theorem ok_slices_BinarySearch_Lint_int : compF E.P E.eqs E.keys [[0, 1, 6, 7, 8]] Go.Proofs.Tryz.f91 = some f_slices_BinarySearch_Lint_int := by kernel_rfl
theorem ok_p_grid_screen_layout : compF E.P E.eqs E.keys [] Go.Proofs.Tryz.f92 = some f_p_grid_screen_layout := by kernel_rfl
theorem ok_slices_IndexFunc_Lint_int : compF E.P E.eqs E.keys [[0, 1, 7, 8]] Go.Proofs.Tryz.f93 = some f_slices_IndexFunc_Lint_int := by kernel_rfl
theorem ok_slices_Compare_Lint_int : compF E.P E.eqs E.keys [[0, 1, 9, 10, 11]] Go.Proofs.Tryz.f94 = some f_slices_Compare_Lint_int := by kernel_rfl
theorem ok_p_edit_editor_set : compF E.P E.eqs E.keys [] Go.Proofs.Tryz.f95 = some f_p_edit_editor_set := by kernel_rfl
theorem ok_edge_spot_parts : compF E.P E.eqs E.keys [] Go.Proofs.Tryz.f106 = some f_edge_spot_parts := by kernel_rfl
theorem ok_edge_signs : compF E.P E.eqs E.keys [] Go.Proofs.Tryz.f109 = some f_edge_signs := by kernel_rfl
theorem ok_axis_cut : compF E.P E.eqs E.keys [] Go.Proofs.Tryz.f110 = some f_axis_cut := by kernel_rfl
theorem ok_cmp_Less_int : compF E.P E.eqs E.keys [] Go.Proofs.Tryz.f111 = some f_cmp_Less_int := by kernel_rfl
theorem ok_slices_isNaN_int : compF E.P E.eqs E.keys [] Go.Proofs.Tryz.f112 = some f_slices_isNaN_int := by kernel_rfl
theorem ok_axis_Corner : compF E.P E.eqs E.keys [] Go.Proofs.Tryz.f113 = some f_axis_Corner := by kernel_rfl
theorem ok_axis_Size : compF E.P E.eqs E.keys [] Go.Proofs.Tryz.f114 = some f_axis_Size := by kernel_rfl
theorem ok_sheet_Get : compF E.P E.eqs E.keys [] Go.Proofs.Tryz.f115 = some f_sheet_Get := by kernel_rfl
theorem ok_cell_Layout : compF E.P E.eqs E.keys [[2, 3, 4, 6, 12, 13, 43, 44, 45]] Go.Proofs.Tryz.f116 = some f_cell_Layout := by kernel_rfl
theorem ok_cmp_Compare_int : compF E.P E.eqs E.keys [] Go.Proofs.Tryz.f117 = some f_cmp_Compare_int := by kernel_rfl
theorem ok_p_edit_editor_here : compF E.P E.eqs E.keys [] Go.Proofs.Tryz.f118 = some f_p_edit_editor_here := by kernel_rfl
theorem ok_p_edit_editor_lay : compF E.P E.eqs E.keys [] Go.Proofs.Tryz.f119 = some f_p_edit_editor_lay := by kernel_rfl
theorem ok_edge_spot_region : compF E.P E.eqs E.keys [] Go.Proofs.Tryz.f132 = some f_edge_spot_region := by kernel_rfl
theorem ok_cmp_isNaN_int : compF E.P E.eqs E.keys [] Go.Proofs.Tryz.f133 = some f_cmp_isNaN_int := by kernel_rfl
theorem ok_axis_within : compF E.P E.eqs E.keys [] Go.Proofs.Tryz.f134 = some f_axis_within := by kernel_rfl
theorem ok_sheet_Get_1 : compF E.P E.eqs E.keys [] Go.Proofs.Tryz.f135 = some f_sheet_Get_1 := by kernel_rfl
theorem ok_cell_may : compF E.P E.eqs E.keys [] Go.Proofs.Tryz.f136 = some f_cell_may := by kernel_rfl
theorem ok_cell_lines : compF E.P E.eqs E.keys [[2, 3, 5, 9, 10, 11, 20, 21, 22], [2, 3, 5, 9, 10, 13, 14, 20, 21, 22, 67, 68, 69]] Go.Proofs.Tryz.f137 = some f_cell_lines := by kernel_rfl
theorem ok_clip_Clip : compF E.P E.eqs E.keys [] Go.Proofs.Tryz.f138 = some f_clip_Clip := by kernel_rfl
theorem ok_place_Slots : compF E.P E.eqs E.keys [] Go.Proofs.Tryz.f140 = some f_place_Slots := by kernel_rfl
theorem ok_cell_side : compF E.P E.eqs E.keys [] Go.Proofs.Tryz.f141 = some f_cell_side := by kernel_rfl
theorem ok_slices_Repeat_LSlot_Slot : compF E.P E.eqs E.keys [[7, 8]] Go.Proofs.Tryz.f142 = some f_slices_Repeat_LSlot_Slot := by kernel_rfl
theorem ok_slices_BinarySearchFunc_LCell_Cell_Cell : compF E.P E.eqs E.keys [[0, 2, 4, 8, 9, 10]] Go.Proofs.Tryz.f143 = some f_slices_BinarySearchFunc_LCell_Cell_Cell := by kernel_rfl
theorem ok_slices_Insert_LCell_Cell : compF E.P E.eqs E.keys [] Go.Proofs.Tryz.f147 = some f_slices_Insert_LCell_Cell := by kernel_rfl
theorem ok_runes_Split : compF E.P E.eqs E.keys [[0, 3, 8]] Go.Proofs.Tryz.f158 = some f_runes_Split := by kernel_rfl
theorem ok_base_Paragraphs : compF E.P E.eqs E.keys [[0, 3, 7, 8, 9]] Go.Proofs.Tryz.f159 = some f_base_Paragraphs := by kernel_rfl
theorem ok_cluster_Of : compF E.P E.eqs E.keys [[3, 4, 9, 10, 11]] Go.Proofs.Tryz.f160 = some f_cluster_Of := by kernel_rfl
theorem ok_cell_Level : compF E.P E.eqs E.keys [] Go.Proofs.Tryz.f161 = some f_cell_Level := by kernel_rfl
theorem ok_bidi_Resolve : compF E.P E.eqs E.keys [[1, 5, 6, 7, 8, 27, 28, 29], [1, 5, 6, 7, 8, 41, 42, 43], [1, 5, 6, 7, 8, 13, 41, 42, 43, 53, 54, 55], [6, 16, 72, 73, 74]] Go.Proofs.Tryz.f162 = some f_bidi_Resolve := by kernel_rfl
theorem ok_wrap_Lines : compF E.P E.eqs E.keys [] Go.Proofs.Tryz.f163 = some f_wrap_Lines := by kernel_rfl
theorem ok_clip_made : compF E.P E.eqs E.keys [] Go.Proofs.Tryz.f164 = some f_clip_made := by kernel_rfl
theorem ok_clip_look_clipped : compF E.P E.eqs E.keys [] Go.Proofs.Tryz.f165 = some f_clip_look_clipped := by kernel_rfl
theorem ok_place_begin : compF E.P E.eqs E.keys [] Go.Proofs.Tryz.f167 = some f_place_begin := by kernel_rfl
theorem ok_place_laid_text : compF E.P E.eqs E.keys [[1, 2, 5, 6, 7, 19, 20, 21], [1, 2, 5, 6, 7, 9, 10, 19, 20, 21, 30, 31]] Go.Proofs.Tryz.f168 = some f_place_laid_text := by kernel_rfl
theorem ok_slices_Concat_LSlot_Slot : compF E.P E.eqs E.keys [[0, 3, 9, 10, 11], [6, 25, 26, 27]] Go.Proofs.Tryz.f169 = some f_slices_Concat_LSlot_Slot := by kernel_rfl
theorem ok_place_pads : compF E.P E.eqs E.keys [] Go.Proofs.Tryz.f170 = some f_place_pads := by kernel_rfl
theorem ok_math_bits_Mul : compF E.P E.eqs E.keys [] Go.Proofs.Tryz.f171 = some f_math_bits_Mul := by kernel_rfl
theorem ok_math_bits_Len : compF E.P E.eqs E.keys [] Go.Proofs.Tryz.f175 = some f_math_bits_Len := by kernel_rfl
theorem ok_class_Of : compF E.P E.eqs E.keys [] Go.Proofs.Tryz.f179 = some f_class_Of := by kernel_rfl
theorem ok_cluster_see : compF E.P E.eqs E.keys [] Go.Proofs.Tryz.f180 = some f_cluster_see := by kernel_rfl
theorem ok_cluster_seen_joins : compF E.P E.eqs E.keys [] Go.Proofs.Tryz.f181 = some f_cluster_seen_joins := by kernel_rfl
theorem ok_cluster_first : compF E.P E.eqs E.keys [] Go.Proofs.Tryz.f182 = some f_cluster_first := by kernel_rfl
theorem ok_cluster_seen_then : compF E.P E.eqs E.keys [] Go.Proofs.Tryz.f183 = some f_cluster_seen_then := by kernel_rfl
theorem ok_class_All : compF E.P E.eqs E.keys [[3, 6, 7, 8]] Go.Proofs.Tryz.f185 = some f_class_All := by kernel_rfl
theorem ok_level_Explicit : compF E.P E.eqs E.keys [[0, 1, 4, 5, 6, 7, 27, 28, 29]] Go.Proofs.Tryz.f186 = some f_level_Explicit := by kernel_rfl
theorem ok_seqs_Sequences : compF E.P E.eqs E.keys [[0, 1, 7, 8, 9, 10, 29, 30, 31]] Go.Proofs.Tryz.f187 = some f_seqs_Sequences := by kernel_rfl
theorem ok_bidi_part_levels : compF E.P E.eqs E.keys [] Go.Proofs.Tryz.f188 = some f_bidi_part_levels := by kernel_rfl
theorem ok_wrap_Shown : compF E.P E.eqs E.keys [] Go.Proofs.Tryz.f189 = some f_wrap_Shown := by kernel_rfl
theorem ok_clip_look_may : compF E.P E.eqs E.keys [] Go.Proofs.Tryz.f191 = some f_clip_look_may := by kernel_rfl
theorem ok_clip_look_fits : compF E.P E.eqs E.keys [] Go.Proofs.Tryz.f192 = some f_clip_look_fits := by kernel_rfl
theorem ok_place_has : compF E.P E.eqs E.keys [] Go.Proofs.Tryz.f193 = some f_place_has := by kernel_rfl
theorem ok_bidi_Line : compF E.P E.eqs E.keys [] Go.Proofs.Tryz.f194 = some f_bidi_Line := by kernel_rfl
theorem ok_place_laid_seen : compF E.P E.eqs E.keys [[1, 2, 3, 14, 15, 16]] Go.Proofs.Tryz.f195 = some f_place_laid_seen := by kernel_rfl
theorem ok_bidi_Order : compF E.P E.eqs E.keys [[3, 8, 9]] Go.Proofs.Tryz.f196 = some f_bidi_Order := by kernel_rfl
theorem ok_bidi_Shown : compF E.P E.eqs E.keys [] Go.Proofs.Tryz.f197 = some f_bidi_Shown := by kernel_rfl
theorem ok_slices_Grow_LSlot_Slot : compF E.P E.eqs E.keys [] Go.Proofs.Tryz.f199 = some f_slices_Grow_LSlot_Slot := by kernel_rfl
theorem ok_math_bits_Mul64 : compF E.P E.eqs E.keys [] Go.Proofs.Tryz.f201 = some f_math_bits_Mul64 := by kernel_rfl
theorem ok_math_bits_Len64 : compF E.P E.eqs E.keys [] Go.Proofs.Tryz.f212 = some f_math_bits_Len64 := by kernel_rfl
theorem ok_class_spans : compF E.P E.eqs E.keys [] Go.Proofs.Tryz.f222 = some f_class_spans := by kernel_rfl
theorem ok_slices_BinarySearchFunc_Lclass_span_class_span_int : compF E.P E.eqs E.keys [[0, 1, 2, 8, 9, 10]] Go.Proofs.Tryz.f223 = some f_slices_BinarySearchFunc_Lclass_span_class_span_int := by kernel_rfl
theorem ok_class_span_side : compF E.P E.eqs E.keys [] Go.Proofs.Tryz.f224 = some f_class_span_side := by kernel_rfl
theorem ok_gcb_Of : compF E.P E.eqs E.keys [] Go.Proofs.Tryz.f225 = some f_gcb_Of := by kernel_rfl
theorem ok_cols_Of : compF E.P E.eqs E.keys [] Go.Proofs.Tryz.f226 = some f_cols_Of := by kernel_rfl
theorem ok_gcb_Pict : compF E.P E.eqs E.keys [] Go.Proofs.Tryz.f227 = some f_gcb_Pict := by kernel_rfl
theorem ok_cluster_behind : compF E.P E.eqs E.keys [[0, 1, 4]] Go.Proofs.Tryz.f228 = some f_cluster_behind := by kernel_rfl
theorem ok_base_Match : compF E.P E.eqs E.keys [[0, 3, 4, 11, 12, 13]] Go.Proofs.Tryz.f229 = some f_base_Match := by kernel_rfl
theorem ok_base_opens : compF E.P E.eqs E.keys [] Go.Proofs.Tryz.f230 = some f_base_opens := by kernel_rfl
theorem ok_p_level_walk_last : compF E.P E.eqs E.keys [] Go.Proofs.Tryz.f231 = some f_p_level_walk_last := by kernel_rfl
theorem ok_p_level_walk_seen : compF E.P E.eqs E.keys [] Go.Proofs.Tryz.f235 = some f_p_level_walk_seen := by kernel_rfl
theorem ok_level_Removed : compF E.P E.eqs E.keys [] Go.Proofs.Tryz.f237 = some f_level_Removed := by kernel_rfl
theorem ok_seqs_runs : compF E.P E.eqs E.keys [] Go.Proofs.Tryz.f238 = some f_seqs_runs := by kernel_rfl
theorem ok_seqs_way : compF E.P E.eqs E.keys [] Go.Proofs.Tryz.f239 = some f_seqs_way := by kernel_rfl
theorem ok_seqs_beside : compF E.P E.eqs E.keys [] Go.Proofs.Tryz.f240 = some f_seqs_beside := by kernel_rfl
theorem ok_seqs_goes : compF E.P E.eqs E.keys [] Go.Proofs.Tryz.f241 = some f_seqs_goes := by kernel_rfl
theorem ok_seqs_behind : compF E.P E.eqs E.keys [] Go.Proofs.Tryz.f242 = some f_seqs_behind := by kernel_rfl
theorem ok_weak_Weak : compF E.P E.eqs E.keys [[5, 22, 23, 24]] Go.Proofs.Tryz.f243 = some f_weak_Weak := by kernel_rfl
theorem ok_bidi_part_of : compF E.P E.eqs E.keys [[1, 5, 10, 11, 12]] Go.Proofs.Tryz.f244 = some f_bidi_part_of := by kernel_rfl
theorem ok_pairs_Brackets : compF E.P E.eqs E.keys [[2, 11, 38, 39, 40]] Go.Proofs.Tryz.f245 = some f_pairs_Brackets := by kernel_rfl
theorem ok_neutral_Levels : compF E.P E.eqs E.keys [[1, 5, 11, 12, 13]] Go.Proofs.Tryz.f246 = some f_neutral_Levels := by kernel_rfl
theorem ok_neutral_Settle : compF E.P E.eqs E.keys [[0, 3, 9, 10, 11, 12, 25, 26, 27]] Go.Proofs.Tryz.f247 = some f_neutral_Settle := by kernel_rfl
theorem ok_wrap_Break : compF E.P E.eqs E.keys [] Go.Proofs.Tryz.f248 = some f_wrap_Break := by kernel_rfl
theorem ok_wrap_Fits : compF E.P E.eqs E.keys [[0, 7, 8]] Go.Proofs.Tryz.f251 = some f_wrap_Fits := by kernel_rfl
theorem ok_slices_Backward_LRune_Rune : compF E.P E.eqs E.keys [] Go.Proofs.Tryz.f252 = some f_slices_Backward_LRune_Rune := by kernel_rfl
theorem ok_bidi_blank : compF E.P E.eqs E.keys [] Go.Proofs.Tryz.f253 = some f_bidi_blank := by kernel_rfl
theorem ok_bidi_turn : compF E.P E.eqs E.keys [[0, 2, 3, 9, 10], [0, 2, 3, 9, 10, 11]] Go.Proofs.Tryz.f254 = some f_bidi_turn := by kernel_rfl
theorem ok_gcb_steps : compF E.P E.eqs E.keys [] Go.Proofs.Tryz.f268 = some f_gcb_steps := by kernel_rfl
theorem ok_slices_BinarySearchFunc_Lgcb_step_gcb_step_int : compF E.P E.eqs E.keys [[0, 1, 2, 8, 9, 10]] Go.Proofs.Tryz.f269 = some f_slices_BinarySearchFunc_Lgcb_step_gcb_step_int := by kernel_rfl
theorem ok_gcb_Of_1 : compF E.P E.eqs E.keys [] Go.Proofs.Tryz.f270 = some f_gcb_Of_1 := by kernel_rfl
theorem ok_gcb_kind_of : compF E.P E.eqs E.keys [] Go.Proofs.Tryz.f271 = some f_gcb_kind_of := by kernel_rfl
theorem ok_cols_narrow : compF E.P E.eqs E.keys [] Go.Proofs.Tryz.f272 = some f_cols_narrow := by kernel_rfl
theorem ok_cols_wide : compF E.P E.eqs E.keys [] Go.Proofs.Tryz.f273 = some f_cols_wide := by kernel_rfl
theorem ok_cols_within : compF E.P E.eqs E.keys [] Go.Proofs.Tryz.f274 = some f_cols_within := by kernel_rfl
theorem ok_gcb_edges : compF E.P E.eqs E.keys [] Go.Proofs.Tryz.f275 = some f_gcb_edges := by kernel_rfl
theorem ok_seqs_kept : compF E.P E.eqs E.keys [] Go.Proofs.Tryz.f278 = some f_seqs_kept := by kernel_rfl
theorem ok_weak_seq_marks : compF E.P E.eqs E.keys [[1, 5, 6, 7]] Go.Proofs.Tryz.f281 = some f_weak_seq_marks := by kernel_rfl
theorem ok_weak_Weak_1 : compF E.P E.eqs E.keys [] Go.Proofs.Tryz.f282 = some f_weak_Weak_1 := by kernel_rfl
theorem ok_weak_seq_after : compF E.P E.eqs E.keys [[1, 2, 3, 6, 12, 13, 14]] Go.Proofs.Tryz.f283 = some f_weak_seq_after := by kernel_rfl
theorem ok_weak_Weak_2 : compF E.P E.eqs E.keys [] Go.Proofs.Tryz.f284 = some f_weak_Weak_2 := by kernel_rfl
theorem ok_weak_seq_turn : compF E.P E.eqs E.keys [[1, 2, 3, 9, 10, 11]] Go.Proofs.Tryz.f285 = some f_weak_seq_turn := by kernel_rfl
theorem ok_weak_seq_between : compF E.P E.eqs E.keys [[1, 7, 8, 9]] Go.Proofs.Tryz.f286 = some f_weak_seq_between := by kernel_rfl
theorem ok_weak_seq_beside : compF E.P E.eqs E.keys [[1, 2], [1, 2, 3], [1, 2, 4]] Go.Proofs.Tryz.f287 = some f_weak_seq_beside := by kernel_rfl
theorem ok_weak_Weak_3 : compF E.P E.eqs E.keys [] Go.Proofs.Tryz.f288 = some f_weak_Weak_3 := by kernel_rfl
theorem ok_weak_Weak_4 : compF E.P E.eqs E.keys [] Go.Proofs.Tryz.f289 = some f_weak_Weak_4 := by kernel_rfl
theorem ok_pairs_Find : compF E.P E.eqs E.keys [[0, 3, 5, 6, 18, 19, 20, 57, 58]] Go.Proofs.Tryz.f290 = some f_pairs_Find := by kernel_rfl
theorem ok_neutral_rises : compF E.P E.eqs E.keys [] Go.Proofs.Tryz.f294 = some f_neutral_rises := by kernel_rfl
theorem ok_neutral_Settle_1 : compF E.P E.eqs E.keys [[0, 4, 5, 8]] Go.Proofs.Tryz.f295 = some f_neutral_Settle_1 := by kernel_rfl
theorem ok_neutral_way : compF E.P E.eqs E.keys [] Go.Proofs.Tryz.f296 = some f_neutral_way := by kernel_rfl
theorem ok_neutral_letter : compF E.P E.eqs E.keys [] Go.Proofs.Tryz.f297 = some f_neutral_letter := by kernel_rfl
theorem ok_slices_Backward_LRune_Rune_1 : compF E.P E.eqs E.keys [[0, 1, 3]] Go.Proofs.Tryz.f302 = some f_slices_Backward_LRune_Rune_1 := by kernel_rfl
theorem ok_mirror_find : compF E.P E.eqs E.keys [] Go.Proofs.Tryz.f303 = some f_mirror_find := by kernel_rfl
theorem ok_slices_BinarySearchFunc_Lint_int_int : compF E.P E.eqs E.keys [[0, 1, 2, 8, 9, 10]] Go.Proofs.Tryz.f307 = some f_slices_BinarySearchFunc_Lint_int_int := by kernel_rfl
theorem ok_cols_within_1 : compF E.P E.eqs E.keys [] Go.Proofs.Tryz.f308 = some f_cols_within_1 := by kernel_rfl
theorem ok_seqs_kept_1 : compF E.P E.eqs E.keys [[0, 5, 6, 7]] Go.Proofs.Tryz.f310 = some f_seqs_kept_1 := by kernel_rfl
theorem ok_weak_seq_at : compF E.P E.eqs E.keys [] Go.Proofs.Tryz.f312 = some f_weak_seq_at := by kernel_rfl
theorem ok_slices_Contains_Lint_int : compF E.P E.eqs E.keys [] Go.Proofs.Tryz.f313 = some f_slices_Contains_Lint_int := by kernel_rfl
theorem ok_mirror_Pair : compF E.P E.eqs E.keys [] Go.Proofs.Tryz.f314 = some f_mirror_Pair := by kernel_rfl
theorem ok_slices_SortFunc_LPair_Pair : compF E.P E.eqs E.keys [] Go.Proofs.Tryz.f317 = some f_slices_SortFunc_LPair_Pair := by kernel_rfl
theorem ok_mirror_rows : compF E.P E.eqs E.keys [] Go.Proofs.Tryz.f320 = some f_mirror_rows := by kernel_rfl
theorem ok_slices_BinarySearchFunc_Lmirror_row_mirror_row_int : compF E.P E.eqs E.keys [[0, 1, 2, 8, 9, 10]] Go.Proofs.Tryz.f321 = some f_slices_BinarySearchFunc_Lmirror_row_mirror_row_int := by kernel_rfl
theorem ok_mirror_find_1 : compF E.P E.eqs E.keys [] Go.Proofs.Tryz.f322 = some f_mirror_find_1 := by kernel_rfl
theorem ok_slices_Index_Lint_int : compF E.P E.eqs E.keys [[0, 1, 7, 8]] Go.Proofs.Tryz.f324 = some f_slices_Index_Lint_int := by kernel_rfl
theorem ok_slices_pdqsortCmpFunc_Pair : compF E.P E.eqs E.keys [[0, 1, 2, 3, 4, 10, 11]] Go.Proofs.Tryz.f327 = some f_slices_pdqsortCmpFunc_Pair := by kernel_rfl
theorem ok_slices_insertionSortCmpFunc_Pair : compF E.P E.eqs E.keys [[0, 1, 2, 3, 8], [0, 1, 2, 3, 8, 9]] Go.Proofs.Tryz.f328 = some f_slices_insertionSortCmpFunc_Pair := by kernel_rfl
theorem envOk : EnvOk E := envOk_of (by kernel_rfl) (by kernel_rfl) (by kernel_rfl)
set_option maxRecDepth 100000 in
theorem tabOk : TabOk E tab := tabOk_of (.o (.o (.o (.s ⟨_, _, Go.Proofs.Tryz.func7, ok_ref25_May⟩ (.s ⟨_, _, Go.Proofs.Tryz.func15, ok_p_view_View_Now⟩ (.s ⟨_, _, Go.Proofs.Tryz.func31, ok_sheet_order⟩ (.s ⟨_, _, Go.Proofs.Tryz.func63, ok_sheet_order_2⟩ .e (.s ⟨_, _, Go.Proofs.Tryz.func191, ok_clip_look_may⟩ .e .e)) (.s ⟨_, _, Go.Proofs.Tryz.func95, ok_p_edit_editor_set⟩ (.s ⟨_, _, Go.Proofs.Tryz.func159, ok_base_Paragraphs⟩ (.s ⟨_, _, Go.Proofs.Tryz.func287, ok_weak_seq_beside⟩ .e .e) .e) (.s ⟨_, _, Go.Proofs.Tryz.func223, ok_slices_BinarySearchFunc_Lclass_span_class_span_int⟩ .e .e))) (.s ⟨_, _, Go.Proofs.Tryz.func47, ok_ref21_Around⟩ (.s ⟨_, _, Go.Proofs.Tryz.func79, ok_slices_ContainsFunc_Lint_int⟩ (.s ⟨_, _, Go.Proofs.Tryz.func143, ok_slices_BinarySearchFunc_LCell_Cell_Cell⟩ (.s ⟨_, _, Go.Proofs.Tryz.func271, ok_gcb_kind_of⟩ .e .e) .e) .e) (.s ⟨_, _, Go.Proofs.Tryz.func111, ok_cmp_Less_int⟩ (.s ⟨_, _, Go.Proofs.Tryz.func175, ok_math_bits_Len⟩ (.s ⟨_, _, Go.Proofs.Tryz.func303, ok_mirror_find⟩ .e .e) .e) (.s ⟨_, _, Go.Proofs.Tryz.func239, ok_seqs_way⟩ .e .e)))) (.o (.s ⟨_, _, Go.Proofs.Tryz.func39, ok_sheet_Meet⟩ (.s ⟨_, _, Go.Proofs.Tryz.func71, ok_view_far⟩ (.s ⟨_, _, Go.Proofs.Tryz.func135, ok_sheet_Get_1⟩ .e .e) (.s ⟨_, _, Go.Proofs.Tryz.func199, ok_slices_Grow_LSlot_Slot⟩ (.s ⟨_, _, Go.Proofs.Tryz.func327, ok_slices_pdqsortCmpFunc_Pair⟩ .e .e) .e)) (.o (.s ⟨_, _, Go.Proofs.Tryz.func167, ok_place_begin⟩ (.s ⟨_, _, Go.Proofs.Tryz.func295, ok_neutral_Settle_1⟩ .e .e) .e) (.s ⟨_, _, Go.Proofs.Tryz.func231, ok_p_level_walk_last⟩ .e .e))) (.s ⟨_, _, Go.Proofs.Tryz.func55, ok_p_grid_screen_slot⟩ (.s ⟨_, _, Go.Proofs.Tryz.func87, ok_edge_spot_arm⟩ .e .e) (.s ⟨_, _, Go.Proofs.Tryz.func119, ok_p_edit_editor_lay⟩ (.s ⟨_, _, Go.Proofs.Tryz.func183, ok_cluster_seen_then⟩ .e .e) (.s ⟨_, _, Go.Proofs.Tryz.func247, ok_neutral_Settle⟩ .e .e))))) (.s ⟨_, _, Go.Proofs.Tryz.func11, ok_p_view_View_Do⟩ (.s ⟨_, _, Go.Proofs.Tryz.func19, ok_ref21_Check⟩ (.s ⟨_, _, Go.Proofs.Tryz.func35, ok_sheet_one⟩ (.s ⟨_, _, Go.Proofs.Tryz.func67, ok_sheet_around_1⟩ .e (.s ⟨_, _, Go.Proofs.Tryz.func195, ok_place_laid_seen⟩ .e .e)) (.o (.s ⟨_, _, Go.Proofs.Tryz.func163, ok_wrap_Lines⟩ .e .e) (.s ⟨_, _, Go.Proofs.Tryz.func227, ok_gcb_Pict⟩ .e .e))) (.s ⟨_, _, Go.Proofs.Tryz.func51, ok_slices_Clone_Lint_int⟩ (.s ⟨_, _, Go.Proofs.Tryz.func83, ok_ref21_in⟩ (.s ⟨_, _, Go.Proofs.Tryz.func147, ok_slices_Insert_LCell_Cell⟩ (.s ⟨_, _, Go.Proofs.Tryz.func275, ok_gcb_edges⟩ .e .e) .e) .e) (.s ⟨_, _, Go.Proofs.Tryz.func115, ok_sheet_Get⟩ (.s ⟨_, _, Go.Proofs.Tryz.func179, ok_class_Of⟩ (.s ⟨_, _, Go.Proofs.Tryz.func307, ok_slices_BinarySearchFunc_Lint_int_int⟩ .e .e) .e) (.s ⟨_, _, Go.Proofs.Tryz.func243, ok_weak_Weak⟩ .e .e)))) (.s ⟨_, _, Go.Proofs.Tryz.func27, ok_p_view_View_none⟩ (.s ⟨_, _, Go.Proofs.Tryz.func43, ok_ref21_Limits⟩ (.s ⟨_, _, Go.Proofs.Tryz.func75, ok_p_grid_screen_border⟩ .e .e) (.o (.s ⟨_, _, Go.Proofs.Tryz.func171, ok_math_bits_Mul⟩ .e .e) (.s ⟨_, _, Go.Proofs.Tryz.func235, ok_p_level_walk_seen⟩ .e .e))) (.s ⟨_, _, Go.Proofs.Tryz.func59, ok_sheet_rise_Cell⟩ (.s ⟨_, _, Go.Proofs.Tryz.func91, ok_slices_BinarySearch_Lint_int⟩ (.o (.s ⟨_, _, Go.Proofs.Tryz.func283, ok_weak_seq_after⟩ .e .e) .e) .e) (.o (.s ⟨_, _, Go.Proofs.Tryz.func187, ok_seqs_Sequences⟩ .e .e) (.s ⟨_, _, Go.Proofs.Tryz.func251, ok_wrap_Fits⟩ .e .e)))))) (.s ⟨_, _, Go.Proofs.Tryz.func5, ok_ref25_Own⟩ (.o (.s ⟨_, _, Go.Proofs.Tryz.func17, ok_ref21_Own⟩ (.s ⟨_, _, Go.Proofs.Tryz.func33, ok_sheet_Check_1⟩ (.s ⟨_, _, Go.Proofs.Tryz.func65, ok_slices_IndexFunc_LRect_Rect⟩ .e (.s ⟨_, _, Go.Proofs.Tryz.func193, ok_place_has⟩ (.s ⟨_, _, Go.Proofs.Tryz.func321, ok_slices_BinarySearchFunc_Lmirror_row_mirror_row_int⟩ .e .e) .e)) (.o (.s ⟨_, _, Go.Proofs.Tryz.func161, ok_cell_Level⟩ (.s ⟨_, _, Go.Proofs.Tryz.func289, ok_weak_Weak_4⟩ .e .e) .e) (.s ⟨_, _, Go.Proofs.Tryz.func225, ok_gcb_Of⟩ .e .e))) (.s ⟨_, _, Go.Proofs.Tryz.func49, ok_view_now_sized⟩ (.s ⟨_, _, Go.Proofs.Tryz.func81, ok_slices_Min_Lint_int⟩ (.o (.s ⟨_, _, Go.Proofs.Tryz.func273, ok_cols_wide⟩ .e .e) .e) .e) (.s ⟨_, _, Go.Proofs.Tryz.func113, ok_axis_Corner⟩ .e (.s ⟨_, _, Go.Proofs.Tryz.func241, ok_seqs_goes⟩ .e .e)))) (.s ⟨_, _, Go.Proofs.Tryz.func25, ok_law27_row⟩ (.s ⟨_, _, Go.Proofs.Tryz.func41, ok_sheet_corner⟩ (.o (.s ⟨_, _, Go.Proofs.Tryz.func137, ok_cell_lines⟩ .e .e) (.s ⟨_, _, Go.Proofs.Tryz.func201, ok_math_bits_Mul64⟩ .e .e)) (.o (.s ⟨_, _, Go.Proofs.Tryz.func169, ok_slices_Concat_LSlot_Slot⟩ (.s ⟨_, _, Go.Proofs.Tryz.func297, ok_neutral_letter⟩ .e .e) .e) .e)) (.s ⟨_, _, Go.Proofs.Tryz.func57, ok_sheet_over⟩ (.s ⟨_, _, Go.Proofs.Tryz.func89, ok_edge_Glyph⟩ (.o (.s ⟨_, _, Go.Proofs.Tryz.func281, ok_weak_seq_marks⟩ .e .e) .e) .e) (.o (.s ⟨_, _, Go.Proofs.Tryz.func185, ok_class_All⟩ (.s ⟨_, _, Go.Proofs.Tryz.func313, ok_slices_Contains_Lint_int⟩ .e .e) .e) .e)))) (.s ⟨_, _, Go.Proofs.Tryz.func13, ok_p_view_View_Left⟩ (.s ⟨_, _, Go.Proofs.Tryz.func21, ok_ref21_Rects⟩ (.s ⟨_, _, Go.Proofs.Tryz.func37, ok_sheet_Check_2⟩ (.s ⟨_, _, Go.Proofs.Tryz.func69, ok_ref21_Styled⟩ (.s ⟨_, _, Go.Proofs.Tryz.func133, ok_cmp_isNaN_int⟩ .e .e) (.s ⟨_, _, Go.Proofs.Tryz.func197, ok_bidi_Shown⟩ .e .e)) (.o (.s ⟨_, _, Go.Proofs.Tryz.func165, ok_clip_look_clipped⟩ .e .e) (.s ⟨_, _, Go.Proofs.Tryz.func229, ok_base_Match⟩ .e .e))) (.s ⟨_, _, Go.Proofs.Tryz.func53, ok_slices_Clone_LRect_Rect⟩ (.s ⟨_, _, Go.Proofs.Tryz.func85, ok_axis_point⟩ .e .e) (.s ⟨_, _, Go.Proofs.Tryz.func117, ok_cmp_Compare_int⟩ (.s ⟨_, _, Go.Proofs.Tryz.func181, ok_cluster_seen_joins⟩ .e .e) (.s ⟨_, _, Go.Proofs.Tryz.func245, ok_pairs_Brackets⟩ .e .e)))) (.s ⟨_, _, Go.Proofs.Tryz.func29, ok_grid_Render⟩ (.s ⟨_, _, Go.Proofs.Tryz.func45, ok_ref21_there⟩ (.s ⟨_, _, Go.Proofs.Tryz.func77, ok_sheet_Region⟩ (.s ⟨_, _, Go.Proofs.Tryz.func141, ok_cell_side⟩ (.s ⟨_, _, Go.Proofs.Tryz.func269, ok_slices_BinarySearchFunc_Lgcb_step_gcb_step_int⟩ .e .e) .e) .e) (.s ⟨_, _, Go.Proofs.Tryz.func109, ok_edge_signs⟩ .e (.s ⟨_, _, Go.Proofs.Tryz.func237, ok_level_Removed⟩ .e .e))) (.s ⟨_, _, Go.Proofs.Tryz.func61, ok_sheet_order_1⟩ (.s ⟨_, _, Go.Proofs.Tryz.func93, ok_slices_IndexFunc_Lint_int⟩ (.o (.s ⟨_, _, Go.Proofs.Tryz.func285, ok_weak_seq_turn⟩ .e .e) .e) .e) (.o (.s ⟨_, _, Go.Proofs.Tryz.func189, ok_wrap_Shown⟩ (.s ⟨_, _, Go.Proofs.Tryz.func317, ok_slices_SortFunc_LPair_Pair⟩ .e .e) .e) (.s ⟨_, _, Go.Proofs.Tryz.func253, ok_bidi_blank⟩ .e .e))))))) (.o (.s ⟨_, _, Go.Proofs.Tryz.func4, ok_law27_ViewNobody⟩ (.s ⟨_, _, Go.Proofs.Tryz.func8, ok_ref21_Same⟩ (.s ⟨_, _, Go.Proofs.Tryz.func16, ok_p_view_View_Screen⟩ (.s ⟨_, _, Go.Proofs.Tryz.func32, ok_slices_ContainsFunc_LCell_Cell⟩ (.s ⟨_, _, Go.Proofs.Tryz.func64, ok_slices_IndexFunc_LCell_Cell⟩ .e (.s ⟨_, _, Go.Proofs.Tryz.func192, ok_clip_look_fits⟩ (.s ⟨_, _, Go.Proofs.Tryz.func320, ok_mirror_rows⟩ .e .e) .e)) (.o (.s ⟨_, _, Go.Proofs.Tryz.func160, ok_cluster_Of⟩ (.s ⟨_, _, Go.Proofs.Tryz.func288, ok_weak_Weak_3⟩ .e .e) .e) (.s ⟨_, _, Go.Proofs.Tryz.func224, ok_class_span_side⟩ .e .e))) (.s ⟨_, _, Go.Proofs.Tryz.func48, ok_view_now_scrolled⟩ (.s ⟨_, _, Go.Proofs.Tryz.func80, ok_sheet_over_1⟩ (.o (.s ⟨_, _, Go.Proofs.Tryz.func272, ok_cols_narrow⟩ .e .e) .e) .e) (.s ⟨_, _, Go.Proofs.Tryz.func112, ok_slices_isNaN_int⟩ .e (.s ⟨_, _, Go.Proofs.Tryz.func240, ok_seqs_beside⟩ .e .e)))) (.s ⟨_, _, Go.Proofs.Tryz.func24, ok_view_New⟩ (.s ⟨_, _, Go.Proofs.Tryz.func40, ok_sheet_spot⟩ (.s ⟨_, _, Go.Proofs.Tryz.func72, ok_edit_Do⟩ (.s ⟨_, _, Go.Proofs.Tryz.func136, ok_cell_may⟩ .e .e) (.o (.s ⟨_, _, Go.Proofs.Tryz.func328, ok_slices_insertionSortCmpFunc_Pair⟩ .e .e) .e)) (.o (.s ⟨_, _, Go.Proofs.Tryz.func168, ok_place_laid_text⟩ (.s ⟨_, _, Go.Proofs.Tryz.func296, ok_neutral_way⟩ .e .e) .e) .e)) (.s ⟨_, _, Go.Proofs.Tryz.func56, ok_sheet_limits_1⟩ .e (.o (.o (.s ⟨_, _, Go.Proofs.Tryz.func312, ok_weak_seq_at⟩ .e .e) .e) (.s ⟨_, _, Go.Proofs.Tryz.func248, ok_wrap_Break⟩ .e .e))))) (.s ⟨_, _, Go.Proofs.Tryz.func12, ok_p_view_View_Back⟩ (.s ⟨_, _, Go.Proofs.Tryz.func20, ok_ref21_numbers⟩ (.s ⟨_, _, Go.Proofs.Tryz.func36, ok_slices_ContainsFunc_LRect_Rect⟩ (.s ⟨_, _, Go.Proofs.Tryz.func68, ok_ref21_ahead⟩ (.s ⟨_, _, Go.Proofs.Tryz.func132, ok_edge_spot_region⟩ .e .e) (.s ⟨_, _, Go.Proofs.Tryz.func196, ok_bidi_Order⟩ (.s ⟨_, _, Go.Proofs.Tryz.func324, ok_slices_Index_Lint_int⟩ .e .e) .e)) (.o (.s ⟨_, _, Go.Proofs.Tryz.func164, ok_clip_made⟩ .e .e) (.s ⟨_, _, Go.Proofs.Tryz.func228, ok_cluster_behind⟩ .e .e))) (.s ⟨_, _, Go.Proofs.Tryz.func52, ok_slices_Clone_LCell_Cell⟩ (.s ⟨_, _, Go.Proofs.Tryz.func84, ok_p_edit_editor_does⟩ .e (.s ⟨_, _, Go.Proofs.Tryz.func212, ok_math_bits_Len64⟩ .e .e)) (.s ⟨_, _, Go.Proofs.Tryz.func116, ok_cell_Layout⟩ (.s ⟨_, _, Go.Proofs.Tryz.func180, ok_cluster_see⟩ (.s ⟨_, _, Go.Proofs.Tryz.func308, ok_cols_within_1⟩ .e .e) .e) (.s ⟨_, _, Go.Proofs.Tryz.func244, ok_bidi_part_of⟩ .e .e)))) (.s ⟨_, _, Go.Proofs.Tryz.func28, ok_sheet_Own⟩ (.s ⟨_, _, Go.Proofs.Tryz.func44, ok_ref21_Order⟩ (.s ⟨_, _, Go.Proofs.Tryz.func76, ok_axis_Find⟩ (.s ⟨_, _, Go.Proofs.Tryz.func140, ok_place_Slots⟩ (.s ⟨_, _, Go.Proofs.Tryz.func268, ok_gcb_steps⟩ .e .e) .e) .e) .e) (.s ⟨_, _, Go.Proofs.Tryz.func60, ok_sheet_rise_Rect⟩ (.s ⟨_, _, Go.Proofs.Tryz.func92, ok_p_grid_screen_layout⟩ (.o (.s ⟨_, _, Go.Proofs.Tryz.func284, ok_weak_Weak_2⟩ .e .e) .e) .e) (.o (.s ⟨_, _, Go.Proofs.Tryz.func188, ok_bidi_part_levels⟩ .e .e) (.s ⟨_, _, Go.Proofs.Tryz.func252, ok_slices_Backward_LRune_Rune⟩ .e .e)))))) (.s ⟨_, _, Go.Proofs.Tryz.func6, ok_grid_May⟩ (.s ⟨_, _, Go.Proofs.Tryz.func10, ok_law27_awake⟩ (.s ⟨_, _, Go.Proofs.Tryz.func18, ok_sheet_Check⟩ (.s ⟨_, _, Go.Proofs.Tryz.func34, ok_sheet_has⟩ (.s ⟨_, _, Go.Proofs.Tryz.func66, ok_sheet_share⟩ .e (.s ⟨_, _, Go.Proofs.Tryz.func194, ok_bidi_Line⟩ (.s ⟨_, _, Go.Proofs.Tryz.func322, ok_mirror_find_1⟩ .e .e) .e)) (.o (.s ⟨_, _, Go.Proofs.Tryz.func162, ok_bidi_Resolve⟩ (.s ⟨_, _, Go.Proofs.Tryz.func290, ok_pairs_Find⟩ .e .e) .e) (.s ⟨_, _, Go.Proofs.Tryz.func226, ok_cols_Of⟩ .e .e))) (.s ⟨_, _, Go.Proofs.Tryz.func50, ok_view_now_edited⟩ (.s ⟨_, _, Go.Proofs.Tryz.func82, ok_sheet_ahead⟩ (.o (.s ⟨_, _, Go.Proofs.Tryz.func274, ok_cols_within⟩ .e .e) .e) .e) (.s ⟨_, _, Go.Proofs.Tryz.func114, ok_axis_Size⟩ .e (.s ⟨_, _, Go.Proofs.Tryz.func242, ok_seqs_behind⟩ .e .e)))) (.s ⟨_, _, Go.Proofs.Tryz.func26, ok_view_does⟩ (.s ⟨_, _, Go.Proofs.Tryz.func42, ok_sheet_around⟩ (.s ⟨_, _, Go.Proofs.Tryz.func74, ok_edge_Arms⟩ (.s ⟨_, _, Go.Proofs.Tryz.func138, ok_clip_Clip⟩ .e .e) .e) (.s ⟨_, _, Go.Proofs.Tryz.func106, ok_edge_spot_parts⟩ (.s ⟨_, _, Go.Proofs.Tryz.func170, ok_place_pads⟩ .e .e) .e)) (.s ⟨_, _, Go.Proofs.Tryz.func58, ok_sheet_sizes⟩ (.s ⟨_, _, Go.Proofs.Tryz.func90, ok_axis_Starts⟩ (.o (.s ⟨_, _, Go.Proofs.Tryz.func282, ok_weak_Weak_1⟩ .e .e) .e) .e) (.o (.s ⟨_, _, Go.Proofs.Tryz.func186, ok_level_Explicit⟩ (.s ⟨_, _, Go.Proofs.Tryz.func314, ok_mirror_Pair⟩ .e .e) .e) .e)))) (.s ⟨_, _, Go.Proofs.Tryz.func14, ok_ref27_Same⟩ (.o (.s ⟨_, _, Go.Proofs.Tryz.func38, ok_sheet_Check_3⟩ (.s ⟨_, _, Go.Proofs.Tryz.func70, ok_ref21_Covers⟩ (.s ⟨_, _, Go.Proofs.Tryz.func134, ok_axis_within⟩ .e .e) .e) (.o (.o (.s ⟨_, _, Go.Proofs.Tryz.func294, ok_neutral_rises⟩ .e .e) .e) (.s ⟨_, _, Go.Proofs.Tryz.func230, ok_base_opens⟩ .e .e))) (.s ⟨_, _, Go.Proofs.Tryz.func54, ok_axis_Back⟩ (.s ⟨_, _, Go.Proofs.Tryz.func86, ok_edge_ways⟩ (.o (.s ⟨_, _, Go.Proofs.Tryz.func278, ok_seqs_kept⟩ .e .e) .e) .e) (.s ⟨_, _, Go.Proofs.Tryz.func118, ok_p_edit_editor_here⟩ (.s ⟨_, _, Go.Proofs.Tryz.func182, ok_cluster_first⟩ (.s ⟨_, _, Go.Proofs.Tryz.func310, ok_seqs_kept_1⟩ .e .e) .e) (.s ⟨_, _, Go.Proofs.Tryz.func246, ok_neutral_Levels⟩ .e .e)))) (.s ⟨_, _, Go.Proofs.Tryz.func30, ok_sheet_limits⟩ (.s ⟨_, _, Go.Proofs.Tryz.func46, ok_ref21_Meet⟩ (.s ⟨_, _, Go.Proofs.Tryz.func78, ok_p_grid_screen_inside⟩ (.s ⟨_, _, Go.Proofs.Tryz.func142, ok_slices_Repeat_LSlot_Slot⟩ (.s ⟨_, _, Go.Proofs.Tryz.func270, ok_gcb_Of_1⟩ .e .e) .e) .e) (.s ⟨_, _, Go.Proofs.Tryz.func110, ok_axis_cut⟩ (.o (.s ⟨_, _, Go.Proofs.Tryz.func302, ok_slices_Backward_LRune_Rune_1⟩ .e .e) .e) (.s ⟨_, _, Go.Proofs.Tryz.func238, ok_seqs_runs⟩ .e .e))) (.s ⟨_, _, Go.Proofs.Tryz.func62, ok_sheet_styled⟩ (.s ⟨_, _, Go.Proofs.Tryz.func94, ok_slices_Compare_Lint_int⟩ (.s ⟨_, _, Go.Proofs.Tryz.func158, ok_runes_Split⟩ (.s ⟨_, _, Go.Proofs.Tryz.func286, ok_weak_seq_between⟩ .e .e) .e) (.s ⟨_, _, Go.Proofs.Tryz.func222, ok_class_spans⟩ .e .e)) (.o .e (.s ⟨_, _, Go.Proofs.Tryz.func254, ok_bidi_turn⟩ .e .e))))))))
end VE
