/- The functions of the table that are walked. -/
import Derived.Test.YtchccpmjhajcaaaGreatAw7
import Derived.Test.YtchccpmjhajcaaaGreatVh
set_option linter.unusedVariables false
set_option linter.unusedSimpArgs false
set_option linter.unusedSectionVars false
namespace VE
open Go
def memF : Tr (List Memo) := Tr.nil.set k_law27_awake (some [m92])
theorem memOkF : MemoOk E memF := memoOk_one rfl v92
instance : Pg := ⟨tab, memF⟩
theorem M_law27_awake : Pg.M.get k_law27_awake = some [⟨k_law27_awake, [], [], .b true, []⟩] := by kernel_rfl
theorem T_cmp_isNaN_int : Has k_cmp_isNaN_int f_cmp_isNaN_int := ⟨by kernel_rfl, by kernel_rfl⟩
theorem T_cmp_Compare_int : Has k_cmp_Compare_int f_cmp_Compare_int := ⟨by kernel_rfl, by kernel_rfl⟩
theorem T_sheet_share : Has k_sheet_share f_sheet_share := ⟨by kernel_rfl, by kernel_rfl⟩
theorem T_sheet_one : Has k_sheet_one f_sheet_one := ⟨by kernel_rfl, by kernel_rfl⟩
theorem T_sheet_spot : Has k_sheet_spot f_sheet_spot := ⟨by kernel_rfl, by kernel_rfl⟩
theorem T_sheet_corner : Has k_sheet_corner f_sheet_corner := ⟨by kernel_rfl, by kernel_rfl⟩
theorem T_sheet_Meet : Has k_sheet_Meet f_sheet_Meet := ⟨by kernel_rfl, by kernel_rfl⟩
theorem T_sheet_styled : Has k_sheet_styled f_sheet_styled := ⟨by kernel_rfl, by kernel_rfl⟩
theorem T_sheet_has : Has k_sheet_has f_sheet_has := ⟨by kernel_rfl, by kernel_rfl⟩
theorem T_slices_IndexFunc_Lint_int : Has k_slices_IndexFunc_Lint_int f_slices_IndexFunc_Lint_int := ⟨by kernel_rfl, by kernel_rfl⟩
theorem T_slices_IndexFunc_LCell_Cell : Has k_slices_IndexFunc_LCell_Cell f_slices_IndexFunc_LCell_Cell := ⟨by kernel_rfl, by kernel_rfl⟩
theorem T_slices_IndexFunc_LRect_Rect : Has k_slices_IndexFunc_LRect_Rect f_slices_IndexFunc_LRect_Rect := ⟨by kernel_rfl, by kernel_rfl⟩
theorem T_slices_ContainsFunc_Lint_int : Has k_slices_ContainsFunc_Lint_int f_slices_ContainsFunc_Lint_int := ⟨by kernel_rfl, by kernel_rfl⟩
theorem T_slices_ContainsFunc_LCell_Cell : Has k_slices_ContainsFunc_LCell_Cell f_slices_ContainsFunc_LCell_Cell := ⟨by kernel_rfl, by kernel_rfl⟩
theorem T_slices_ContainsFunc_LRect_Rect : Has k_slices_ContainsFunc_LRect_Rect f_slices_ContainsFunc_LRect_Rect := ⟨by kernel_rfl, by kernel_rfl⟩
theorem T_sheet_over_1 : Has k_sheet_over_1 f_sheet_over_1 := ⟨by kernel_rfl, by kernel_rfl⟩
theorem T_sheet_over : Has k_sheet_over f_sheet_over := ⟨by kernel_rfl, by kernel_rfl⟩
theorem T_sheet_limits_1 : Has k_sheet_limits_1 f_sheet_limits_1 := ⟨by kernel_rfl, by kernel_rfl⟩
theorem T_sheet_limits : Has k_sheet_limits f_sheet_limits := ⟨by kernel_rfl, by kernel_rfl⟩
theorem T_slices_Min_Lint_int : Has k_slices_Min_Lint_int f_slices_Min_Lint_int := ⟨by kernel_rfl, by kernel_rfl⟩
theorem T_sheet_sizes : Has k_sheet_sizes f_sheet_sizes := ⟨by kernel_rfl, by kernel_rfl⟩
theorem T_slices_Compare_Lint_int : Has k_slices_Compare_Lint_int f_slices_Compare_Lint_int := ⟨by kernel_rfl, by kernel_rfl⟩
theorem T_sheet_ahead : Has k_sheet_ahead f_sheet_ahead := ⟨by kernel_rfl, by kernel_rfl⟩
theorem T_sheet_rise_Cell : Has k_sheet_rise_Cell f_sheet_rise_Cell := ⟨by kernel_rfl, by kernel_rfl⟩
theorem T_sheet_rise_Rect : Has k_sheet_rise_Rect f_sheet_rise_Rect := ⟨by kernel_rfl, by kernel_rfl⟩
theorem T_sheet_order_1 : Has k_sheet_order_1 f_sheet_order_1 := ⟨by kernel_rfl, by kernel_rfl⟩
theorem T_sheet_order_2 : Has k_sheet_order_2 f_sheet_order_2 := ⟨by kernel_rfl, by kernel_rfl⟩
theorem T_sheet_order : Has k_sheet_order f_sheet_order := ⟨by kernel_rfl, by kernel_rfl⟩
theorem T_sheet_Check_1 : Has k_sheet_Check_1 f_sheet_Check_1 := ⟨by kernel_rfl, by kernel_rfl⟩
theorem T_sheet_Check_2 : Has k_sheet_Check_2 f_sheet_Check_2 := ⟨by kernel_rfl, by kernel_rfl⟩
theorem T_sheet_Check_3 : Has k_sheet_Check_3 f_sheet_Check_3 := ⟨by kernel_rfl, by kernel_rfl⟩
theorem T_sheet_around_1 : Has k_sheet_around_1 f_sheet_around_1 := ⟨by kernel_rfl, by kernel_rfl⟩
theorem T_sheet_around : Has k_sheet_around f_sheet_around := ⟨by kernel_rfl, by kernel_rfl⟩
theorem T_sheet_Check : Has k_sheet_Check f_sheet_Check := ⟨by kernel_rfl, by kernel_rfl⟩
theorem T_grid_May : Has k_grid_May f_grid_May := ⟨by kernel_rfl, by kernel_rfl⟩
theorem T_ref21_in : Has k_ref21_in f_ref21_in := ⟨by kernel_rfl, by kernel_rfl⟩
theorem T_ref21_Covers : Has k_ref21_Covers f_ref21_Covers := ⟨by kernel_rfl, by kernel_rfl⟩
theorem T_ref21_Meet : Has k_ref21_Meet f_ref21_Meet := ⟨by kernel_rfl, by kernel_rfl⟩
theorem T_ref21_there : Has k_ref21_there f_ref21_there := ⟨by kernel_rfl, by kernel_rfl⟩
theorem T_ref21_Styled : Has k_ref21_Styled f_ref21_Styled := ⟨by kernel_rfl, by kernel_rfl⟩
theorem T_ref21_ahead : Has k_ref21_ahead f_ref21_ahead := ⟨by kernel_rfl, by kernel_rfl⟩
theorem T_ref21_Limits : Has k_ref21_Limits f_ref21_Limits := ⟨by kernel_rfl, by kernel_rfl⟩
theorem T_ref21_Order : Has k_ref21_Order f_ref21_Order := ⟨by kernel_rfl, by kernel_rfl⟩
theorem T_ref21_Around : Has k_ref21_Around f_ref21_Around := ⟨by kernel_rfl, by kernel_rfl⟩
theorem T_ref21_Check : Has k_ref21_Check f_ref21_Check := ⟨by kernel_rfl, by kernel_rfl⟩
theorem T_ref25_May : Has k_ref25_May f_ref25_May := ⟨by kernel_rfl, by kernel_rfl⟩
theorem T_ref21_numbers : Has k_ref21_numbers f_ref21_numbers := ⟨by kernel_rfl, by kernel_rfl⟩
theorem T_ref21_Rects : Has k_ref21_Rects f_ref21_Rects := ⟨by kernel_rfl, by kernel_rfl⟩
theorem T_ref21_Same : Has k_ref21_Same f_ref21_Same := ⟨by kernel_rfl, by kernel_rfl⟩
theorem T_ref21_Own : Has k_ref21_Own f_ref21_Own := ⟨by kernel_rfl, by kernel_rfl⟩
theorem T_ref25_Own : Has k_ref25_Own f_ref25_Own := ⟨by kernel_rfl, by kernel_rfl⟩
theorem T_p_view_View_none : Has k_p_view_View_none f_p_view_View_none := ⟨by kernel_rfl, by kernel_rfl⟩
theorem T_p_view_View_Left : Has k_p_view_View_Left f_p_view_View_Left := ⟨by kernel_rfl, by kernel_rfl⟩
theorem T_p_view_View_Back : Has k_p_view_View_Back f_p_view_View_Back := ⟨by kernel_rfl, by kernel_rfl⟩
theorem T_p_view_View_Screen : Has k_p_view_View_Screen f_p_view_View_Screen := ⟨by kernel_rfl, by kernel_rfl⟩
theorem T_p_view_View_Now : Has k_p_view_View_Now f_p_view_View_Now := ⟨by kernel_rfl, by kernel_rfl⟩
theorem T_view_does : Has k_view_does f_view_does := ⟨by kernel_rfl, by kernel_rfl⟩
theorem T_p_view_View_Do : Has k_p_view_View_Do f_p_view_View_Do := ⟨by kernel_rfl, by kernel_rfl⟩
theorem T_ref27_Same : Has k_ref27_Same f_ref27_Same := ⟨by kernel_rfl, by kernel_rfl⟩
theorem T_law27_ViewNobody : Has k_law27_ViewNobody f_law27_ViewNobody := ⟨by kernel_rfl, by kernel_rfl⟩
end VE
