/- The functions of the program as the evaluator has them. -/
import Derived.Test.YtchccpmjhajcaaaGreatVg
import Derived.Test.YtchccpmjhajcaaaGreatVf
set_option linter.unusedVariables false
set_option linter.unusedSimpArgs false
set_option linter.unusedSectionVars false
namespace VE
open Go
def k_law27_ViewNobody : Nat := 4
def k_ref25_Own : Nat := 5
def k_grid_May : Nat := 6
def k_ref25_May : Nat := 7
def k_ref21_Same : Nat := 8
def k_law27_awake : Nat := 10
def k_p_view_View_Do : Nat := 11
def k_p_view_View_Back : Nat := 12
def k_p_view_View_Left : Nat := 13
def k_ref27_Same : Nat := 14
def k_p_view_View_Now : Nat := 15
def k_p_view_View_Screen : Nat := 16
def k_ref21_Own : Nat := 17
def k_sheet_Check : Nat := 18
def k_ref21_Check : Nat := 19
def k_ref21_numbers : Nat := 20
def k_ref21_Rects : Nat := 21
def k_view_New : Nat := 24
def k_law27_row : Nat := 25
def k_view_does : Nat := 26
def k_p_view_View_none : Nat := 27
def k_sheet_Own : Nat := 28
def k_grid_Render : Nat := 29
def k_sheet_limits : Nat := 30
def k_sheet_order : Nat := 31
def k_slices_ContainsFunc_LCell_Cell : Nat := 32
def k_sheet_Check_1 : Nat := 33
def k_sheet_has : Nat := 34
def k_sheet_one : Nat := 35
def k_slices_ContainsFunc_LRect_Rect : Nat := 36
def k_sheet_Check_2 : Nat := 37
def k_sheet_Check_3 : Nat := 38
def k_sheet_Meet : Nat := 39
def k_sheet_spot : Nat := 40
def k_sheet_corner : Nat := 41
def k_sheet_around : Nat := 42
def k_ref21_Limits : Nat := 43
def k_ref21_Order : Nat := 44
def k_ref21_there : Nat := 45
def k_ref21_Meet : Nat := 46
def k_ref21_Around : Nat := 47
def k_view_now_scrolled : Nat := 48
def k_view_now_sized : Nat := 49
def k_view_now_edited : Nat := 50
def k_slices_Clone_Lint_int : Nat := 51
def k_slices_Clone_LCell_Cell : Nat := 52
def k_slices_Clone_LRect_Rect : Nat := 53
def k_axis_Back : Nat := 54
def k_p_grid_screen_slot : Nat := 55
def k_sheet_limits_1 : Nat := 56
def k_sheet_over : Nat := 57
def k_sheet_sizes : Nat := 58
def k_sheet_rise_Cell : Nat := 59
def k_sheet_rise_Rect : Nat := 60
def k_sheet_order_1 : Nat := 61
def k_sheet_styled : Nat := 62
def k_sheet_order_2 : Nat := 63
def k_slices_IndexFunc_LCell_Cell : Nat := 64
def k_slices_IndexFunc_LRect_Rect : Nat := 65
def k_sheet_share : Nat := 66
def k_sheet_around_1 : Nat := 67
def k_ref21_ahead : Nat := 68
def k_ref21_Styled : Nat := 69
def k_ref21_Covers : Nat := 70
def k_view_far : Nat := 71
def k_edit_Do : Nat := 72
def k_axis_mirrored : Nat := 73
def k_edge_Arms : Nat := 74
def k_p_grid_screen_border : Nat := 75
def k_axis_Find : Nat := 76
def k_sheet_Region : Nat := 77
def k_p_grid_screen_inside : Nat := 78
def k_slices_ContainsFunc_Lint_int : Nat := 79
def k_sheet_over_1 : Nat := 80
def k_slices_Min_Lint_int : Nat := 81
def k_sheet_ahead : Nat := 82
def k_ref21_in : Nat := 83
def k_p_edit_editor_does : Nat := 84
def k_axis_point : Nat := 85
def k_edge_ways : Nat := 86
def k_edge_spot_arm : Nat := 87
def k_edge_Turn : Nat := 88
def k_edge_Glyph : Nat := 89
def k_axis_Starts : Nat := 90
def k_slices_BinarySearch_Lint_int : Nat := 91
def k_p_grid_screen_layout : Nat := 92
def k_slices_IndexFunc_Lint_int : Nat := 93
def k_slices_Compare_Lint_int : Nat := 94
def k_p_edit_editor_set : Nat := 95
def k_p_edit_editor_style : Nat := 96
def k_p_edit_editor_merge : Nat := 97
def k_p_edit_editor_unmerge : Nat := 98
def k_p_edit_editor_insertRows : Nat := 99
def k_p_edit_editor_deleteRows : Nat := 100
def k_p_edit_editor_insertCols : Nat := 101
def k_p_edit_editor_deleteCols : Nat := 102
def k_p_edit_editor_high : Nat := 103
def k_p_edit_editor_wide : Nat := 104
def k_p_edit_editor_flip : Nat := 105
def k_edge_spot_parts : Nat := 106
def k_edge_signs : Nat := 109
def k_axis_cut : Nat := 110
def k_cmp_Less_int : Nat := 111
def k_slices_isNaN_int : Nat := 112
def k_axis_Corner : Nat := 113
def k_axis_Size : Nat := 114
def k_sheet_Get : Nat := 115
def k_cell_Layout : Nat := 116
def k_cmp_Compare_int : Nat := 117
def k_p_edit_editor_here : Nat := 118
def k_p_edit_editor_lay : Nat := 119
def k_edge_spot_region : Nat := 132
def k_cmp_isNaN_int : Nat := 133
def k_axis_within : Nat := 134
def k_sheet_Get_1 : Nat := 135
def k_cell_may : Nat := 136
def k_cell_lines : Nat := 137
def k_clip_Clip : Nat := 138
def k_clip_Cut : Nat := 139
def k_place_Slots : Nat := 140
def k_cell_side : Nat := 141
def k_slices_Repeat_LSlot_Slot : Nat := 142
def k_slices_BinarySearchFunc_LCell_Cell_Cell : Nat := 143
def k_p_edit_editor_lay_1 : Nat := 144
def k_slices_Delete_LCell_Cell : Nat := 146
def k_slices_Insert_LCell_Cell : Nat := 147
def k_runes_Split : Nat := 158
def k_base_Paragraphs : Nat := 159
def k_cluster_Of : Nat := 160
def k_cell_Level : Nat := 161
def k_bidi_Resolve : Nat := 162
def k_wrap_Lines : Nat := 163
def k_clip_made : Nat := 164
def k_clip_look_clipped : Nat := 165
def k_clip_look_cut : Nat := 166
def k_place_begin : Nat := 167
def k_place_laid_text : Nat := 168
def k_slices_Concat_LSlot_Slot : Nat := 169
def k_place_pads : Nat := 170
def k_math_bits_Mul : Nat := 171
def k_slices_overlaps_Cell : Nat := 172
def k_slices_rotateRight_Cell : Nat := 173
def k_math_bits_Len : Nat := 175
def k_class_Of : Nat := 179
def k_cluster_see : Nat := 180
def k_cluster_seen_joins : Nat := 181
def k_cluster_first : Nat := 182
def k_cluster_seen_then : Nat := 183
def k_base_Level : Nat := 184
def k_class_All : Nat := 185
def k_level_Explicit : Nat := 186
def k_seqs_Sequences : Nat := 187
def k_bidi_part_levels : Nat := 188
def k_wrap_Shown : Nat := 189
def k_wrap_paragraph_lines : Nat := 190
def k_clip_look_may : Nat := 191
def k_clip_look_fits : Nat := 192
def k_place_has : Nat := 193
def k_bidi_Line : Nat := 194
def k_place_laid_seen : Nat := 195
def k_bidi_Order : Nat := 196
def k_bidi_Shown : Nat := 197
def k_slices_Insert_LSlot_Slot : Nat := 198
def k_slices_Grow_LSlot_Slot : Nat := 199
def k_math_bits_Mul32 : Nat := 200
def k_math_bits_Mul64 : Nat := 201
def k_math_bits_Len32 : Nat := 211
def k_math_bits_Len64 : Nat := 212
def k_class_spans : Nat := 222
def k_slices_BinarySearchFunc_Lclass_span_class_span_int : Nat := 223
def k_class_span_side : Nat := 224
def k_gcb_Of : Nat := 225
def k_cols_Of : Nat := 226
def k_gcb_Pict : Nat := 227
def k_cluster_behind : Nat := 228
def k_base_Match : Nat := 229
def k_base_opens : Nat := 230
def k_p_level_walk_last : Nat := 231
def k_p_level_walk_embed : Nat := 232
def k_p_level_walk_ends : Nat := 233
def k_p_level_walk_closes : Nat := 234
def k_p_level_walk_seen : Nat := 235
def k_p_level_walk_isolate : Nat := 236
def k_level_Removed : Nat := 237
def k_seqs_runs : Nat := 238
def k_seqs_way : Nat := 239
def k_seqs_beside : Nat := 240
def k_seqs_goes : Nat := 241
def k_seqs_behind : Nat := 242
def k_weak_Weak : Nat := 243
def k_bidi_part_of : Nat := 244
def k_pairs_Brackets : Nat := 245
def k_neutral_Levels : Nat := 246
def k_neutral_Settle : Nat := 247
def k_wrap_Break : Nat := 248
def k_wrap_Fits : Nat := 251
def k_slices_Backward_LRune_Rune : Nat := 252
def k_bidi_blank : Nat := 253
def k_bidi_turn : Nat := 254
def k_mirror_Glyph : Nat := 255
def k_slices_Reverse_Lint_int : Nat := 267
def k_gcb_steps : Nat := 268
def k_slices_BinarySearchFunc_Lgcb_step_gcb_step_int : Nat := 269
def k_gcb_Of_1 : Nat := 270
def k_gcb_kind_of : Nat := 271
def k_cols_narrow : Nat := 272
def k_cols_wide : Nat := 273
def k_cols_within : Nat := 274
def k_gcb_edges : Nat := 275
def k_seqs_kept : Nat := 278
def k_slices_ContainsFunc_Lseqs_run_seqs_run : Nat := 279
def k_seqs_goes_1 : Nat := 280
def k_weak_seq_marks : Nat := 281
def k_weak_Weak_1 : Nat := 282
def k_weak_seq_after : Nat := 283
def k_weak_Weak_2 : Nat := 284
def k_weak_seq_turn : Nat := 285
def k_weak_seq_between : Nat := 286
def k_weak_seq_beside : Nat := 287
def k_weak_Weak_3 : Nat := 288
def k_weak_Weak_4 : Nat := 289
def k_pairs_Find : Nat := 290
def k_pairs_seq_inside : Nat := 291
def k_pairs_seq_ahead : Nat := 292
def k_pairs_seq_settle : Nat := 293
def k_neutral_rises : Nat := 294
def k_neutral_Settle_1 : Nat := 295
def k_neutral_way : Nat := 296
def k_neutral_letter : Nat := 297
def k_slices_Backward_LRune_Rune_1 : Nat := 302
def k_mirror_find : Nat := 303
def k_slices_BinarySearchFunc_Lint_int_int : Nat := 307
def k_cols_within_1 : Nat := 308
def k_seqs_kept_1 : Nat := 310
def k_weak_seq_at : Nat := 312
def k_slices_Contains_Lint_int : Nat := 313
def k_mirror_Pair : Nat := 314
def k_slices_Backward_Lint_int : Nat := 315
def k_mirror_Meet : Nat := 316
def k_slices_SortFunc_LPair_Pair : Nat := 317
def k_pairs_Find_1 : Nat := 318
def k_mirror_rows : Nat := 320
def k_slices_BinarySearchFunc_Lmirror_row_mirror_row_int : Nat := 321
def k_mirror_find_1 : Nat := 322
def k_slices_Index_Lint_int : Nat := 324
def k_slices_pdqsortCmpFunc_Pair : Nat := 327
def k_slices_insertionSortCmpFunc_Pair : Nat := 328
def k_slices_heapSortCmpFunc_Pair : Nat := 329
def k_slices_breakPatternsCmpFunc_Pair : Nat := 330
def k_slices_choosePivotCmpFunc_Pair : Nat := 331
def k_slices_reverseRangeCmpFunc_Pair : Nat := 332
def k_slices_partialInsertionSortCmpFunc_Pair : Nat := 333
def k_slices_partitionEqualCmpFunc_Pair : Nat := 334
def k_slices_partitionCmpFunc_Pair : Nat := 335
def eqs : List (TypeId × List CK) := [(36, [.i, .i, .i]), (59, [.i, .i, .s, .i, .i, .i]), (75, [.i, .i, .i, .i]), (81, [.i, .i]), (106, [.i, .i, .i])]
def keys : List (TypeId × List CK) := [(3, [.i]), (75, [.i, .i, .i, .i])]
def f_law27_ViewNobody : VFn := ⟨1, [.tmp 2], (sq (.ops [O 1 (.box (t 0)), O 2 (.mv (kb false))])
 (sq (sq (.ops [fa 7 7 1, ld 8 7, O 9 (.lenStr (t 8)), add 10 .gtr (t 9) (n 2000)])
 (.cond (t 10) (sq (.ops [call 11 k_law27_awake [], mv 2 11])
 .ret) .skip))
 (sq (.ops [O 3 (.mv (.const (.pointer none)))])
 (sq (.ops [mv 12 3, O 13 (.build [z, .sn, .sn, .sn, .sn, z, z, z, z, (.b false), .sn] []), O 14 (.box (t 13)), O 15 (.bsliceC 1 2 [(1, (t 12)), (1, (t 14))]), mv 4 15])
 (sq (sq (.ops [O 5 (.mv (n 0))])
 (.block 0 (.loop [1, 4, 5] (sq (sq (.ops [mv 16 5, mv 17 4, O 18 (.lenSl (t 17)), add 19 .lss (t 16) (t 18)])
 (.cond (t 19) .skip (.exit 0)))
 (sq (.block 1 (sq (.ops [mv 22 4, mv 23 5, O 24 (.idxSl 1 (t 22) (t 23)), ld 25 24, mv 6 25])
 (sq (.ops [mv 26 6, O 27 (.load (some 11) (t 1)), call 28 k_p_view_View_Do [(t 26), (t 27)], add 29 .neq (t 28) (n 1), mv 30 29, G 31 (.mv (t 6)) 30 false, G 32 (.call (fu k_p_view_View_Back) [(t 31)]) 30 false, G 33 (.bin .neq (t 32) (n 1)) 30 false, O 34 (.pick (t 30) (kb true) (t 33)), mv 35 34, G 36 (.mv (t 6)) 35 false, G 37 (.call (fu k_p_view_View_Left) [(t 36)]) 35 false, G 38 (.bin .neq (t 37) (n 0)) 35 false, O 39 (.pick (t 35) (kb true) (t 38)), mv 40 39, G 41 (.mv (t 6)) 40 false, G 42 (.call (fu k_p_view_View_Now) [(t 41)]) 40 false, G 43 (.build [z, .sn, .sn, .sn, .sn, z, z, z, z] []) 40 false, G 44 (.call (fu k_ref27_Same) [(t 42), (t 43)]) 40 false, G 45 (.un .not (t 44)) 40 false, O 46 (.pick (t 40) (kb true) (t 45)), mv 47 46, G 48 (.mv (t 6)) 47 false, G 49 (.call (fu k_p_view_View_Screen) [(t 48)]) 47 false, G 50 (.lenSl (t 49)) 47 false, G 51 (.bin .neq (t 50) (n 0)) 47 false, O 52 (.pick (t 47) (kb true) (t 51))])
 (.cond (t 52) (sq (.ops [O 2 (.mv (kb false))])
 .ret) .skip))))
 (.ops [mv 20 5, add 21 .add (t 20) (n 1), mv 5 21]))))))
 (sq (.ops [call 53 k_law27_awake [], mv 2 53])
 .ret))))))⟩
def f_ref25_Own : VFn := ⟨1, [.cell 2 (some 9)], (sq (.ops [O 1 (.box (t 0)), O 2 (.alloc [z, .sn, .sn, .sn, .sn, z, z, z, z])])
 (sq (.ops [fa 3 0 1, O 4 (.load (some 5) (t 3)), call 5 k_ref21_Own [(t 4)], fa 6 0 1, N (.store 5 (t 6) (t 5))])
 (sq (.ops [O 7 (.load (some 9) (t 1)), N (.store 9 (t 2) (t 7))])
 .ret)))⟩
def f_grid_May : VFn := ⟨1, [.tmp 2], (sq (.ops [O 1 (.box (t 0)), O 2 (.mv (n 0))])
 (sq (sq (.ops [fa 4 0 1, O 5 (.load (some 5) (t 4)), call 6 k_sheet_Check [(t 5)], mv 3 6])
 (sq (.ops [mv 7 3, add 8 .neq (t 7) (n 0)])
 (.cond (t 8) (sq (.ops [mv 9 3, mv 2 9])
 .ret) .skip)))
 (sq (sq (.ops [fa 10 5 1, ld 11 10, add 12 .lss (t 11) (n 1), mv 13 12, G 14 (.fieldAddr 5 (t 1)) 13 false, G 15 (.load none (t 14)) 13 false, G 16 (.bin .gtr (t 15) (n 160)) 13 false, O 17 (.pick (t 13) (kb true) (t 16)), mv 18 17, G 19 (.fieldAddr 6 (t 1)) 18 false, G 20 (.load none (t 19)) 18 false, G 21 (.bin .lss (t 20) (n 1)) 18 false, O 22 (.pick (t 18) (kb true) (t 21)), mv 23 22, G 24 (.fieldAddr 6 (t 1)) 23 false, G 25 (.load none (t 24)) 23 false, G 26 (.bin .gtr (t 25) (n 80)) 23 false, O 27 (.pick (t 23) (kb true) (t 26)), mv 28 27, G 29 (.fieldAddr 7 (t 1)) 28 false, G 30 (.load none (t 29)) 28 false, G 31 (.fieldAddr 8 (t 1)) 28 false, G 32 (.load none (t 31)) 28 false, G 33 (.mnmx false (t 30) [(t 32)]) 28 false, G 34 (.bin .lss (t 33) (n 0)) 28 false, O 35 (.pick (t 28) (kb true) (t 34)), mv 36 35, G 37 (.fieldAddr 7 (t 1)) 36 false, G 38 (.load none (t 37)) 36 false, G 39 (.fieldAddr 8 (t 1)) 36 false, G 40 (.load none (t 39)) 36 false, G 41 (.mnmx true (t 38) [(t 40)]) 36 false, G 42 (.bin .gtr (t 41) (n 65535)) 36 false, O 43 (.pick (t 36) (kb true) (t 42))])
 (.cond (t 43) (sq (.ops [O 2 (.mv (n 1))])
 .ret) .skip))
 (sq (.ops [O 2 (.mv (n 0))])
 .ret))))⟩
def f_ref25_May : VFn := ⟨1, [.tmp 2], (sq (.ops [O 1 (.box (t 0)), O 2 (.mv (n 0))])
 (sq (sq (.ops [fa 4 0 1, O 5 (.load (some 5) (t 4)), call 6 k_ref21_Check [(t 5)], mv 3 6])
 (sq (.ops [mv 7 3, add 8 .neq (t 7) (n 0)])
 (.cond (t 8) (sq (.ops [mv 9 3, mv 2 9])
 .ret) .skip)))
 (sq (sq (.ops [fa 10 5 1, ld 11 10, add 12 .lss (t 11) (n 1), mv 13 12, G 14 (.fieldAddr 5 (t 1)) 13 false, G 15 (.load none (t 14)) 13 false, G 16 (.bin .gtr (t 15) (n 160)) 13 false, O 17 (.pick (t 13) (kb true) (t 16)), mv 18 17, G 19 (.fieldAddr 6 (t 1)) 18 false, G 20 (.load none (t 19)) 18 false, G 21 (.bin .lss (t 20) (n 1)) 18 false, O 22 (.pick (t 18) (kb true) (t 21)), mv 23 22, G 24 (.fieldAddr 6 (t 1)) 23 false, G 25 (.load none (t 24)) 23 false, G 26 (.bin .gtr (t 25) (n 80)) 23 false, O 27 (.pick (t 23) (kb true) (t 26)), mv 28 27, G 29 (.fieldAddr 7 (t 1)) 28 false, G 30 (.load none (t 29)) 28 false, G 31 (.bin .lss (t 30) (n 0)) 28 false, O 32 (.pick (t 28) (kb true) (t 31)), mv 33 32, G 34 (.fieldAddr 7 (t 1)) 33 false, G 35 (.load none (t 34)) 33 false, G 36 (.bin .gtr (t 35) (n 65535)) 33 false, O 37 (.pick (t 33) (kb true) (t 36)), mv 38 37, G 39 (.fieldAddr 8 (t 1)) 38 false, G 40 (.load none (t 39)) 38 false, G 41 (.bin .lss (t 40) (n 0)) 38 false, O 42 (.pick (t 38) (kb true) (t 41)), mv 43 42, G 44 (.fieldAddr 8 (t 1)) 43 false, G 45 (.load none (t 44)) 43 false, G 46 (.bin .gtr (t 45) (n 65535)) 43 false, O 47 (.pick (t 43) (kb true) (t 46))])
 (.cond (t 47) (sq (.ops [O 2 (.mv (n 1))])
 .ret) .skip))
 (sq (.ops [O 2 (.mv (n 0))])
 .ret))))⟩
def f_ref21_Same : VFn := ⟨2, [.tmp 4], (sq (.ops [O 2 (.box (t 0)), O 3 (.box (t 1)), O 4 (.mv (kb false))])
 (sq (sq (.ops [fa 6 0 2, ld 7 6, fa 8 0 3, ld 9 8, add 10 .neq (t 7) (t 9), mv 11 10, G 12 (.fieldAddr 1 (t 2)) 11 false, G 13 (.load none (t 12)) 11 false, G 14 (.fieldAddr 1 (t 3)) 11 false, G 15 (.load none (t 14)) 11 false, G 16 (.call (fu k_ref21_numbers) [(t 13), (t 15)]) 11 false, G 17 (.un .not (t 16)) 11 false, O 18 (.pick (t 11) (kb true) (t 17)), mv 19 18, G 20 (.fieldAddr 2 (t 2)) 19 false, G 21 (.load none (t 20)) 19 false, G 22 (.fieldAddr 2 (t 3)) 19 false, G 23 (.load none (t 22)) 19 false, G 24 (.call (fu k_ref21_numbers) [(t 21), (t 23)]) 19 false, G 25 (.un .not (t 24)) 19 false, O 26 (.pick (t 19) (kb true) (t 25)), mv 27 26, G 28 (.fieldAddr 3 (t 2)) 27 false, G 29 (.load none (t 28)) 27 false, G 30 (.lenSl (t 29)) 27 false, G 31 (.fieldAddr 3 (t 3)) 27 false, G 32 (.load none (t 31)) 27 false, G 33 (.lenSl (t 32)) 27 false, G 34 (.bin .neq (t 30) (t 33)) 27 false, O 35 (.pick (t 27) (kb true) (t 34)), mv 36 35, G 37 (.fieldAddr 4 (t 2)) 36 false, G 38 (.load none (t 37)) 36 false, G 39 (.fieldAddr 4 (t 3)) 36 false, G 40 (.load none (t 39)) 36 false, G 41 (.call (fu k_ref21_Rects) [(t 38), (t 40)]) 36 false, G 42 (.un .not (t 41)) 36 false, O 43 (.pick (t 36) (kb true) (t 42))])
 (.cond (t 43) (sq (.ops [O 4 (.mv (kb false))])
 .ret) .skip))
 (sq (sq (.ops [O 5 (.mv (n 0))])
 (.block 0 (.loop [2, 3, 5] (sq (sq (.ops [mv 44 5, fa 45 3 2, ld 46 45, O 47 (.lenSl (t 46)), add 48 .lss (t 44) (t 47)])
 (.cond (t 48) .skip (.exit 0)))
 (sq (.block 1 (sq (.draw [A (fa 51 3 2), B (ld 52 51), A (mv 53 5), A (O 54 (.idxSl 6 (t 52) (t 53))), B (O 55 (.load (some 6) (t 54))), A (fa 56 3 3), B (ld 57 56), A (mv 58 5), A (O 59 (.idxSl 6 (t 57) (t 58))), B (O 60 (.load (some 6) (t 59))), A (O 61 (.eqAg true [.i, .i, .s, .i, .i, .i] (t 55) (t 60)))])
 (.cond (t 61) (sq (.ops [O 4 (.mv (kb false))])
 .ret) .skip)))
 (.ops [mv 49 5, add 50 .add (t 49) (n 1), mv 5 50]))))))
 (sq (.ops [O 4 (.mv (kb true))])
 .ret))))⟩
def f_law27_awake : VFn := ⟨0, [.tmp 0], (sq (.ops [O 0 (.mv (kb false))])
 (sq (.ops [O 12 (.bsliceC 1 1 [(1, (n 3))]), O 13 (.bsliceC 1 1 [(1, (n 1))]), O 14 (.build [z, .sn, .sn, .sn, .sn] [(1, 1, (t 12)), (2, 1, (t 13))]), call 15 k_view_New [(t 14), (n 5), (n 3)], mv 11 15, O 16 (.extract (t 11) 0), O 17 (.extract (t 11) 1), mv 1 16, mv 2 17])
 (sq (sq (.ops [mv 18 2, add 19 .neq (t 18) (n 0), mv 20 19, G 21 (.mv (t 1)) 20 false, G 22 (.isNil 0 false (t 21)) 20 false, O 23 (.pick (t 20) (kb true) (t 22))])
 (.cond (t 23) (sq (.ops [O 0 (.mv (kb false))])
 .ret) .skip))
 (sq (.ops [mv 24 1, O 25 (.build [z, z, z, z, z, z, z, (.s []), z, z, z] [(0, 1, (n 1)), (7, 1, (.const (.string ⟨⟨[97, 98]⟩⟩)))]), call 26 k_p_view_View_Do [(t 24), (t 25)], mv 3 26])
 (sq (.ops [mv 27 1, call 28 k_p_view_View_Screen [(t 27)], call 29 k_law27_row [(t 28), (n 5), (n 1)], mv 4 29])
 (sq (.ops [mv 30 1, O 31 (.build [z, z, z, z, z, z, z, (.s []), z, z, z] [(0, 1, (n 12)), (4, 1, (n 1))]), call 32 k_p_view_View_Do [(t 30), (t 31)], mv 5 32])
 (sq (.ops [mv 33 1, O 34 (.build [z, z, z, z, z, z, z, (.s []), z, z, z] [(0, 1, (n 12)), (4, 1, (.const (.int .i64 (.negSucc 1))))]), call 35 k_p_view_View_Do [(t 33), (t 34)], mv 6 35])
 (sq (.ops [mv 36 1, O 37 (.build [z, z, z, z, z, z, z, (.s []), z, z, z] [(0, 1, (n 13)), (3, 1, (n 3))]), call 38 k_p_view_View_Do [(t 36), (t 37)], mv 7 38])
 (sq (sq (.ops [mv 39 3, add 40 .neq (t 39) (n 0), mv 41 40, G 42 (.mv (t 5)) 41 false, G 43 (.bin .neq (t 42) (n 0)) 41 false, O 44 (.pick (t 41) (kb true) (t 43)), mv 45 44, G 46 (.mv (t 6)) 45 false, G 47 (.bin .neq (t 46) (n 4)) 45 false, O 48 (.pick (t 45) (kb true) (t 47)), mv 49 48, G 50 (.mv (t 7)) 49 false, G 51 (.bin .neq (t 50) (n 1)) 49 false, O 52 (.pick (t 49) (kb true) (t 51)), mv 53 52, G 54 (.mv (t 4)) 53 false, G 55 (.lenSl (t 54)) 53 false, G 56 (.bin .neq (t 55) (n 5)) 53 false, O 57 (.pick (t 53) (kb true) (t 56)), mv 58 57, G 59 (.mv (t 4)) 58 false, G 60 (.idxSl 1 (t 59) (n 0)) 58 false, G 61 (.load none (t 60)) 58 false, G 62 (.bin .neq (t 61) (n 1)) 58 false, O 63 (.pick (t 58) (kb true) (t 62)), mv 64 63, G 65 (.mv (t 4)) 64 false, G 66 (.idxSl 1 (t 65) (n 1)) 64 false, G 67 (.load none (t 66)) 64 false, G 68 (.bin .neq (t 67) (n 4)) 64 false, O 69 (.pick (t 64) (kb true) (t 68)), mv 70 69, G 71 (.mv (t 4)) 70 false, G 72 (.idxSl 1 (t 71) (n 3)) 70 false, G 73 (.load none (t 72)) 70 false, G 74 (.bin .neq (t 73) (n 2)) 70 false, O 75 (.pick (t 70) (kb true) (t 74)), mv 76 75, G 77 (.mv (t 4)) 76 false, G 78 (.idxSl 1 (t 77) (n 4)) 76 false, G 79 (.load none (t 78)) 76 false, G 80 (.bin .neq (t 79) (n 1)) 76 false, O 81 (.pick (t 76) (kb true) (t 80)), mv 82 81, G 83 (.mv (t 1)) 82 false, G 84 (.call (fu k_p_view_View_Now) [(t 83)]) 82 false, G 85 (.field 7 none (t 84)) 82 false, G 86 (.bin .neq (t 85) (n 1)) 82 false, O 87 (.pick (t 82) (kb true) (t 86)), mv 88 87, G 89 (.mv (t 1)) 88 false, G 90 (.call (fu k_p_view_View_Left) [(t 89)]) 88 false, G 91 (.bin .neq (t 90) (n 2)) 88 false, O 92 (.pick (t 88) (kb true) (t 91))])
 (.cond (t 92) (sq (.ops [O 0 (.mv (kb false))])
 .ret) .skip))
 (sq (.ops [mv 93 1, call 94 k_p_view_View_Back [(t 93)], mv 8 94])
 (sq (.ops [mv 95 1, call 96 k_p_view_View_Now [(t 95)], O 97 (.field 7 none (t 96)), mv 9 97])
 (sq (.ops [mv 98 1, call 99 k_p_view_View_Back [(t 98)], mv 10 99])
 (sq (.ops [mv 100 8, add 101 .eql (t 100) (n 0), mv 102 101, G 103 (.mv (t 9)) 102 true, G 104 (.bin .eql (t 103) (n 0)) 102 true, O 105 (.pick (t 102) (t 104) (kb false)), mv 106 105, G 107 (.mv (t 10)) 106 true, G 108 (.bin .eql (t 107) (n 0)) 106 true, O 109 (.pick (t 106) (t 108) (kb false)), mv 110 109, G 111 (.mv (t 1)) 110 true, G 112 (.call (fu k_p_view_View_Now) [(t 111)]) 110 true, G 113 (.field 0 (some 5) (t 112)) 110 true, G 114 (.field 3 none (t 113)) 110 true, G 115 (.lenSl (t 114)) 110 true, G 116 (.bin .eql (t 115) (n 0)) 110 true, O 117 (.pick (t 110) (t 116) (kb false)), mv 118 117, G 119 (.mv (t 1)) 118 true, G 120 (.call (fu k_p_view_View_Back) [(t 119)]) 118 true, G 121 (.bin .eql (t 120) (n 7)) 118 true, O 122 (.pick (t 118) (t 121) (kb false)), mv 0 122])
 .ret)))))))))))))⟩
def f_p_view_View_Do : VFn := ⟨2, [.tmp 4], (sq (.ops [O 3 (.box (t 1)), O 4 (.mv (n 0))])
 (sq (.ops [fa 11 0 3, ld 12 11, call 13 k_view_does [(t 12)], mv 10 13, O 14 (.extract (t 10) 0), O 15 (.extract (t 10) 1), mv 5 14, mv 6 15])
 (sq (sq (.ops [mv 16 0, call 17 k_p_view_View_none [(t 16)], mv 18 17, G 19 (.mv (t 6)) 18 false, G 20 (.un .not (t 19)) 18 false, O 21 (.pick (t 18) (kb true) (t 20))])
 (.cond (t 21) (sq (.ops [O 4 (.mv (n 1))])
 .ret) .skip))
 (sq (.draw [A (mv 23 5), A (mv 24 0), A (O 25 (.nilCheck (t 24))), A (fa 26 0 25), B (O 27 (.load (some 9) (t 26))), B (O 28 (.load (some 11) (t 3))), B (O 29 (.call (t 23) [(t 27), (t 28)])), A (mv 22 29), A (O 30 (.extract (t 22) 0)), A (O 31 (.extract (t 22) 1)), B (O 7 (.alloc [z, .sn, .sn, .sn, .sn, z, z, z, z])), C (N (.store 9 (t 7) (t 30))), A (mv 8 31)])
 (sq (sq (.ops [mv 32 8, add 33 .neq (t 32) (n 0)])
 (.cond (t 33) (sq (.ops [mv 34 8, mv 4 34])
 .ret) .skip))
 (sq (sq (.ops [mv 35 0, O 36 (.nilCheck (t 35)), fa 37 10 36, ld 38 37, O 39 (.lenSl (t 38)), add 40 .eql (t 39) (n 64)])
 (.cond (t 40) (sq (.ops [O 41 (.mkSlice [z, .sn, .sn, .sn, .sn, z, z, z, z] 9 136 (n 63) (n 63)), mv 9 41])
 (sq (.ops [mv 42 9, mv 43 0, O 44 (.nilCheck (t 43)), fa 45 10 44, ld 46 45, O 47 (.slSl 9 (t 46) (some (n 1)) none none), O 48 (.copy 9 (t 42) (t 47))])
 (.ops [mv 49 0, mv 50 9, O 51 (.nilCheck (t 49)), fa 52 10 51, N (.store 1 (t 52) (t 50))]))) .skip))
 (sq (.draw [A (mv 53 0), A (mv 54 0), A (O 55 (.nilCheck (t 54))), A (fa 56 10 55), B (ld 57 56), A (mv 58 0), A (O 59 (.nilCheck (t 58))), A (fa 60 0 59), B (O 61 (.load (some 9) (t 60))), B (O 62 (.bsliceC 9 1 [(9, (t 61))])), C (O 63 (.append false [z, .sn, .sn, .sn, .sn, z, z, z, z] 9 136 (t 57) (t 62))), A (O 64 (.nilCheck (t 53))), A (fa 65 10 64), C (N (.store 1 (t 65) (t 63)))])
 (sq (.ops [mv 66 0, O 67 (.load (some 9) (t 7)), O 68 (.nilCheck (t 66)), fa 69 0 68, N (.store 9 (t 69) (t 67))])
 (sq (.ops [O 4 (.mv (n 0))])
 .ret)))))))))⟩
def f_p_view_View_Back : VFn := ⟨1, [.tmp 2], (sq (.ops [O 2 (.mv (n 0))])
 (sq (.block 0 (sq (.ops [mv 5 0, call 6 k_p_view_View_none [(t 5)], mv 4 6])
 (.cond (t 4) (sq (.ops [O 2 (.mv (n 1))])
 .ret) (sq (.ops [mv 8 0, O 9 (.nilCheck (t 8)), fa 10 10 9, ld 11 10, O 12 (.lenSl (t 11)), add 13 .eql (t 12) (n 0), mv 7 13])
 (.cond (t 7) (sq (.ops [O 2 (.mv (n 7))])
 .ret) .skip)))))
 (sq (.ops [mv 14 0, O 15 (.nilCheck (t 14)), fa 16 10 15, ld 17 16, O 18 (.lenSl (t 17)), add 19 .sub (t 18) (n 1), mv 3 19])
 (sq (.draw [A (mv 20 0), A (mv 21 0), A (mv 22 0), A (O 23 (.nilCheck (t 22))), A (fa 24 10 23), B (ld 25 24), A (mv 26 3), A (O 27 (.idxSl 9 (t 25) (t 26))), B (O 28 (.load (some 9) (t 27))), A (mv 29 0), A (O 30 (.nilCheck (t 29))), A (fa 31 10 30), B (ld 32 31), A (mv 33 3), A (O 34 (.slSl 9 (t 32) none (some (t 33)) none)), A (O 35 (.nilCheck (t 20))), A (fa 36 0 35), C (N (.store 9 (t 36) (t 28))), A (O 37 (.nilCheck (t 21))), A (fa 38 10 37), C (N (.store 1 (t 38) (t 34)))])
 (sq (.ops [O 2 (.mv (n 0))])
 .ret)))))⟩
def f_p_view_View_Left : VFn := ⟨1, [.tmp 2], (sq (.ops [O 2 (.mv (n 0))])
 (sq (sq (.ops [mv 3 0, call 4 k_p_view_View_none [(t 3)]])
 (.cond (t 4) (sq (.ops [O 2 (.mv (n 0))])
 .ret) .skip))
 (sq (.ops [mv 5 0, O 6 (.nilCheck (t 5)), fa 7 10 6, ld 8 7, O 9 (.lenSl (t 8)), mv 2 9])
 .ret)))⟩
def f_ref27_Same : VFn := ⟨2, [.tmp 4], (sq (.ops [O 2 (.box (t 0)), O 3 (.box (t 1)), O 4 (.mv (kb false))])
 (sq (.ops [fa 5 5 2, ld 6 5, fa 7 5 3, ld 8 7, add 9 .eql (t 6) (t 8), mv 10 9, G 11 (.fieldAddr 6 (t 2)) 10 true, G 12 (.load none (t 11)) 10 true, G 13 (.fieldAddr 6 (t 3)) 10 true, G 14 (.load none (t 13)) 10 true, G 15 (.bin .eql (t 12) (t 14)) 10 true, O 16 (.pick (t 10) (t 15) (kb false)), mv 17 16, G 18 (.fieldAddr 7 (t 2)) 17 true, G 19 (.load none (t 18)) 17 true, G 20 (.fieldAddr 7 (t 3)) 17 true, G 21 (.load none (t 20)) 17 true, G 22 (.bin .eql (t 19) (t 21)) 17 true, O 23 (.pick (t 17) (t 22) (kb false)), mv 24 23, G 25 (.fieldAddr 8 (t 2)) 24 true, G 26 (.load none (t 25)) 24 true, G 27 (.fieldAddr 8 (t 3)) 24 true, G 28 (.load none (t 27)) 24 true, G 29 (.bin .eql (t 26) (t 28)) 24 true, O 30 (.pick (t 24) (t 29) (kb false)), mv 31 30, G 32 (.fieldAddr 0 (t 2)) 31 true, G 33 (.load (some 5) (t 32)) 31 true, G 34 (.fieldAddr 0 (t 3)) 31 true, G 35 (.load (some 5) (t 34)) 31 true, G 36 (.call (fu k_ref21_Same) [(t 33), (t 35)]) 31 true, O 37 (.pick (t 31) (t 36) (kb false)), mv 4 37])
 .ret))⟩
def f_p_view_View_Now : VFn := ⟨1, [.cell 2 (some 9)], (sq (.ops [O 2 (.alloc [z, .sn, .sn, .sn, .sn, z, z, z, z])])
 (sq (sq (.ops [mv 4 0, call 5 k_p_view_View_none [(t 4)]])
 (.cond (t 5) (sq (.ops [O 6 (.build [z, .sn, .sn, .sn, .sn, z, z, z, z] []), N (.store 9 (t 2) (t 6))])
 .ret) .skip))
 (sq (.ops [mv 7 0, O 8 (.nilCheck (t 7)), fa 9 0 8, fa 10 0 9, O 11 (.load (some 9) (t 10)), O 3 (.alloc [z, .sn, .sn, .sn, .sn, z, z, z, z]), N (.store 9 (t 3) (t 11))])
 (sq (.ops [fa 12 0 3, O 13 (.load (some 5) (t 12)), call 14 k_sheet_Own [(t 13)], fa 15 0 3, N (.store 5 (t 15) (t 14))])
 (sq (.ops [O 16 (.load (some 9) (t 3)), N (.store 9 (t 2) (t 16))])
 .ret)))))⟩
def f_p_view_View_Screen : VFn := ⟨1, [.tmp 2], (sq (.ops [O 2 (.mv (.const (.slice none 0 0)))])
 (sq (sq (.ops [mv 5 0, call 6 k_p_view_View_none [(t 5)]])
 (.cond (t 6) (sq (.ops [O 2 (.mv (.const (.slice none 0 0)))])
 .ret) .skip))
 (sq (.ops [mv 8 0, O 9 (.nilCheck (t 8)), fa 10 0 9, fa 11 0 10, O 12 (.load (some 9) (t 11)), call 13 k_grid_Render [(t 12)], mv 7 13, O 14 (.extract (t 7) 0), O 15 (.extract (t 7) 1), mv 3 14, mv 4 15])
 (sq (.ops [mv 16 3, mv 2 16])
 .ret))))⟩
def f_ref21_Own : VFn := ⟨1, [.cell 2 (some 5)], (sq (.ops [O 1 (.box (t 0)), O 2 (.alloc [z, .sn, .sn, .sn, .sn])])
 (sq (.draw [A (fa 3 0 1), B (ld 4 3), B (O 5 (.bsliceC 1 0 [])), A (fa 6 1 1), B (ld 7 6), ⟨O 8 (.append false [z] 1 8 (t 5) (t 7)), 2, [1]⟩, B (O 9 (.bsliceC 1 0 [])), A (fa 10 2 1), ⟨ld 11 10, 1, [5]⟩, ⟨O 12 (.append false [z] 1 8 (t 9) (t 11)), 2, [1]⟩, B (O 13 (.bsliceC 6 0 [])), A (fa 14 3 1), ⟨ld 15 14, 1, [5, 9]⟩, ⟨O 16 (.append false [z, z, (.s []), z, z, z] 6 56 (t 13) (t 15)), 2, [1]⟩, B (O 17 (.bsliceC 4 0 [])), A (fa 18 4 1), ⟨ld 19 18, 1, [5, 9, 13]⟩, ⟨O 20 (.append false [z, z, z, z] 4 32 (t 17) (t 19)), 2, [1]⟩, A (O 21 (.buildC [(1, (t 4)), (1, (t 8)), (1, (t 12)), (1, (t 16)), (1, (t 20))])), C (N (.store 5 (t 2) (t 21)))])
 .ret))⟩
def f_sheet_Check : VFn := ⟨1, [.tmp 2], (sq (.ops [O 1 (.box (t 0)), O 2 (.mv (n 0))])
 (sq (.block 0 (sq (.ops [O 9 (.load (some 5) (t 1)), call 10 k_sheet_limits [(t 9)], O 11 (.un .not (t 10)), mv 8 11])
 (.cond (t 8) (sq (.ops [O 2 (.mv (n 3))])
 .ret) (sq (.ops [O 13 (.load (some 5) (t 1)), call 14 k_sheet_order [(t 13)], O 15 (.un .not (t 14)), mv 12 15])
 (.cond (t 12) (sq (.ops [O 2 (.mv (n 1))])
 .ret) .skip)))))
 (sq (.ops [fa 16 3 1, ld 17 16, O 18 (.mkFunc (.func k_sheet_Check_1) [] [(t 1)]), call 19 k_slices_ContainsFunc_LCell_Cell [(t 17), (t 18)], mv 3 19])
 (sq (sq (.ops [mv 20 3, mv 21 20, G 22 (.fieldAddr 4 (t 1)) 21 false, G 23 (.load none (t 22)) 21 false, G 24 (.mkFunc (.func k_sheet_Check_2) [] [(t 1)]) 21 false, G 25 (.call (fu k_slices_ContainsFunc_LRect_Rect) [(t 23), (t 24)]) 21 false, O 26 (.pick (t 21) (kb true) (t 25))])
 (.cond (t 26) (sq (.ops [O 2 (.mv (n 4))])
 .ret) .skip))
 (sq (sq (.ops [fa 27 4 1, ld 28 27, O 29 (.lenSl (t 28)), O 30 (.mv (n 0))])
 (.block 1 (.loop [1, 28, 29, 30] (sq (.ops [add 31 .lss (t 30) (t 29)])
 (sq (.cond (t 31) .skip (.exit 1))
 (sq (.block 2 (sq (.ops [mv 32 30, O 33 (.idxSl 4 (t 28) (t 30)), O 34 (.load (some 4) (t 33)), O 5 (.alloc [z, z, z, z]), mv 4 32, N (.store 4 (t 5) (t 34))])
 (sq (.ops [fa 35 4 1, ld 36 35, mv 37 4, O 38 (.slSl 4 (t 36) none (some (t 37)) none), O 39 (.mkFunc (.func k_sheet_Check_3) [] [(t 5)]), call 40 k_slices_ContainsFunc_LRect_Rect [(t 38), (t 39)]])
 (.cond (t 40) (sq (.ops [O 2 (.mv (n 5))])
 .ret) .skip))))
 (.ops [add 41 .add (t 30) (n 1), mv 30 41])))))))
 (sq (sq (.ops [fa 42 3 1, ld 43 42, O 44 (.lenSl (t 43)), O 45 (.mv (n 0))])
 (.block 3 (.loop [1, 43, 44, 45] (sq (.ops [add 46 .lss (t 45) (t 44)])
 (sq (.cond (t 46) .skip (.exit 3))
 (sq (.block 4 (sq (.ops [O 47 (.idxSl 6 (t 43) (t 45)), O 48 (.load (some 6) (t 47)), O 7 (.alloc [z, z, (.s []), z, z, z]), N (.store 6 (t 7) (t 48))])
 (sq (.draw [B (O 49 (.load (some 6) (t 7))), B (call 50 k_sheet_spot [(t 49)]), B (O 51 (.load (some 5) (t 1))), A (fa 52 0 7), B (ld 53 52), A (fa 54 1 7), B (ld 55 54), C (call 56 k_sheet_around [(t 51), (t 53), (t 55)]), C (call 57 k_sheet_corner [(t 56)]), A (O 58 (.eqAg true [.i, .i] (t 50) (t 57)))])
 (.cond (t 58) (sq (.ops [O 2 (.mv (n 6))])
 .ret) .skip))))
 (.ops [add 59 .add (t 45) (n 1), mv 45 59])))))))
 (sq (.ops [O 2 (.mv (n 0))])
 .ret)))))))⟩
def f_ref21_Check : VFn := ⟨1, [.tmp 2], (sq (.ops [O 1 (.box (t 0)), O 2 (.mv (n 0))])
 (sq (sq (.ops [O 10 (.load (some 5) (t 1)), call 11 k_ref21_Limits [(t 10)], O 12 (.un .not (t 11))])
 (.cond (t 12) (sq (.ops [O 2 (.mv (n 3))])
 .ret) .skip))
 (sq (sq (.ops [O 13 (.load (some 5) (t 1)), call 14 k_ref21_Order [(t 13)], O 15 (.un .not (t 14))])
 (.cond (t 15) (sq (.ops [O 2 (.mv (n 1))])
 .ret) .skip))
 (sq (sq (.ops [O 3 (.mv (n 0))])
 (.block 0 (.loop [1, 3] (sq (sq (.ops [mv 16 3, fa 17 3 1, ld 18 17, O 19 (.lenSl (t 18)), add 20 .lss (t 16) (t 19)])
 (.cond (t 20) .skip (.exit 0)))
 (sq (.block 1 (sq (.ops [fa 23 3 1, ld 24 23, mv 25 3, O 26 (.idxSl 6 (t 24) (t 25)), O 27 (.load (some 6) (t 26)), O 4 (.alloc [z, z, (.s []), z, z, z]), N (.store 6 (t 4) (t 27))])
 (sq (.ops [fa 28 0 4, ld 29 28, add 30 .lss (t 29) (n 0), mv 31 30, G 32 (.fieldAddr 1 (t 4)) 31 false, G 33 (.load none (t 32)) 31 false, G 34 (.bin .lss (t 33) (n 0)) 31 false, O 35 (.pick (t 31) (kb true) (t 34)), mv 36 35, G 37 (.fieldAddr 0 (t 4)) 36 false, G 38 (.load none (t 37)) 36 false, G 39 (.fieldAddr 2 (t 1)) 36 false, G 40 (.load none (t 39)) 36 false, G 41 (.lenSl (t 40)) 36 false, G 42 (.bin .geq (t 38) (t 41)) 36 false, O 43 (.pick (t 36) (kb true) (t 42)), mv 44 43, G 45 (.fieldAddr 1 (t 4)) 44 false, G 46 (.load none (t 45)) 44 false, G 47 (.fieldAddr 1 (t 1)) 44 false, G 48 (.load none (t 47)) 44 false, G 49 (.lenSl (t 48)) 44 false, G 50 (.bin .geq (t 46) (t 49)) 44 false, O 51 (.pick (t 44) (kb true) (t 50))])
 (.cond (t 51) (sq (.ops [O 2 (.mv (n 4))])
 .ret) .skip))))
 (.ops [mv 21 3, add 22 .add (t 21) (n 1), mv 3 22]))))))
 (sq (sq (.ops [O 5 (.mv (n 0))])
 (.block 2 (.loop [1, 5] (sq (sq (.ops [mv 52 5, fa 53 4 1, ld 54 53, O 55 (.lenSl (t 54)), add 56 .lss (t 52) (t 55)])
 (.cond (t 56) .skip (.exit 2)))
 (sq (.block 3 (sq (.draw [B (O 59 (.load (some 5) (t 1))), A (fa 60 4 1), B (ld 61 60), A (mv 62 5), A (O 63 (.idxSl 4 (t 61) (t 62))), B (O 64 (.load (some 4) (t 63))), C (call 65 k_ref21_there [(t 59), (t 64)]), A (O 66 (.un .not (t 65)))])
 (.cond (t 66) (sq (.ops [O 2 (.mv (n 4))])
 .ret) .skip)))
 (.ops [mv 57 5, add 58 .add (t 57) (n 1), mv 5 58]))))))
 (sq (sq (.ops [O 6 (.mv (n 0))])
 (.block 4 (.loop [1, 6] (sq (sq (.ops [mv 67 6, fa 68 4 1, ld 69 68, O 70 (.lenSl (t 69)), add 71 .lss (t 67) (t 70)])
 (.cond (t 71) .skip (.exit 4)))
 (sq (.block 5 (sq (.ops [O 7 (.mv (n 0))])
 (.block 6 (.loop [1, 6, 7] (sq (sq (.ops [mv 74 7, mv 75 6, add 76 .lss (t 74) (t 75)])
 (.cond (t 76) .skip (.exit 6)))
 (sq (.block 7 (sq (.draw [A (fa 79 4 1), B (ld 80 79), A (mv 81 6), A (O 82 (.idxSl 4 (t 80) (t 81))), B (O 83 (.load (some 4) (t 82))), A (fa 84 4 1), B (ld 85 84), A (mv 86 7), A (O 87 (.idxSl 4 (t 85) (t 86))), B (O 88 (.load (some 4) (t 87))), C (call 89 k_ref21_Meet [(t 83), (t 88)])])
 (.cond (t 89) (sq (.ops [O 2 (.mv (n 5))])
 .ret) .skip)))
 (.ops [mv 77 7, add 78 .add (t 77) (n 1), mv 7 78])))))))
 (.ops [mv 72 6, add 73 .add (t 72) (n 1), mv 6 73]))))))
 (sq (sq (.ops [O 8 (.mv (n 0))])
 (.block 8 (.loop [1, 8] (sq (sq (.ops [mv 90 8, fa 91 3 1, ld 92 91, O 93 (.lenSl (t 92)), add 94 .lss (t 90) (t 93)])
 (.cond (t 94) .skip (.exit 8)))
 (sq (.block 9 (sq (.draw [B (O 97 (.load (some 5) (t 1))), A (fa 98 3 1), B (ld 99 98), A (mv 100 8), A (O 101 (.idxSl 6 (t 99) (t 100))), A (fa 102 0 101), B (ld 103 102), A (fa 104 3 1), B (ld 105 104), A (mv 106 8), A (O 107 (.idxSl 6 (t 105) (t 106))), A (fa 108 1 107), B (ld 109 108), B (call 110 k_ref21_Around [(t 97), (t 103), (t 109)]), B (O 9 (.alloc [z, z, z, z])), C (N (.store 4 (t 9) (t 110)))])
 (sq (.draw [A (fa 111 0 9), B (ld 112 111), A (fa 113 3 1), B (ld 114 113), A (mv 115 8), A (O 116 (.idxSl 6 (t 114) (t 115))), A (fa 117 0 116), B (ld 118 117), A (add 119 .neq (t 112) (t 118)), A (mv 120 119), A (G 121 (.fieldAddr 1 (t 9)) 120 false), B (G 122 (.load none (t 121)) 120 false), A (G 123 (.fieldAddr 3 (t 1)) 120 false), B (G 124 (.load none (t 123)) 120 false), A (G 125 (.mv (t 8)) 120 false), A (G 126 (.idxSl 6 (t 124) (t 125)) 120 false), A (G 127 (.fieldAddr 1 (t 126)) 120 false), B (G 128 (.load none (t 127)) 120 false), A (G 129 (.bin .neq (t 122) (t 128)) 120 false), A (O 130 (.pick (t 120) (kb true) (t 129)))])
 (.cond (t 130) (sq (.ops [O 2 (.mv (n 6))])
 .ret) .skip))))
 (.ops [mv 95 8, add 96 .add (t 95) (n 1), mv 8 96]))))))
 (sq (.ops [O 2 (.mv (n 0))])
 .ret))))))))⟩
def f_ref21_numbers : VFn := ⟨2, [.tmp 4], (sq (.ops [O 4 (.mv (kb false))])
 (sq (sq (.ops [mv 6 0, O 7 (.lenSl (t 6)), mv 8 1, O 9 (.lenSl (t 8)), add 10 .neq (t 7) (t 9)])
 (.cond (t 10) (sq (.ops [O 4 (.mv (kb false))])
 .ret) .skip))
 (sq (sq (.ops [O 5 (.mv (n 0))])
 (.block 0 (.loop [0, 1, 5] (sq (sq (.ops [mv 11 5, mv 12 0, O 13 (.lenSl (t 12)), add 14 .lss (t 11) (t 13)])
 (.cond (t 14) .skip (.exit 0)))
 (sq (.block 1 (sq (.draw [A (mv 17 0), A (mv 18 5), A (O 19 (.idxSl 1 (t 17) (t 18))), B (ld 20 19), A (mv 21 1), A (mv 22 5), A (O 23 (.idxSl 1 (t 21) (t 22))), B (ld 24 23), A (add 25 .neq (t 20) (t 24))])
 (.cond (t 25) (sq (.ops [O 4 (.mv (kb false))])
 .ret) .skip)))
 (.ops [mv 15 5, add 16 .add (t 15) (n 1), mv 5 16]))))))
 (sq (.ops [O 4 (.mv (kb true))])
 .ret))))⟩
def f_ref21_Rects : VFn := ⟨2, [.tmp 4], (sq (.ops [O 4 (.mv (kb false))])
 (sq (sq (.ops [mv 6 0, O 7 (.lenSl (t 6)), mv 8 1, O 9 (.lenSl (t 8)), add 10 .neq (t 7) (t 9)])
 (.cond (t 10) (sq (.ops [O 4 (.mv (kb false))])
 .ret) .skip))
 (sq (sq (.ops [O 5 (.mv (n 0))])
 (.block 0 (.loop [0, 1, 5] (sq (sq (.ops [mv 11 5, mv 12 0, O 13 (.lenSl (t 12)), add 14 .lss (t 11) (t 13)])
 (.cond (t 14) .skip (.exit 0)))
 (sq (.block 1 (sq (.draw [A (mv 17 0), A (mv 18 5), A (O 19 (.idxSl 4 (t 17) (t 18))), B (O 20 (.load (some 4) (t 19))), A (mv 21 1), A (mv 22 5), A (O 23 (.idxSl 4 (t 21) (t 22))), B (O 24 (.load (some 4) (t 23))), A (O 25 (.eqAg true [.i, .i, .i, .i] (t 20) (t 24)))])
 (.cond (t 25) (sq (.ops [O 4 (.mv (kb false))])
 .ret) .skip)))
 (.ops [mv 15 5, add 16 .add (t 15) (n 1), mv 5 16]))))))
 (sq (.ops [O 4 (.mv (kb true))])
 .ret))))⟩
def f_view_New : VFn := ⟨3, [.tmp 6, .tmp 7], (sq (.ops [O 3 (.box (t 0)), O 6 (.mv (.const (.pointer none))), O 7 (.mv (n 0))])
 (sq (.ops [O 10 (.load (some 5) (t 3)), call 11 k_sheet_Own [(t 10)], mv 12 1, mv 13 2, O 14 (.build [z, .sn, .sn, .sn, .sn, z, z, z, z] [(0, 5, (t 11)), (5, 1, (t 12)), (6, 1, (t 13))]), O 8 (.alloc [z, .sn, .sn, .sn, .sn, z, z, z, z]), N (.store 9 (t 8) (t 14))])
 (sq (sq (.ops [O 15 (.load (some 9) (t 8)), call 16 k_grid_May [(t 15)], mv 9 16])
 (sq (.ops [mv 17 9, add 18 .neq (t 17) (n 0)])
 (.cond (t 18) (sq (.ops [mv 19 9, O 6 (.mv (.const (.pointer none))), mv 7 19])
 .ret) .skip)))
 (sq (.ops [O 20 (.load (some 9) (t 8)), O 21 (.buildC [(9, (t 20))]), O 22 (.build [z, .sn, .sn, .sn, .sn, z, z, z, z, (.b false), .sn] [(0, 9, (t 21)), (9, 1, (kb true))]), O 23 (.box (t 22)), mv 6 23, O 7 (.mv (n 0))])
 .ret))))⟩
def f_law27_row : VFn := ⟨3, [.tmp 6], (sq (.ops [O 6 (.mv (.const (.slice none 0 0)))])
 (sq (.ops [O 7 (.mv (.const (.slice none 0 0)))])
 (sq (sq (.ops [O 8 (.mv (n 0))])
 (.block 0 (.loop [0, 1, 2, 7, 8] (sq (sq (.ops [mv 9 8, mv 10 1, add 11 .lss (t 9) (t 10), mv 12 11, G 13 (.mv (t 2)) 12 true, G 14 (.mv (t 1)) 12 true, G 15 (.bin .mul (t 13) (t 14)) 12 true, G 16 (.mv (t 8)) 12 true, G 17 (.bin .add (t 15) (t 16)) 12 true, G 18 (.mv (t 0)) 12 true, G 19 (.lenSl (t 18)) 12 true, G 20 (.bin .lss (t 17) (t 19)) 12 true, O 21 (.pick (t 12) (t 20) (kb false))])
 (.cond (t 21) .skip (.exit 0)))
 (sq (.block 1 (.ops [mv 24 7, mv 25 0, mv 26 2, mv 27 1, add 28 .mul (t 26) (t 27), mv 29 8, add 30 .add (t 28) (t 29), O 31 (.idxSl 6 (t 25) (t 30)), fa 32 0 31, ld 33 32, O 34 (.bsliceC 1 1 [(1, (t 33))]), O 35 (.append false [z] 1 8 (t 24) (t 34)), mv 7 35]))
 (.ops [mv 22 8, add 23 .add (t 22) (n 1), mv 8 23]))))))
 (sq (.ops [mv 36 7, mv 6 36])
 .ret))))⟩
def f_view_does : VFn := ⟨1, [.tmp 2, .tmp 3], (sq (.ops [O 2 (.mv (.const .nilFunc)), O 3 (.mv (kb false))])
 (sq (.ops [O 6 (.buildC [(1, (fu k_view_now_scrolled)), (1, (fu k_view_now_sized))]), O 4 (.alloc [.fnn, .fnn]), N (.store 2 (t 4) (t 6))])
 (sq (sq (.ops [mv 7 0, add 8 .sub (t 7) (n 12), mv 5 8])
 (sq (.ops [mv 9 5, add 10 .geq (t 9) (n 0), mv 11 10, G 12 (.mv (t 5)) 11 true, G 13 (.bin .lss (t 12) (n 2)) 11 true, O 14 (.pick (t 11) (t 13) (kb false))])
 (.cond (t 14) (sq (.ops [mv 15 5, O 16 (.idxArr 2 1 (t 4) (t 15)), ld 17 16, mv 2 17, O 3 (.mv (kb true))])
 .ret) .skip)))
 (sq (.ops [mv 18 0, add 19 .geq (t 18) (n 1), mv 20 19, G 21 (.mv (t 0)) 20 true, G 22 (.bin .lss (t 21) (n 12)) 20 true, O 23 (.pick (t 20) (t 22) (kb false)), O 2 (.mv (fu k_view_now_edited)), mv 3 23])
 .ret))))⟩
def f_p_view_View_none : VFn := ⟨1, [.tmp 2], (sq (.ops [O 2 (.mv (kb false))])
 (sq (.ops [mv 3 0, O 4 (.isNil 0 false (t 3)), mv 5 4, G 6 (.mv (t 0)) 5 false, G 7 (.nilCheck (t 6)) 5 false, G 8 (.fieldAddr 9 (t 7)) 5 false, G 9 (.load none (t 8)) 5 false, G 10 (.un .not (t 9)) 5 false, O 11 (.pick (t 5) (kb true) (t 10)), mv 2 11])
 .ret))⟩
def f_sheet_Own : VFn := ⟨1, [.cell 2 (some 5)], (sq (.ops [O 1 (.box (t 0)), O 2 (.alloc [z, .sn, .sn, .sn, .sn])])
 (sq (.draw [A (fa 3 1 1), B (ld 4 3), B (call 5 k_slices_Clone_Lint_int [(t 4)]), A (fa 6 2 1), B (ld 7 6), C (call 8 k_slices_Clone_Lint_int [(t 7)]), A (fa 9 1 1), C (N (.store 1 (t 9) (t 5))), A (fa 10 2 1), C (N (.store 1 (t 10) (t 8)))])
 (sq (.draw [A (fa 11 3 1), B (ld 12 11), B (call 13 k_slices_Clone_LCell_Cell [(t 12)]), A (fa 14 4 1), B (ld 15 14), C (call 16 k_slices_Clone_LRect_Rect [(t 15)]), A (fa 17 3 1), C (N (.store 1 (t 17) (t 13))), A (fa 18 4 1), C (N (.store 1 (t 18) (t 16)))])
 (sq (.ops [O 19 (.load (some 5) (t 1)), N (.store 5 (t 2) (t 19))])
 .ret))))⟩
def f_grid_Render : VFn := ⟨1, [.tmp 2, .tmp 3], (sq (.ops [O 1 (.box (t 0)), O 2 (.mv (.const (.slice none 0 0))), O 3 (.mv (n 0))])
 (sq (sq (.ops [O 11 (.load (some 9) (t 1)), call 12 k_grid_May [(t 11)], mv 4 12])
 (sq (.ops [mv 13 4, add 14 .neq (t 13) (n 0)])
 (.cond (t 14) (sq (.ops [mv 15 4, O 2 (.mv (.const (.slice none 0 0))), mv 3 15])
 .ret) .skip)))
 (sq (.ops [O 16 (.load (some 9) (t 1)), O 17 (.mkMap), O 18 (.buildC [(9, (t 16)), (1, (t 17))]), O 19 (.box (t 18)), mv 5 19])
 (sq (.ops [fa 20 7 1, ld 21 20, O 22 (.toFloat .f64 (t 21)), fa 23 8 1, ld 24 23, O 25 (.toFloat .f64 (t 24)), O 26 (.complex (t 22) (t 25)), mv 6 26])
 (sq (.ops [O 7 (.mv (.const (.slice none 0 0)))])
 (sq (sq (.ops [fa 27 6 1, ld 28 27, O 29 (.mv (n 0))])
 (.block 0 (.loop [1, 5, 6, 7, 28, 29] (sq (.ops [add 30 .lss (t 29) (t 28)])
 (sq (.cond (t 30) .skip (.exit 0))
 (sq (.block 1 (sq (.ops [mv 31 29, mv 8 31])
 (sq (.ops [fa 32 5 1, ld 33 32, O 34 (.mv (n 0))])
 (.block 2 (.loop [1, 5, 6, 7, 8, 28, 29, 33, 34] (sq (.ops [add 35 .lss (t 34) (t 33)])
 (sq (.cond (t 35) .skip (.exit 2))
 (sq (.block 3 (sq (.ops [mv 36 34, mv 9 36])
 (sq (.ops [mv 37 9, O 38 (.toFloat .f64 (t 37)), mv 39 8, O 40 (.toFloat .f64 (t 39)), O 41 (.complex (t 38) (t 40)), mv 42 6, fa 43 5 1, ld 44 43, fa 45 0 1, fa 46 0 45, ld 47 46, call 48 k_axis_Back [(t 41), (t 42), (t 44), (t 47)], mv 10 48])
 (.ops [mv 49 7, mv 50 5, mv 51 10, O 52 (.real (t 51)), O 53 (.toInt .i64 (t 52)), mv 54 10, O 55 (.imag (t 54)), O 56 (.toInt .i64 (t 55)), call 57 k_p_grid_screen_slot [(t 50), (t 53), (t 56)], O 58 (.bsliceC 6 1 [(6, (t 57))]), O 59 (.append false [z, z, z, z, z, z] 6 48 (t 49) (t 58)), mv 7 59]))))
 (.ops [add 60 .add (t 34) (n 1), mv 34 60])))))))))
 (.ops [add 61 .add (t 29) (n 1), mv 29 61])))))))
 (sq (.ops [mv 62 7, mv 2 62, O 3 (.mv (n 0))])
 .ret)))))))⟩
def f_sheet_limits : VFn := ⟨1, [.tmp 2], (sq (.ops [O 1 (.box (t 0)), O 2 (.mv (kb false))])
 (sq (.ops [fa 4 3 1, ld 5 4, call 6 k_slices_ContainsFunc_LCell_Cell [(t 5), (fu k_sheet_limits_1)], mv 3 6])
 (sq (.ops [mv 7 3, O 8 (.un .not (t 7)), mv 9 8, G 10 (.fieldAddr 1 (t 1)) 9 true, G 11 (.load none (t 10)) 9 true, G 12 (.call (fu k_sheet_over) [(t 11), (n 16), (n 60)]) 9 true, G 13 (.un .not (t 12)) 9 true, O 14 (.pick (t 9) (t 13) (kb false)), mv 15 14, G 16 (.fieldAddr 2 (t 1)) 15 true, G 17 (.load none (t 16)) 15 true, G 18 (.call (fu k_sheet_over) [(t 17), (n 24), (n 12)]) 15 true, G 19 (.un .not (t 18)) 15 true, O 20 (.pick (t 15) (t 19) (kb false)), mv 21 20, G 22 (.fieldAddr 4 (t 1)) 21 true, G 23 (.load none (t 22)) 21 true, G 24 (.lenSl (t 23)) 21 true, G 25 (.bin .leq (t 24) (n 12)) 21 true, O 26 (.pick (t 21) (t 25) (kb false)), mv 2 26])
 .ret)))⟩
def f_sheet_order : VFn := ⟨1, [.tmp 2], (sq (.ops [O 1 (.box (t 0)), O 2 (.mv (kb false))])
 (sq (sq (.ops [fa 5 0 1, ld 6 5, add 7 .lss (t 6) (n 0), mv 8 7, G 9 (.fieldAddr 0 (t 1)) 8 false, G 10 (.load none (t 9)) 8 false, G 11 (.bin .gtr (t 10) (n 1)) 8 false, O 12 (.pick (t 8) (kb true) (t 11)), mv 13 12, G 14 (.fieldAddr 1 (t 1)) 13 false, G 15 (.load none (t 14)) 13 false, G 16 (.call (fu k_sheet_sizes) [(t 15)]) 13 false, G 17 (.un .not (t 16)) 13 false, O 18 (.pick (t 13) (kb true) (t 17)), mv 19 18, G 20 (.fieldAddr 2 (t 1)) 19 false, G 21 (.load none (t 20)) 19 false, G 22 (.call (fu k_sheet_sizes) [(t 21)]) 19 false, G 23 (.un .not (t 22)) 19 false, O 24 (.pick (t 19) (kb true) (t 23)), mv 25 24, G 26 (.fieldAddr 3 (t 1)) 25 false, G 27 (.load none (t 26)) 25 false, G 28 (.call (fu k_sheet_rise_Cell) [(t 27), (fu k_sheet_spot)]) 25 false, G 29 (.un .not (t 28)) 25 false, O 30 (.pick (t 25) (kb true) (t 29)), mv 31 30, G 32 (.fieldAddr 4 (t 1)) 31 false, G 33 (.load none (t 32)) 31 false, G 34 (.call (fu k_sheet_rise_Rect) [(t 33), (fu k_sheet_corner)]) 31 false, G 35 (.un .not (t 34)) 31 false, O 36 (.pick (t 31) (kb true) (t 35))])
 (.cond (t 36) (sq (.ops [O 2 (.mv (kb false))])
 .ret) .skip))
 (sq (.ops [fa 37 3 1, ld 38 37, call 39 k_slices_ContainsFunc_LCell_Cell [(t 38), (fu k_sheet_order_1)], mv 3 39])
 (sq (.ops [fa 40 4 1, ld 41 40, call 42 k_slices_ContainsFunc_LRect_Rect [(t 41), (fu k_sheet_order_2)], mv 4 42])
 (sq (.ops [mv 43 3, O 44 (.un .not (t 43)), mv 45 44, G 46 (.mv (t 4)) 45 true, G 47 (.un .not (t 46)) 45 true, O 48 (.pick (t 45) (t 47) (kb false)), mv 2 48])
 .ret)))))⟩
def f_slices_ContainsFunc_LCell_Cell : VFn := ⟨2, [.tmp 4], (sq (.ops [O 4 (.mv (kb false))])
 (sq (.ops [mv 5 0, mv 6 1, call 7 k_slices_IndexFunc_LCell_Cell [(t 5), (t 6)], add 8 .geq (t 7) (n 0), mv 4 8])
 .ret))⟩
def f_sheet_Check_1 : VFn := ⟨2, [.tmp 3], (sq (.ops [O 2 (.box (t 0)), O 3 (.mv (kb false))])
 (sq (.draw [B (O 4 (.load (some 5) (t 1))), A (fa 5 0 2), B (ld 6 5), A (fa 7 1 2), B (ld 8 7), B (call 9 k_sheet_one [(t 6), (t 8)]), C (call 10 k_sheet_has [(t 4), (t 9)]), A (O 11 (.un .not (t 10))), A (mv 3 11)])
 .ret))⟩
def f_sheet_has : VFn := ⟨2, [.tmp 4], (sq (.ops [O 2 (.box (t 0)), O 3 (.box (t 1)), O 4 (.mv (kb false))])
 (sq (.draw [A (fa 7 2 2), B (ld 8 7), A (O 9 (.lenSl (t 8))), A (fa 10 1 2), B (ld 11 10), A (O 12 (.lenSl (t 11))), A (mv 5 9), A (mv 6 12)])
 (sq (.ops [fa 13 0 3, ld 14 13, add 15 .geq (t 14) (n 0), mv 16 15, G 17 (.fieldAddr 1 (t 3)) 16 true, G 18 (.load none (t 17)) 16 true, G 19 (.bin .geq (t 18) (n 0)) 16 true, O 20 (.pick (t 16) (t 19) (kb false)), mv 21 20, G 22 (.fieldAddr 2 (t 3)) 21 true, G 23 (.load none (t 22)) 21 true, G 24 (.mv (t 5)) 21 true, G 25 (.bin .leq (t 23) (t 24)) 21 true, O 26 (.pick (t 21) (t 25) (kb false)), mv 27 26, G 28 (.fieldAddr 3 (t 3)) 27 true, G 29 (.load none (t 28)) 27 true, G 30 (.mv (t 6)) 27 true, G 31 (.bin .leq (t 29) (t 30)) 27 true, O 32 (.pick (t 27) (t 31) (kb false)), mv 33 32, G 34 (.fieldAddr 0 (t 3)) 33 true, G 35 (.load none (t 34)) 33 true, G 36 (.mv (t 5)) 33 true, G 37 (.fieldAddr 2 (t 3)) 33 true, G 38 (.load none (t 37)) 33 true, G 39 (.bin .sub (t 36) (t 38)) 33 true, G 40 (.bin .leq (t 35) (t 39)) 33 true, O 41 (.pick (t 33) (t 40) (kb false)), mv 42 41, G 43 (.fieldAddr 1 (t 3)) 42 true, G 44 (.load none (t 43)) 42 true, G 45 (.mv (t 6)) 42 true, G 46 (.fieldAddr 3 (t 3)) 42 true, G 47 (.load none (t 46)) 42 true, G 48 (.bin .sub (t 45) (t 47)) 42 true, G 49 (.bin .leq (t 44) (t 48)) 42 true, O 50 (.pick (t 42) (t 49) (kb false)), mv 4 50])
 .ret)))⟩
def f_sheet_one : VFn := ⟨2, [.cell 4 (some 4)], (sq (.ops [O 4 (.alloc [z, z, z, z])])
 (sq (.ops [mv 5 0, mv 6 1, O 7 (.buildC [(1, (t 5)), (1, (t 6)), (1, (n 1)), (1, (n 1))]), N (.store 4 (t 4) (t 7))])
 .ret))⟩
def f_slices_ContainsFunc_LRect_Rect : VFn := ⟨2, [.tmp 4], (sq (.ops [O 4 (.mv (kb false))])
 (sq (.ops [mv 5 0, mv 6 1, call 7 k_slices_IndexFunc_LRect_Rect [(t 5), (t 6)], add 8 .geq (t 7) (n 0), mv 4 8])
 .ret))⟩
def f_sheet_Check_2 : VFn := ⟨2, [.tmp 3], (sq (.ops [O 2 (.box (t 0)), O 3 (.mv (kb false))])
 (sq (.ops [O 4 (.load (some 5) (t 1)), O 5 (.load (some 4) (t 2)), call 6 k_sheet_has [(t 4), (t 5)], O 7 (.un .not (t 6)), mv 3 7])
 .ret))⟩
def f_sheet_Check_3 : VFn := ⟨2, [.tmp 3], (sq (.ops [O 2 (.box (t 0)), O 3 (.mv (kb false))])
 (sq (.ops [O 4 (.load (some 4) (t 2)), O 5 (.load (some 4) (t 1)), call 6 k_sheet_Meet [(t 4), (t 5)], mv 3 6])
 .ret))⟩
def f_sheet_Meet : VFn := ⟨2, [.tmp 4], (sq (.ops [O 2 (.box (t 0)), O 3 (.box (t 1)), O 4 (.mv (kb false))])
 (sq (.ops [fa 5 0 2, ld 6 5, fa 7 2 2, ld 8 7, fa 9 0 3, ld 10 9, fa 11 2 3, ld 12 11, call 13 k_sheet_share [(t 6), (t 8), (t 10), (t 12)], mv 14 13, G 15 (.fieldAddr 1 (t 2)) 14 true, G 16 (.load none (t 15)) 14 true, G 17 (.fieldAddr 3 (t 2)) 14 true, G 18 (.load none (t 17)) 14 true, G 19 (.fieldAddr 1 (t 3)) 14 true, G 20 (.load none (t 19)) 14 true, G 21 (.fieldAddr 3 (t 3)) 14 true, G 22 (.load none (t 21)) 14 true, G 23 (.call (fu k_sheet_share) [(t 16), (t 18), (t 20), (t 22)]) 14 true, O 24 (.pick (t 14) (t 23) (kb false)), mv 4 24])
 .ret))⟩
def f_sheet_spot : VFn := ⟨1, [.cell 2 (some 2)], (sq (.ops [O 1 (.box (t 0)), O 2 (.alloc [z, z])])
 (sq (.ops [fa 3 0 1, ld 4 3, fa 5 1 1, ld 6 5, O 7 (.buildC [(1, (t 4)), (1, (t 6))]), N (.store 2 (t 2) (t 7))])
 .ret))⟩
def f_sheet_corner : VFn := ⟨1, [.cell 2 (some 2)], (sq (.ops [O 1 (.box (t 0)), O 2 (.alloc [z, z])])
 (sq (.ops [fa 3 0 1, ld 4 3, fa 5 1 1, ld 6 5, O 7 (.buildC [(1, (t 4)), (1, (t 6))]), N (.store 2 (t 2) (t 7))])
 .ret))⟩
def f_sheet_around : VFn := ⟨3, [.cell 6 (some 4)], (sq (.ops [O 3 (.box (t 0)), O 4 (.box (t 1)), O 5 (.box (t 2)), O 6 (.alloc [z, z, z, z])])
 (sq (.ops [fa 8 4 3, ld 9 8, O 10 (.mkFunc (.func k_sheet_around_1) [] [(t 4), (t 5)]), call 11 k_slices_IndexFunc_LRect_Rect [(t 9), (t 10)], mv 7 11])
 (sq (sq (.ops [mv 12 7, add 13 .lss (t 12) (n 0)])
 (.cond (t 13) (sq (.ops [ld 14 4, ld 15 5, call 16 k_sheet_one [(t 14), (t 15)], N (.store 4 (t 6) (t 16))])
 .ret) .skip))
 (sq (.ops [fa 17 4 3, ld 18 17, mv 19 7, O 20 (.idxSl 4 (t 18) (t 19)), O 21 (.load (some 4) (t 20)), N (.store 4 (t 6) (t 21))])
 .ret))))⟩
def f_ref21_Limits : VFn := ⟨1, [.tmp 2], (sq (.ops [O 1 (.box (t 0)), O 2 (.mv (kb false))])
 (sq (sq (.ops [fa 6 2 1, ld 7 6, O 8 (.lenSl (t 7)), add 9 .gtr (t 8) (n 24), mv 10 9, G 11 (.fieldAddr 1 (t 1)) 10 false, G 12 (.load none (t 11)) 10 false, G 13 (.lenSl (t 12)) 10 false, G 14 (.bin .gtr (t 13) (n 16)) 10 false, O 15 (.pick (t 10) (kb true) (t 14)), mv 16 15, G 17 (.fieldAddr 4 (t 1)) 16 false, G 18 (.load none (t 17)) 16 false, G 19 (.lenSl (t 18)) 16 false, G 20 (.bin .gtr (t 19) (n 12)) 16 false, O 21 (.pick (t 16) (kb true) (t 20))])
 (.cond (t 21) (sq (.ops [O 2 (.mv (kb false))])
 .ret) .skip))
 (sq (sq (.ops [O 3 (.mv (n 0))])
 (.block 0 (.loop [1, 3] (sq (sq (.ops [mv 22 3, fa 23 2 1, ld 24 23, O 25 (.lenSl (t 24)), add 26 .lss (t 22) (t 25)])
 (.cond (t 26) .skip (.exit 0)))
 (sq (.block 1 (sq (.ops [fa 29 2 1, ld 30 29, mv 31 3, O 32 (.idxSl 1 (t 30) (t 31)), ld 33 32, add 34 .gtr (t 33) (n 12)])
 (.cond (t 34) (sq (.ops [O 2 (.mv (kb false))])
 .ret) .skip)))
 (.ops [mv 27 3, add 28 .add (t 27) (n 1), mv 3 28]))))))
 (sq (sq (.ops [O 4 (.mv (n 0))])
 (.block 2 (.loop [1, 4] (sq (sq (.ops [mv 35 4, fa 36 1 1, ld 37 36, O 38 (.lenSl (t 37)), add 39 .lss (t 35) (t 38)])
 (.cond (t 39) .skip (.exit 2)))
 (sq (.block 3 (sq (.ops [fa 42 1 1, ld 43 42, mv 44 4, O 45 (.idxSl 1 (t 43) (t 44)), ld 46 45, add 47 .gtr (t 46) (n 60)])
 (.cond (t 47) (sq (.ops [O 2 (.mv (kb false))])
 .ret) .skip)))
 (.ops [mv 40 4, add 41 .add (t 40) (n 1), mv 4 41]))))))
 (sq (sq (.ops [O 5 (.mv (n 0))])
 (.block 4 (.loop [1, 5] (sq (sq (.ops [mv 48 5, fa 49 3 1, ld 50 49, O 51 (.lenSl (t 50)), add 52 .lss (t 48) (t 51)])
 (.cond (t 52) .skip (.exit 4)))
 (sq (.block 5 (sq (.ops [fa 55 3 1, ld 56 55, mv 57 5, O 58 (.idxSl 6 (t 56) (t 57)), fa 59 2 58, ld 60 59, O 61 (.lenStr (t 60)), add 62 .gtr (t 61) (n 1024)])
 (.cond (t 62) (sq (.ops [O 2 (.mv (kb false))])
 .ret) .skip)))
 (.ops [mv 53 5, add 54 .add (t 53) (n 1), mv 5 54]))))))
 (sq (.ops [O 2 (.mv (kb true))])
 .ret))))))⟩
def f_ref21_Order : VFn := ⟨1, [.tmp 2], (sq (.ops [O 1 (.box (t 0)), O 2 (.mv (kb false))])
 (sq (sq (.ops [fa 9 0 1, ld 10 9, add 11 .neq (t 10) (n 0), mv 12 11, G 13 (.fieldAddr 0 (t 1)) 12 true, G 14 (.load none (t 13)) 12 true, G 15 (.bin .neq (t 14) (n 1)) 12 true, O 16 (.pick (t 12) (t 15) (kb false)), mv 17 16, G 18 (.fieldAddr 1 (t 1)) 17 false, G 19 (.load none (t 18)) 17 false, G 20 (.lenSl (t 19)) 17 false, G 21 (.bin .eql (t 20) (n 0)) 17 false, O 22 (.pick (t 17) (kb true) (t 21)), mv 23 22, G 24 (.fieldAddr 2 (t 1)) 23 false, G 25 (.load none (t 24)) 23 false, G 26 (.lenSl (t 25)) 23 false, G 27 (.bin .eql (t 26) (n 0)) 23 false, O 28 (.pick (t 23) (kb true) (t 27))])
 (.cond (t 28) (sq (.ops [O 2 (.mv (kb false))])
 .ret) .skip))
 (sq (sq (.ops [O 3 (.mv (n 0))])
 (.block 0 (.loop [1, 3] (sq (sq (.ops [mv 29 3, fa 30 1 1, ld 31 30, O 32 (.lenSl (t 31)), add 33 .lss (t 29) (t 32)])
 (.cond (t 33) .skip (.exit 0)))
 (sq (.block 1 (sq (.ops [fa 36 1 1, ld 37 36, mv 38 3, O 39 (.idxSl 1 (t 37) (t 38)), ld 40 39, add 41 .lss (t 40) (n 1)])
 (.cond (t 41) (sq (.ops [O 2 (.mv (kb false))])
 .ret) .skip)))
 (.ops [mv 34 3, add 35 .add (t 34) (n 1), mv 3 35]))))))
 (sq (sq (.ops [O 4 (.mv (n 0))])
 (.block 2 (.loop [1, 4] (sq (sq (.ops [mv 42 4, fa 43 2 1, ld 44 43, O 45 (.lenSl (t 44)), add 46 .lss (t 42) (t 45)])
 (.cond (t 46) .skip (.exit 2)))
 (sq (.block 3 (sq (.ops [fa 49 2 1, ld 50 49, mv 51 4, O 52 (.idxSl 1 (t 50) (t 51)), ld 53 52, add 54 .lss (t 53) (n 1)])
 (.cond (t 54) (sq (.ops [O 2 (.mv (kb false))])
 .ret) .skip)))
 (.ops [mv 47 4, add 48 .add (t 47) (n 1), mv 4 48]))))))
 (sq (sq (.ops [O 5 (.mv (n 0))])
 (.block 4 (.loop [1, 5] (sq (sq (.ops [mv 55 5, fa 56 3 1, ld 57 56, O 58 (.lenSl (t 57)), add 59 .lss (t 55) (t 58)])
 (.cond (t 59) .skip (.exit 4)))
 (sq (.block 5 (sq (.ops [fa 62 3 1, ld 63 62, mv 64 5, O 65 (.idxSl 6 (t 63) (t 64)), O 66 (.load (some 6) (t 65)), O 6 (.alloc [z, z, (.s []), z, z, z]), N (.store 6 (t 6) (t 66))])
 (sq (.draw [A (mv 67 5), A (add 68 .gtr (t 67) (n 0)), A (mv 69 68), A (G 70 (.fieldAddr 3 (t 1)) 69 true), B (G 71 (.load none (t 70)) 69 true), A (G 72 (.mv (t 5)) 69 true), A (G 73 (.bin .sub (t 72) (n 1)) 69 true), A (G 74 (.idxSl 6 (t 71) (t 73)) 69 true), A (G 75 (.fieldAddr 0 (t 74)) 69 true), B (G 76 (.load none (t 75)) 69 true), A (G 77 (.fieldAddr 3 (t 1)) 69 true), B (G 78 (.load none (t 77)) 69 true), A (G 79 (.mv (t 5)) 69 true), A (G 80 (.bin .sub (t 79) (n 1)) 69 true), A (G 81 (.idxSl 6 (t 78) (t 80)) 69 true), A (G 82 (.fieldAddr 1 (t 81)) 69 true), B (G 83 (.load none (t 82)) 69 true), A (G 84 (.fieldAddr 0 (t 6)) 69 true), B (G 85 (.load none (t 84)) 69 true), A (G 86 (.fieldAddr 1 (t 6)) 69 true), B (G 87 (.load none (t 86)) 69 true), C (G 88 (.call (fu k_ref21_ahead) [(t 76), (t 83), (t 85), (t 87)]) 69 true), A (G 89 (.un .not (t 88)) 69 true), A (O 90 (.pick (t 69) (t 89) (kb false))), A (mv 91 90), A (G 92 (.fieldAddr 3 (t 6)) 91 false), B (G 93 (.load (some 3) (t 92)) 91 false), C (G 94 (.call (fu k_ref21_Styled) [(t 93)]) 91 false), A (G 95 (.un .not (t 94)) 91 false), A (O 96 (.pick (t 91) (kb true) (t 95))), A (mv 97 96), A (G 98 (.fieldAddr 2 (t 6)) 97 false), B (G 99 (.load none (t 98)) 97 false), A (G 100 (.bin .eql (t 99) (.const (.string ⟨⟨[]⟩⟩))) 97 false), A (G 101 (.mv (t 100)) 97 false), A (G 102 (.fieldAddr 3 (t 6)) 101 true), A (G 103 (.fieldAddr 0 (t 102)) 101 true), B (G 104 (.load none (t 103)) 101 true), A (G 105 (.bin .eql (t 104) (n 0)) 101 true), A (G 106 (.pick (t 101) (t 105) (kb false)) 97 false), A (G 107 (.mv (t 106)) 97 false), A (G 108 (.fieldAddr 3 (t 6)) 107 true), A (G 109 (.fieldAddr 1 (t 108)) 107 true), B (G 110 (.load none (t 109)) 107 true), A (G 111 (.bin .eql (t 110) (n 0)) 107 true), A (G 112 (.pick (t 107) (t 111) (kb false)) 97 false), A (G 113 (.mv (t 112)) 97 false), A (G 114 (.fieldAddr 3 (t 6)) 113 true), A (G 115 (.fieldAddr 2 (t 114)) 113 true), B (G 116 (.load none (t 115)) 113 true), A (G 117 (.bin .eql (t 116) (n 0)) 113 true), A (G 118 (.pick (t 113) (t 117) (kb false)) 97 false), A (O 119 (.pick (t 97) (kb true) (t 118)))])
 (.cond (t 119) (sq (.ops [O 2 (.mv (kb false))])
 .ret) .skip))))
 (.ops [mv 60 5, add 61 .add (t 60) (n 1), mv 5 61]))))))
 (sq (sq (.ops [O 7 (.mv (n 0))])
 (.block 6 (.loop [1, 7] (sq (sq (.ops [mv 120 7, fa 121 4 1, ld 122 121, O 123 (.lenSl (t 122)), add 124 .lss (t 120) (t 123)])
 (.cond (t 124) .skip (.exit 6)))
 (sq (.block 7 (sq (.ops [fa 127 4 1, ld 128 127, mv 129 7, O 130 (.idxSl 4 (t 128) (t 129)), O 131 (.load (some 4) (t 130)), O 8 (.alloc [z, z, z, z]), N (.store 4 (t 8) (t 131))])
 (sq (.draw [A (mv 132 7), A (add 133 .gtr (t 132) (n 0)), A (mv 134 133), A (G 135 (.fieldAddr 4 (t 1)) 134 true), B (G 136 (.load none (t 135)) 134 true), A (G 137 (.mv (t 7)) 134 true), A (G 138 (.bin .sub (t 137) (n 1)) 134 true), A (G 139 (.idxSl 4 (t 136) (t 138)) 134 true), A (G 140 (.fieldAddr 0 (t 139)) 134 true), B (G 141 (.load none (t 140)) 134 true), A (G 142 (.fieldAddr 4 (t 1)) 134 true), B (G 143 (.load none (t 142)) 134 true), A (G 144 (.mv (t 7)) 134 true), A (G 145 (.bin .sub (t 144) (n 1)) 134 true), A (G 146 (.idxSl 4 (t 143) (t 145)) 134 true), A (G 147 (.fieldAddr 1 (t 146)) 134 true), B (G 148 (.load none (t 147)) 134 true), A (G 149 (.fieldAddr 0 (t 8)) 134 true), B (G 150 (.load none (t 149)) 134 true), A (G 151 (.fieldAddr 1 (t 8)) 134 true), B (G 152 (.load none (t 151)) 134 true), C (G 153 (.call (fu k_ref21_ahead) [(t 141), (t 148), (t 150), (t 152)]) 134 true), A (G 154 (.un .not (t 153)) 134 true), A (O 155 (.pick (t 134) (t 154) (kb false))), A (mv 156 155), A (G 157 (.fieldAddr 2 (t 8)) 156 false), B (G 158 (.load none (t 157)) 156 false), A (G 159 (.bin .lss (t 158) (n 1)) 156 false), A (O 160 (.pick (t 156) (kb true) (t 159))), A (mv 161 160), A (G 162 (.fieldAddr 3 (t 8)) 161 false), B (G 163 (.load none (t 162)) 161 false), A (G 164 (.bin .lss (t 163) (n 1)) 161 false), A (O 165 (.pick (t 161) (kb true) (t 164))), A (mv 166 165), A (G 167 (.fieldAddr 2 (t 8)) 166 false), B (G 168 (.load none (t 167)) 166 false), A (G 169 (.bin .eql (t 168) (n 1)) 166 false), A (G 170 (.mv (t 169)) 166 false), A (G 171 (.fieldAddr 3 (t 8)) 170 true), B (G 172 (.load none (t 171)) 170 true), A (G 173 (.bin .eql (t 172) (n 1)) 170 true), A (G 174 (.pick (t 170) (t 173) (kb false)) 166 false), A (O 175 (.pick (t 166) (kb true) (t 174)))])
 (.cond (t 175) (sq (.ops [O 2 (.mv (kb false))])
 .ret) .skip))))
 (.ops [mv 125 7, add 126 .add (t 125) (n 1), mv 7 126]))))))
 (sq (.ops [O 2 (.mv (kb true))])
 .ret)))))))⟩
def f_ref21_there : VFn := ⟨2, [.tmp 4], (sq (.ops [O 2 (.box (t 0)), O 3 (.box (t 1)), O 4 (.mv (kb false))])
 (sq (.ops [fa 5 0 3, ld 6 5, add 7 .geq (t 6) (n 0), mv 8 7, G 9 (.fieldAddr 1 (t 3)) 8 true, G 10 (.load none (t 9)) 8 true, G 11 (.bin .geq (t 10) (n 0)) 8 true, O 12 (.pick (t 8) (t 11) (kb false)), mv 13 12, G 14 (.fieldAddr 2 (t 3)) 13 true, G 15 (.load none (t 14)) 13 true, G 16 (.fieldAddr 2 (t 2)) 13 true, G 17 (.load none (t 16)) 13 true, G 18 (.lenSl (t 17)) 13 true, G 19 (.bin .leq (t 15) (t 18)) 13 true, O 20 (.pick (t 13) (t 19) (kb false)), mv 21 20, G 22 (.fieldAddr 3 (t 3)) 21 true, G 23 (.load none (t 22)) 21 true, G 24 (.fieldAddr 1 (t 2)) 21 true, G 25 (.load none (t 24)) 21 true, G 26 (.lenSl (t 25)) 21 true, G 27 (.bin .leq (t 23) (t 26)) 21 true, O 28 (.pick (t 21) (t 27) (kb false)), mv 29 28, G 30 (.fieldAddr 0 (t 3)) 29 true, G 31 (.load none (t 30)) 29 true, G 32 (.fieldAddr 2 (t 2)) 29 true, G 33 (.load none (t 32)) 29 true, G 34 (.lenSl (t 33)) 29 true, G 35 (.fieldAddr 2 (t 3)) 29 true, G 36 (.load none (t 35)) 29 true, G 37 (.bin .sub (t 34) (t 36)) 29 true, G 38 (.bin .leq (t 31) (t 37)) 29 true, O 39 (.pick (t 29) (t 38) (kb false)), mv 40 39, G 41 (.fieldAddr 1 (t 3)) 40 true, G 42 (.load none (t 41)) 40 true, G 43 (.fieldAddr 1 (t 2)) 40 true, G 44 (.load none (t 43)) 40 true, G 45 (.lenSl (t 44)) 40 true, G 46 (.fieldAddr 3 (t 3)) 40 true, G 47 (.load none (t 46)) 40 true, G 48 (.bin .sub (t 45) (t 47)) 40 true, G 49 (.bin .leq (t 42) (t 48)) 40 true, O 50 (.pick (t 40) (t 49) (kb false)), mv 4 50])
 .ret))⟩
def f_ref21_Meet : VFn := ⟨2, [.tmp 4], (sq (.ops [O 2 (.box (t 0)), O 3 (.box (t 1)), O 4 (.mv (kb false))])
 (sq (.draw [A (fa 7 0 2), B (ld 8 7), A (fa 9 0 3), B (ld 10 9), A (O 11 (.mnmx true (t 8) [(t 10)])), A (fa 12 1 2), B (ld 13 12), A (fa 14 1 3), B (ld 15 14), A (O 16 (.mnmx true (t 13) [(t 15)])), A (mv 5 11), A (mv 6 16)])
 (sq (.ops [O 17 (.load (some 4) (t 2)), mv 18 5, mv 19 6, call 20 k_ref21_Covers [(t 17), (t 18), (t 19)], mv 21 20, G 22 (.load (some 4) (t 3)) 21 true, G 23 (.mv (t 5)) 21 true, G 24 (.mv (t 6)) 21 true, G 25 (.call (fu k_ref21_Covers) [(t 22), (t 23), (t 24)]) 21 true, O 26 (.pick (t 21) (t 25) (kb false)), mv 4 26])
 .ret)))⟩
def f_ref21_Around : VFn := ⟨3, [.cell 6 (some 4)], (sq (.ops [O 3 (.box (t 0)), O 6 (.alloc [z, z, z, z])])
 (sq (sq (.ops [O 7 (.mv (n 0))])
 (.block 0 (.loop [1, 2, 3, 6, 7] (sq (sq (.ops [mv 8 7, fa 9 4 3, ld 10 9, O 11 (.lenSl (t 10)), add 12 .lss (t 8) (t 11)])
 (.cond (t 12) .skip (.exit 0)))
 (sq (.block 1 (sq (.ops [fa 15 4 3, ld 16 15, mv 17 7, O 18 (.idxSl 4 (t 16) (t 17)), O 19 (.load (some 4) (t 18)), mv 20 1, mv 21 2, call 22 k_ref21_Covers [(t 19), (t 20), (t 21)]])
 (.cond (t 22) (sq (.ops [fa 23 4 3, ld 24 23, mv 25 7, O 26 (.idxSl 4 (t 24) (t 25)), O 27 (.load (some 4) (t 26)), N (.store 4 (t 6) (t 27))])
 .ret) .skip)))
 (.ops [mv 13 7, add 14 .add (t 13) (n 1), mv 7 14]))))))
 (sq (.ops [mv 28 1, mv 29 2, O 30 (.buildC [(1, (t 28)), (1, (t 29)), (1, (n 1)), (1, (n 1))]), N (.store 4 (t 6) (t 30))])
 .ret)))⟩
def f_view_now_scrolled : VFn := ⟨2, [.cell 4 (some 9), .tmp 5], (sq (.ops [O 2 (.box (t 0)), O 3 (.box (t 1)), O 4 (.alloc [z, .sn, .sn, .sn, .sn, z, z, z, z]), O 5 (.mv (n 0))])
 (sq (sq (.ops [fa 6 0 2, fa 7 7 6, ld 8 7, fa 9 4 3, ld 10 9, call 11 k_view_far [(t 8), (t 10)], mv 12 11, G 13 (.fieldAddr 0 (t 2)) 12 false, G 14 (.fieldAddr 8 (t 13)) 12 false, G 15 (.load none (t 14)) 12 false, G 16 (.fieldAddr 3 (t 3)) 12 false, G 17 (.load none (t 16)) 12 false, G 18 (.call (fu k_view_far) [(t 15), (t 17)]) 12 false, O 19 (.pick (t 12) (kb true) (t 18))])
 (.cond (t 19) (sq (.ops [O 20 (.load (some 9) (t 2)), N (.store 9 (t 4) (t 20)), O 5 (.mv (n 4))])
 .ret) .skip))
 (sq (.draw [A (fa 21 0 2), A (fa 22 7 21), B (ld 23 22), A (fa 24 4 3), B (ld 25 24), A (add 26 .add (t 23) (t 25)), A (fa 27 0 2), A (fa 28 8 27), B (ld 29 28), A (fa 30 3 3), B (ld 31 30), A (add 32 .add (t 29) (t 31)), A (fa 33 0 2), A (fa 34 7 33), ⟨N (.store 1 (t 34) (t 26)), 2, [10]⟩, A (fa 35 0 2), A (fa 36 8 35), C (N (.store 1 (t 36) (t 32)))])
 (sq (.ops [O 37 (.load (some 9) (t 2)), N (.store 9 (t 4) (t 37)), O 5 (.mv (n 0))])
 .ret))))⟩
def f_view_now_sized : VFn := ⟨2, [.cell 4 (some 9), .tmp 5], (sq (.ops [O 2 (.box (t 0)), O 3 (.box (t 1)), O 4 (.alloc [z, .sn, .sn, .sn, .sn, z, z, z, z]), O 5 (.mv (n 0))])
 (sq (.draw [A (fa 6 4 3), B (ld 7 6), A (fa 8 3 3), B (ld 9 8), A (fa 10 0 2), A (fa 11 5 10), ⟨N (.store 1 (t 11) (t 7)), 2, [3]⟩, A (fa 12 0 2), A (fa 13 6 12), C (N (.store 1 (t 13) (t 9)))])
 (sq (.draw [B (O 14 (.load (some 9) (t 2))), A (fa 15 0 2), B (O 16 (.load (some 9) (t 15))), B (call 17 k_grid_May [(t 16)]), C (N (.store 9 (t 4) (t 14))), A (mv 5 17)])
 .ret)))⟩
def f_view_now_edited : VFn := ⟨2, [.cell 4 (some 9), .tmp 5], (sq (.ops [O 2 (.box (t 0)), O 3 (.box (t 1)), O 4 (.alloc [z, .sn, .sn, .sn, .sn, z, z, z, z]), O 5 (.mv (n 0))])
 (sq (.ops [fa 9 0 2, fa 10 0 9, O 11 (.load (some 5) (t 10)), O 12 (.load (some 11) (t 3)), call 13 k_edit_Do [(t 11), (t 12)], mv 8 13, O 14 (.extract (t 8) 0), O 15 (.extract (t 8) 1), O 6 (.alloc [z, .sn, .sn, .sn, .sn]), N (.store 5 (t 6) (t 14)), mv 7 15])
 (sq (.ops [O 16 (.load (some 5) (t 6)), fa 17 0 2, fa 18 0 17, N (.store 5 (t 18) (t 16))])
 (sq (.ops [O 19 (.load (some 9) (t 2)), mv 20 7, N (.store 9 (t 4) (t 19)), mv 5 20])
 .ret))))⟩
def f_slices_Clone_Lint_int : VFn := ⟨1, [.tmp 2], (sq (.ops [O 2 (.mv (.const (.slice none 0 0)))])
 (sq (sq (.ops [mv 3 0, O 4 (.isNil 1 false (t 3))])
 (.cond (t 4) (sq (.ops [O 2 (.mv (.const (.slice none 0 0)))])
 .ret) .skip))
 (sq (.ops [O 5 (.bsliceC 1 0 []), mv 6 0, O 7 (.append false [z] 1 8 (t 5) (t 6)), mv 2 7])
 .ret)))⟩
def f_slices_Clone_LCell_Cell : VFn := ⟨1, [.tmp 2], (sq (.ops [O 2 (.mv (.const (.slice none 0 0)))])
 (sq (sq (.ops [mv 3 0, O 4 (.isNil 1 false (t 3))])
 (.cond (t 4) (sq (.ops [O 2 (.mv (.const (.slice none 0 0)))])
 .ret) .skip))
 (sq (.ops [O 5 (.bsliceC 6 0 []), mv 6 0, O 7 (.append false [z, z, (.s []), z, z, z] 6 56 (t 5) (t 6)), mv 2 7])
 .ret)))⟩
def f_slices_Clone_LRect_Rect : VFn := ⟨1, [.tmp 2], (sq (.ops [O 2 (.mv (.const (.slice none 0 0)))])
 (sq (sq (.ops [mv 3 0, O 4 (.isNil 1 false (t 3))])
 (.cond (t 4) (sq (.ops [O 2 (.mv (.const (.slice none 0 0)))])
 .ret) .skip))
 (sq (.ops [O 5 (.bsliceC 4 0 []), mv 6 0, O 7 (.append false [z, z, z, z] 4 32 (t 5) (t 6)), mv 2 7])
 .ret)))⟩
def f_axis_Back : VFn := ⟨4, [.tmp 8], (sq (.ops [O 8 (.mv (.const (.complex .f64 0 0)))])
 (sq (sq (.ops [mv 9 3, add 10 .eql (t 9) (n 1)])
 (.cond (t 10) (.ops [mv 11 0, mv 12 2, call 13 k_axis_mirrored [(t 11), (t 12)], mv 0 13]) .skip))
 (sq (.ops [mv 14 0, mv 15 1, add 16 .add (t 14) (t 15), mv 8 16])
 .ret)))⟩
def f_p_grid_screen_slot : VFn := ⟨3, [.cell 6 (some 6)], (sq (.ops [O 6 (.alloc [z, z, z, z, z, z])])
 (sq (.ops [mv 16 0, O 17 (.nilCheck (t 16)), fa 18 0 17, fa 19 0 18, O 20 (.load (some 5) (t 19)), mv 21 1, mv 22 2, call 23 k_edge_Arms [(t 20), (t 21), (t 22)], mv 15 23, O 24 (.extract (t 15) 0), O 25 (.extract (t 15) 1), mv 7 24, mv 8 25])
 (sq (.block 0 (sq (.ops [mv 27 8, add 28 .neq (t 27) (n 0), mv 26 28])
 (.cond (t 26) (sq (.ops [O 29 (.build [z, z, z, z, z, z] []), N (.store 6 (t 6) (t 29))])
 .ret) (sq (.ops [mv 31 7, add 32 .gtr (t 31) (n 0), mv 30 32])
 (.cond (t 30) (sq (.ops [mv 33 0, mv 34 7, call 35 k_p_grid_screen_border [(t 33), (t 34)], N (.store 6 (t 6) (t 35))])
 .ret) .skip)))))
 (sq (.ops [mv 37 0, O 38 (.nilCheck (t 37)), fa 39 0 38, fa 40 0 39, fa 41 1 40, ld 42 41, mv 43 1, call 44 k_axis_Find [(t 42), (t 43)], mv 36 44, O 45 (.extract (t 36) 0), O 46 (.extract (t 36) 1), mv 9 45, mv 10 46])
 (sq (.ops [mv 48 0, O 49 (.nilCheck (t 48)), fa 50 0 49, fa 51 0 50, fa 52 2 51, ld 53 52, mv 54 2, call 55 k_axis_Find [(t 53), (t 54)], mv 47 55, O 56 (.extract (t 47) 0), O 57 (.extract (t 47) 1), mv 11 56, mv 12 57])
 (sq (.ops [mv 59 0, O 60 (.nilCheck (t 59)), fa 61 0 60, fa 62 0 61, O 63 (.load (some 5) (t 62)), mv 64 11, mv 65 9, call 66 k_sheet_Region [(t 63), (t 64), (t 65)], mv 58 66, O 67 (.extract (t 58) 0), O 68 (.extract (t 58) 1), O 13 (.alloc [z, z, z, z]), N (.store 4 (t 13) (t 67)), mv 14 68])
 (sq (.ops [mv 69 0, O 70 (.load (some 4) (t 13)), mv 71 1, mv 72 2, call 73 k_p_grid_screen_inside [(t 69), (t 70), (t 71), (t 72)], N (.store 6 (t 6) (t 73))])
 .ret)))))))⟩
def f_sheet_limits_1 : VFn := ⟨1, [.tmp 2], (sq (.ops [O 1 (.box (t 0)), O 2 (.mv (kb false))])
 (sq (.ops [fa 3 2 1, ld 4 3, O 5 (.lenStr (t 4)), add 6 .gtr (t 5) (n 1024), mv 2 6])
 .ret))⟩
def f_sheet_over : VFn := ⟨3, [.tmp 6], (sq (.ops [O 5 (.box (t 2)), O 6 (.mv (kb false))])
 (sq (.ops [mv 7 0, O 8 (.lenSl (t 7)), mv 9 1, add 10 .gtr (t 8) (t 9), mv 11 10, G 12 (.mv (t 0)) 11 false, G 13 (.mkFunc (.func k_sheet_over_1) [] [(t 5)]) 11 false, G 14 (.call (fu k_slices_ContainsFunc_Lint_int) [(t 12), (t 13)]) 11 false, O 15 (.pick (t 11) (kb true) (t 14)), mv 6 15])
 .ret))⟩
def f_sheet_sizes : VFn := ⟨1, [.tmp 2], (sq (.ops [O 2 (.mv (kb false))])
 (sq (.ops [mv 3 0, O 4 (.lenSl (t 3)), add 5 .gtr (t 4) (n 0), mv 6 5, G 7 (.mv (t 0)) 6 true, G 8 (.call (fu k_slices_Min_Lint_int) [(t 7)]) 6 true, G 9 (.bin .geq (t 8) (n 1)) 6 true, O 10 (.pick (t 6) (t 9) (kb false)), mv 2 10])
 .ret))⟩
def f_sheet_rise_Cell : VFn := ⟨2, [.tmp 4], (sq (.ops [O 4 (.mv (kb false))])
 (sq (sq (.ops [O 5 (.mv (n 1))])
 (.block 0 (.loop [0, 1, 5] (sq (sq (.ops [mv 6 5, mv 7 0, O 8 (.lenSl (t 7)), add 9 .lss (t 6) (t 8)])
 (.cond (t 9) .skip (.exit 0)))
 (sq (.block 1 (sq (.draw [A (mv 12 1), A (mv 13 0), A (mv 14 5), A (add 15 .sub (t 14) (n 1)), A (O 16 (.idxSl 6 (t 13) (t 15))), B (O 17 (.load (some 6) (t 16))), B (O 18 (.call (t 12) [(t 17)])), A (mv 19 1), A (mv 20 0), A (mv 21 5), A (O 22 (.idxSl 6 (t 20) (t 21))), B (O 23 (.load (some 6) (t 22))), C (O 24 (.call (t 19) [(t 23)])), C (call 25 k_sheet_ahead [(t 18), (t 24)]), A (O 26 (.un .not (t 25)))])
 (.cond (t 26) (sq (.ops [O 4 (.mv (kb false))])
 .ret) .skip)))
 (.ops [mv 10 5, add 11 .add (t 10) (n 1), mv 5 11]))))))
 (sq (.ops [O 4 (.mv (kb true))])
 .ret)))⟩
def f_sheet_rise_Rect : VFn := ⟨2, [.tmp 4], (sq (.ops [O 4 (.mv (kb false))])
 (sq (sq (.ops [O 5 (.mv (n 1))])
 (.block 0 (.loop [0, 1, 5] (sq (sq (.ops [mv 6 5, mv 7 0, O 8 (.lenSl (t 7)), add 9 .lss (t 6) (t 8)])
 (.cond (t 9) .skip (.exit 0)))
 (sq (.block 1 (sq (.draw [A (mv 12 1), A (mv 13 0), A (mv 14 5), A (add 15 .sub (t 14) (n 1)), A (O 16 (.idxSl 4 (t 13) (t 15))), B (O 17 (.load (some 4) (t 16))), B (O 18 (.call (t 12) [(t 17)])), A (mv 19 1), A (mv 20 0), A (mv 21 5), A (O 22 (.idxSl 4 (t 20) (t 21))), B (O 23 (.load (some 4) (t 22))), C (O 24 (.call (t 19) [(t 23)])), C (call 25 k_sheet_ahead [(t 18), (t 24)]), A (O 26 (.un .not (t 25)))])
 (.cond (t 26) (sq (.ops [O 4 (.mv (kb false))])
 .ret) .skip)))
 (.ops [mv 10 5, add 11 .add (t 10) (n 1), mv 5 11]))))))
 (sq (.ops [O 4 (.mv (kb true))])
 .ret)))⟩
def f_sheet_order_1 : VFn := ⟨1, [.tmp 2], (sq (.ops [O 1 (.box (t 0)), O 2 (.mv (kb false))])
 (sq (.ops [fa 3 3 1, O 4 (.load (some 3) (t 3)), call 5 k_sheet_styled [(t 4)], O 6 (.un .not (t 5)), mv 7 6, G 8 (.fieldAddr 2 (t 1)) 7 false, G 9 (.load none (t 8)) 7 false, G 10 (.bin .eql (t 9) (.const (.string ⟨⟨[]⟩⟩))) 7 false, G 11 (.mv (t 10)) 7 false, G 12 (.fieldAddr 3 (t 1)) 11 true, G 13 (.fieldAddr 0 (t 12)) 11 true, G 14 (.load none (t 13)) 11 true, G 15 (.fieldAddr 3 (t 1)) 11 true, G 16 (.fieldAddr 1 (t 15)) 11 true, G 17 (.load none (t 16)) 11 true, G 18 (.fieldAddr 3 (t 1)) 11 true, G 19 (.fieldAddr 2 (t 18)) 11 true, G 20 (.load none (t 19)) 11 true, G 21 (.buildC [(1, (t 14)), (1, (t 17)), (1, (t 20))]) 11 true, G 22 (.build [z, z, z] []) 11 true, G 23 (.eqAg false [.i, .i, .i] (t 21) (t 22)) 11 true, G 24 (.pick (t 11) (t 23) (kb false)) 7 false, O 25 (.pick (t 7) (kb true) (t 24)), mv 2 25])
 .ret))⟩
def f_sheet_styled : VFn := ⟨1, [.tmp 2], (sq (.ops [O 1 (.box (t 0)), O 2 (.mv (kb false))])
 (sq (.ops [fa 3 0 1, ld 4 3, add 5 .geq (t 4) (n 0), mv 6 5, G 7 (.fieldAddr 0 (t 1)) 6 true, G 8 (.load none (t 7)) 6 true, G 9 (.bin .leq (t 8) (n 4)) 6 true, O 10 (.pick (t 6) (t 9) (kb false)), mv 11 10, G 12 (.fieldAddr 1 (t 1)) 11 true, G 13 (.load none (t 12)) 11 true, G 14 (.bin .geq (t 13) (n 0)) 11 true, O 15 (.pick (t 11) (t 14) (kb false)), mv 16 15, G 17 (.fieldAddr 1 (t 1)) 16 true, G 18 (.load none (t 17)) 16 true, G 19 (.bin .leq (t 18) (n 1)) 16 true, O 20 (.pick (t 16) (t 19) (kb false)), mv 21 20, G 22 (.fieldAddr 2 (t 1)) 21 true, G 23 (.load none (t 22)) 21 true, G 24 (.bin .geq (t 23) (n 0)) 21 true, O 25 (.pick (t 21) (t 24) (kb false)), mv 26 25, G 27 (.fieldAddr 2 (t 1)) 26 true, G 28 (.load none (t 27)) 26 true, G 29 (.bin .leq (t 28) (n 3)) 26 true, O 30 (.pick (t 26) (t 29) (kb false)), mv 2 30])
 .ret))⟩
def f_sheet_order_2 : VFn := ⟨1, [.tmp 2], (sq (.ops [O 1 (.box (t 0)), O 2 (.mv (kb false))])
 (sq (.ops [fa 3 2 1, ld 4 3, add 5 .lss (t 4) (n 1), mv 6 5, G 7 (.fieldAddr 3 (t 1)) 6 false, G 8 (.load none (t 7)) 6 false, G 9 (.bin .lss (t 8) (n 1)) 6 false, O 10 (.pick (t 6) (kb true) (t 9)), mv 11 10, G 12 (.fieldAddr 2 (t 1)) 11 false, G 13 (.load none (t 12)) 11 false, G 14 (.bin .eql (t 13) (n 1)) 11 false, G 15 (.mv (t 14)) 11 false, G 16 (.fieldAddr 3 (t 1)) 15 true, G 17 (.load none (t 16)) 15 true, G 18 (.bin .eql (t 17) (n 1)) 15 true, G 19 (.pick (t 15) (t 18) (kb false)) 11 false, O 20 (.pick (t 11) (kb true) (t 19)), mv 2 20])
 .ret))⟩
def f_slices_IndexFunc_LCell_Cell : VFn := ⟨2, [.tmp 4], (sq (.ops [O 4 (.mv (n 0))])
 (sq (sq (.ops [mv 6 0, O 7 (.lenSl (t 6)), O 8 (.mv (n 0))])
 (.block 0 (.loop [0, 1, 7, 8] (sq (.ops [add 9 .lss (t 8) (t 7)])
 (sq (.cond (t 9) .skip (.exit 0))
 (sq (.block 1 (sq (.ops [mv 10 8, mv 5 10])
 (sq (.ops [mv 11 1, mv 12 0, mv 13 5, O 14 (.idxSl 6 (t 12) (t 13)), O 15 (.load (some 6) (t 14)), O 16 (.call (t 11) [(t 15)])])
 (.cond (t 16) (sq (.ops [mv 17 5, mv 4 17])
 .ret) .skip))))
 (.ops [add 18 .add (t 8) (n 1), mv 8 18])))))))
 (sq (.ops [O 4 (.mv (.const (.int .i64 (.negSucc 0))))])
 .ret)))⟩
def f_slices_IndexFunc_LRect_Rect : VFn := ⟨2, [.tmp 4], (sq (.ops [O 4 (.mv (n 0))])
 (sq (sq (.ops [mv 6 0, O 7 (.lenSl (t 6)), O 8 (.mv (n 0))])
 (.block 0 (.loop [0, 1, 7, 8] (sq (.ops [add 9 .lss (t 8) (t 7)])
 (sq (.cond (t 9) .skip (.exit 0))
 (sq (.block 1 (sq (.ops [mv 10 8, mv 5 10])
 (sq (.ops [mv 11 1, mv 12 0, mv 13 5, O 14 (.idxSl 4 (t 12) (t 13)), O 15 (.load (some 4) (t 14)), O 16 (.call (t 11) [(t 15)])])
 (.cond (t 16) (sq (.ops [mv 17 5, mv 4 17])
 .ret) .skip))))
 (.ops [add 18 .add (t 8) (n 1), mv 8 18])))))))
 (sq (.ops [O 4 (.mv (.const (.int .i64 (.negSucc 0))))])
 .ret)))⟩
def f_sheet_share : VFn := ⟨4, [.tmp 8], (sq (.ops [O 8 (.mv (kb false))])
 (sq (sq (.ops [mv 9 1, add 10 .lss (t 9) (n 1), mv 11 10, G 12 (.mv (t 3)) 11 false, G 13 (.bin .lss (t 12) (n 1)) 11 false, O 14 (.pick (t 11) (kb true) (t 13))])
 (.cond (t 14) (sq (.ops [O 8 (.mv (kb false))])
 .ret) .skip))
 (sq (sq (.ops [mv 15 0, mv 16 2, add 17 .gtr (t 15) (t 16)])
 (.cond (t 17) (.ops [mv 18 2, mv 19 3, mv 20 0, mv 21 1, mv 0 18, mv 1 19, mv 2 20, mv 3 21]) .skip))
 (sq (.ops [mv 22 2, O 23 (.toInt .u64 (t 22)), mv 24 0, O 25 (.toInt .u64 (t 24)), add 26 .sub (t 23) (t 25), mv 27 1, O 28 (.toInt .u64 (t 27)), add 29 .lss (t 26) (t 28), mv 8 29])
 .ret))))⟩
def f_sheet_around_1 : VFn := ⟨3, [.tmp 4], (sq (.ops [O 3 (.box (t 0)), O 4 (.mv (kb false))])
 (sq (.draw [B (O 5 (.load (some 4) (t 3))), B (ld 6 1), B (ld 7 2), B (call 8 k_sheet_one [(t 6), (t 7)]), C (call 9 k_sheet_Meet [(t 5), (t 8)]), A (mv 4 9)])
 .ret))⟩
def f_ref21_ahead : VFn := ⟨4, [.tmp 8], (sq (.ops [O 8 (.mv (kb false))])
 (sq (.ops [mv 9 0, mv 10 2, add 11 .lss (t 9) (t 10), mv 12 11, G 13 (.mv (t 0)) 12 false, G 14 (.mv (t 2)) 12 false, G 15 (.bin .eql (t 13) (t 14)) 12 false, G 16 (.mv (t 15)) 12 false, G 17 (.mv (t 1)) 16 true, G 18 (.mv (t 3)) 16 true, G 19 (.bin .lss (t 17) (t 18)) 16 true, G 20 (.pick (t 16) (t 19) (kb false)) 12 false, O 21 (.pick (t 12) (kb true) (t 20)), mv 8 21])
 .ret))⟩
def f_ref21_Styled : VFn := ⟨1, [.tmp 2], (sq (.ops [O 1 (.box (t 0)), O 2 (.mv (kb false))])
 (sq (.ops [fa 3 0 1, ld 4 3, add 5 .leq (n 0) (t 4), mv 6 5, G 7 (.fieldAddr 0 (t 1)) 6 true, G 8 (.load none (t 7)) 6 true, G 9 (.bin .lss (t 8) (n 5)) 6 true, O 10 (.pick (t 6) (t 9) (kb false)), mv 11 10, G 12 (.fieldAddr 1 (t 1)) 11 true, G 13 (.load none (t 12)) 11 true, G 14 (.bin .eql (t 13) (n 0)) 11 true, G 15 (.mv (t 14)) 11 true, G 16 (.fieldAddr 1 (t 1)) 15 false, G 17 (.load none (t 16)) 15 false, G 18 (.bin .eql (t 17) (n 1)) 15 false, G 19 (.pick (t 15) (kb true) (t 18)) 11 true, O 20 (.pick (t 11) (t 19) (kb false)), mv 21 20, G 22 (.fieldAddr 2 (t 1)) 21 true, G 23 (.load none (t 22)) 21 true, G 24 (.bin .leq (n 0) (t 23)) 21 true, O 25 (.pick (t 21) (t 24) (kb false)), mv 26 25, G 27 (.fieldAddr 2 (t 1)) 26 true, G 28 (.load none (t 27)) 26 true, G 29 (.bin .lss (t 28) (n 4)) 26 true, O 30 (.pick (t 26) (t 29) (kb false)), mv 2 30])
 .ret))⟩
def f_ref21_Covers : VFn := ⟨3, [.tmp 6], (sq (.ops [O 3 (.box (t 0)), O 6 (.mv (kb false))])
 (sq (.ops [mv 7 1, fa 8 0 3, ld 9 8, fa 10 2 3, ld 11 10, call 12 k_ref21_in [(t 7), (t 9), (t 11)], mv 13 12, G 14 (.mv (t 2)) 13 true, G 15 (.fieldAddr 1 (t 3)) 13 true, G 16 (.load none (t 15)) 13 true, G 17 (.fieldAddr 3 (t 3)) 13 true, G 18 (.load none (t 17)) 13 true, G 19 (.call (fu k_ref21_in) [(t 14), (t 16), (t 18)]) 13 true, O 20 (.pick (t 13) (t 19) (kb false)), mv 6 20])
 .ret))⟩
def f_view_far : VFn := ⟨2, [.tmp 4], (sq (.ops [O 4 (.mv (kb false))])
 (sq (.ops [mv 5 1, add 6 .gtr (t 5) (n 65535), mv 7 6, G 8 (.mv (t 1)) 7 false, G 9 (.bin .lss (t 8) (.const (.int .i64 (.negSucc 65534)))) 7 false, O 10 (.pick (t 7) (kb true) (t 9)), mv 11 10, G 12 (.mv (t 0)) 11 false, G 13 (.mv (t 1)) 11 false, G 14 (.bin .add (t 12) (t 13)) 11 false, G 15 (.bin .lss (t 14) (n 0)) 11 false, O 16 (.pick (t 11) (kb true) (t 15)), mv 17 16, G 18 (.mv (t 0)) 17 false, G 19 (.mv (t 1)) 17 false, G 20 (.bin .add (t 18) (t 19)) 17 false, G 21 (.bin .gtr (t 20) (n 65535)) 17 false, O 22 (.pick (t 17) (kb true) (t 21)), mv 4 22])
 .ret))⟩
def f_edit_Do : VFn := ⟨2, [.cell 4 (some 5), .tmp 5], (sq (.ops [O 2 (.box (t 0)), O 3 (.box (t 1)), O 4 (.alloc [z, .sn, .sn, .sn, .sn]), O 5 (.mv (n 0))])
 (sq (.ops [O 10 (.load (some 5) (t 2)), call 11 k_sheet_Own [(t 10)], O 12 (.buildC [(5, (t 11))]), O 13 (.box (t 12)), mv 6 13])
 (sq (.draw [A (mv 15 6), B (call 16 k_p_edit_editor_does [(t 15)]), A (fa 17 0 3), B (ld 18 17), C (O 19 (.lookup false [.i] .fnn true (t 16) (t 18))), A (mv 14 19), A (O 20 (.extract (t 14) 0)), A (O 21 (.extract (t 14) 1)), A (mv 7 20), A (mv 8 21)])
 (sq (sq (.ops [O 22 (.load (some 5) (t 2)), call 23 k_sheet_Check [(t 22)], add 24 .neq (t 23) (n 0), mv 25 24, G 26 (.mv (t 8)) 25 false, G 27 (.un .not (t 26)) 25 false, O 28 (.pick (t 25) (kb true) (t 27))])
 (.cond (t 28) (sq (.ops [O 29 (.build [z, .sn, .sn, .sn, .sn] []), N (.store 5 (t 4) (t 29)), O 5 (.mv (n 1))])
 .ret) .skip))
 (sq (sq (.ops [mv 30 7, O 31 (.load (some 11) (t 3)), O 32 (.call (t 30) [(t 31)]), mv 9 32])
 (sq (.ops [mv 33 9, add 34 .neq (t 33) (n 0)])
 (.cond (t 34) (sq (.ops [O 35 (.build [z, .sn, .sn, .sn, .sn] []), mv 36 9, N (.store 5 (t 4) (t 35)), mv 5 36])
 .ret) .skip)))
 (sq (.ops [mv 37 6, O 38 (.nilCheck (t 37)), fa 39 0 38, O 40 (.load (some 5) (t 39)), N (.store 5 (t 4) (t 40)), O 5 (.mv (n 0))])
 .ret))))))⟩
def f_edge_Arms : VFn := ⟨3, [.tmp 6, .tmp 7], (sq (.ops [O 3 (.box (t 0)), O 6 (.mv (n 0)), O 7 (.mv (n 0))])
 (sq (sq (.ops [O 17 (.load (some 5) (t 3)), call 18 k_sheet_Check [(t 17)], mv 8 18])
 (sq (.ops [mv 19 8, add 20 .neq (t 19) (n 0)])
 (.cond (t 20) (sq (.ops [mv 21 8, O 6 (.mv (n 0)), mv 7 21])
 .ret) .skip)))
 (sq (.ops [fa 23 1 3, ld 24 23, mv 25 1, call 26 k_axis_Find [(t 24), (t 25)], mv 22 26, O 27 (.extract (t 22) 0), O 28 (.extract (t 22) 1), mv 9 27, mv 10 28])
 (sq (.ops [fa 30 2 3, ld 31 30, mv 32 2, call 33 k_axis_Find [(t 31), (t 32)], mv 29 33, O 34 (.extract (t 29) 0), O 35 (.extract (t 29) 1), mv 11 34, mv 12 35])
 (sq (sq (.ops [mv 36 9, add 37 .lss (t 36) (n 0), mv 38 37, G 39 (.mv (t 11)) 38 false, G 40 (.bin .lss (t 39) (n 0)) 38 false, O 41 (.pick (t 38) (kb true) (t 40))])
 (.cond (t 41) (sq (.ops [O 6 (.mv (n 0)), O 7 (.mv (n 4))])
 .ret) .skip))
 (sq (.ops [O 42 (.load (some 5) (t 3)), mv 43 9, mv 44 11, mv 45 10, add 46 .lss (t 45) (n 0), mv 47 12, add 48 .lss (t 47) (n 0), O 49 (.buildC [(5, (t 42)), (1, (t 43)), (1, (t 44)), (1, (t 46)), (1, (t 48))]), O 13 (.alloc [z, .sn, .sn, .sn, .sn, z, z, (.b false), (.b false)]), N (.store 9 (t 13) (t 49))])
 (sq (.ops [O 14 (.mv (n 0))])
 (sq (sq (.ops [call 50 k_edge_ways [], O 51 (.mv (n 0))])
 (.block 0 (.loop [13, 14, 50, 51] (sq (.ops [add 52 .lss (t 51) (n 4)])
 (sq (.cond (t 52) .skip (.exit 0))
 (sq (.block 1 (sq (.ops [mv 53 51, O 54 (.idxAg 4 1 none (t 50) (t 51)), mv 15 53, mv 16 54])
 (sq (.ops [O 55 (.load (some 9) (t 13)), mv 56 16, call 57 k_edge_spot_arm [(t 55), (t 56)]])
 (.cond (t 57) (.ops [mv 58 14, mv 59 15, add 60 .shl (n 1) (t 59), add 61 .or (t 58) (t 60), mv 14 61]) .skip))))
 (.ops [add 62 .add (t 51) (n 1), mv 51 62])))))))
 (sq (.ops [mv 63 14, mv 6 63, O 7 (.mv (n 0))])
 .ret)))))))))⟩
def f_p_grid_screen_border : VFn := ⟨2, [.cell 4 (some 6)], (sq (.ops [O 4 (.alloc [z, z, z, z, z, z])])
 (sq (sq (.ops [mv 5 0, O 6 (.nilCheck (t 5)), fa 7 0 6, fa 8 0 7, fa 9 0 8, ld 10 9, add 11 .eql (t 10) (n 1)])
 (.cond (t 11) (.ops [mv 12 1, call 13 k_edge_Turn [(t 12)], mv 1 13]) .skip))
 (sq (.ops [mv 14 1, call 15 k_edge_Glyph [(t 14)], O 16 (.build [z, z, z, z, z, z] [(0, 1, (n 1)), (5, 1, (t 15))]), N (.store 6 (t 4) (t 16))])
 .ret)))⟩
def f_axis_Find : VFn := ⟨2, [.tmp 4, .tmp 5], (sq (.ops [O 4 (.mv (n 0)), O 5 (.mv (n 0))])
 (sq (.ops [mv 9 0, call 10 k_axis_Starts [(t 9)], mv 6 10])
 (sq (sq (.ops [mv 11 1, add 12 .lss (t 11) (n 0), mv 13 12, G 14 (.mv (t 1)) 13 false, G 15 (.mv (t 6)) 13 false, G 16 (.mv (t 0)) 13 false, G 17 (.lenSl (t 16)) 13 false, G 18 (.idxSl 1 (t 15) (t 17)) 13 false, G 19 (.load none (t 18)) 13 false, G 20 (.bin .geq (t 14) (t 19)) 13 false, O 21 (.pick (t 13) (kb true) (t 20))])
 (.cond (t 21) (sq (.ops [O 4 (.mv (.const (.int .i64 (.negSucc 0)))), O 5 (.mv (.const (.int .i64 (.negSucc 0))))])
 .ret) .skip))
 (sq (.ops [mv 23 6, mv 24 1, add 25 .add (t 24) (n 1), call 26 k_slices_BinarySearch_Lint_int [(t 23), (t 25)], mv 22 26, O 27 (.extract (t 22) 0), O 28 (.extract (t 22) 1), mv 7 27, mv 8 28])
 (.block 0 (sq (.ops [mv 39 6, mv 40 7, O 41 (.idxSl 1 (t 39) (t 40)), ld 42 41, mv 43 1, add 44 .add (t 43) (n 1), add 45 .eql (t 42) (t 44), mv 38 45])
 (.cond (t 38) (sq (.ops [mv 46 7, mv 4 46, O 5 (.mv (.const (.int .i64 (.negSucc 0))))])
 .ret) (sq (.draw [A (mv 29 7), A (add 30 .sub (t 29) (n 1)), A (mv 31 1), A (mv 32 6), A (mv 33 7), A (add 34 .sub (t 33) (n 1)), A (O 35 (.idxSl 1 (t 32) (t 34))), B (ld 36 35), A (add 37 .sub (t 31) (t 36)), A (mv 4 30), A (mv 5 37)])
 .ret))))))))⟩
def f_sheet_Region : VFn := ⟨3, [.cell 6 (some 4), .tmp 7], (sq (.ops [O 3 (.box (t 0)), O 6 (.alloc [z, z, z, z]), O 7 (.mv (n 0))])
 (sq (.block 0 (sq (.ops [O 9 (.load (some 5) (t 3)), call 10 k_sheet_Check [(t 9)], add 11 .neq (t 10) (n 0), mv 8 11])
 (.cond (t 8) (sq (.ops [O 12 (.build [z, z, z, z] []), N (.store 4 (t 6) (t 12)), O 7 (.mv (n 1))])
 .ret) (sq (.draw [B (O 14 (.load (some 5) (t 3))), A (mv 15 1), A (mv 16 2), B (call 17 k_sheet_one [(t 15), (t 16)]), C (call 18 k_sheet_has [(t 14), (t 17)]), A (O 19 (.un .not (t 18))), A (mv 13 19)])
 (.cond (t 13) (sq (.ops [O 20 (.build [z, z, z, z] []), N (.store 4 (t 6) (t 20)), O 7 (.mv (n 4))])
 .ret) .skip)))))
 (sq (.ops [O 21 (.load (some 5) (t 3)), mv 22 1, mv 23 2, call 24 k_sheet_around [(t 21), (t 22), (t 23)], N (.store 4 (t 6) (t 24)), O 7 (.mv (n 0))])
 .ret)))⟩
def f_p_grid_screen_inside : VFn := ⟨4, [.cell 8 (some 6)], (sq (.ops [O 5 (.box (t 1)), O 8 (.alloc [z, z, z, z, z, z])])
 (sq (.ops [mv 12 0, O 13 (.load (some 4) (t 5)), call 14 k_p_grid_screen_layout [(t 12), (t 13)], O 9 (.alloc [z, z, z, z, z, z, z, .sn]), N (.store 8 (t 9) (t 14))])
 (sq (.ops [mv 15 2, fa 16 4 9, ld 17 16, add 18 .sub (t 15) (t 17), mv 10 18])
 (sq (sq (.ops [mv 19 0, O 20 (.nilCheck (t 19)), fa 21 0 20, fa 22 0 21, fa 23 0 22, ld 24 23, add 25 .eql (t 24) (n 1)])
 (.cond (t 25) (.ops [fa 26 6 9, ld 27 26, add 28 .sub (t 27) (n 1), mv 29 10, add 30 .sub (t 28) (t 29), mv 10 30]) .skip))
 (sq (.ops [fa 31 7 9, ld 32 31, mv 33 3, fa 34 5 9, ld 35 34, add 36 .sub (t 33) (t 35), fa 37 6 9, ld 38 37, add 39 .mul (t 36) (t 38), mv 40 10, add 41 .add (t 39) (t 40), O 42 (.idxSl 6 (t 32) (t 41)), O 43 (.load (some 6) (t 42)), O 11 (.alloc [z, z, z, z, z, z]), N (.store 6 (t 11) (t 43))])
 (sq (.draw [A (fa 44 0 9), A (fa 45 0 44), B (ld 46 45), A (fa 47 0 9), A (fa 48 1 47), B (ld 49 48), A (fa 50 1 11), ⟨N (.store 1 (t 50) (t 46)), 2, [5]⟩, A (fa 51 2 11), C (N (.store 1 (t 51) (t 49)))])
 (sq (.ops [O 52 (.load (some 6) (t 11)), N (.store 6 (t 8) (t 52))])
 .ret)))))))⟩
def f_slices_ContainsFunc_Lint_int : VFn := ⟨2, [.tmp 4], (sq (.ops [O 4 (.mv (kb false))])
 (sq (.ops [mv 5 0, mv 6 1, call 7 k_slices_IndexFunc_Lint_int [(t 5), (t 6)], add 8 .geq (t 7) (n 0), mv 4 8])
 .ret))⟩
def f_sheet_over_1 : VFn := ⟨2, [.tmp 3], (sq (.ops [O 3 (.mv (kb false))])
 (sq (.ops [mv 4 0, ld 5 1, add 6 .gtr (t 4) (t 5), mv 3 6])
 .ret))⟩
def f_slices_Min_Lint_int : VFn := ⟨1, [.tmp 2], (sq (.ops [O 2 (.mv (n 0))])
 (sq (sq (.ops [mv 5 0, O 6 (.lenSl (t 5)), add 7 .lss (t 6) (n 1)])
 (.cond (t 7) (.ops [O 8 (.mkIface 9 (.const (.string ⟨⟨[115, 108, 105, 99, 101, 115, 46, 77, 105, 110, 58, 32, 101, 109, 112, 116, 121, 32, 108, 105, 115, 116]⟩⟩))), N (.die)]) .skip))
 (sq (.ops [mv 9 0, O 10 (.idxSl 1 (t 9) (n 0)), ld 11 10, mv 3 11])
 (sq (sq (.ops [O 4 (.mv (n 1))])
 (.block 0 (.loop [0, 3, 4] (sq (sq (.ops [mv 12 4, mv 13 0, O 14 (.lenSl (t 13)), add 15 .lss (t 12) (t 14)])
 (.cond (t 15) .skip (.exit 0)))
 (sq (.block 1 (.ops [mv 18 3, mv 19 0, mv 20 4, O 21 (.idxSl 1 (t 19) (t 20)), ld 22 21, O 23 (.mnmx false (t 18) [(t 22)]), mv 3 23]))
 (.ops [mv 16 4, add 17 .add (t 16) (n 1), mv 4 17]))))))
 (sq (.ops [mv 24 3, mv 2 24])
 .ret)))))⟩
def f_sheet_ahead : VFn := ⟨2, [.tmp 4], (sq (.ops [O 2 (.box (t 0)), O 3 (.box (t 1)), O 4 (.mv (kb false))])
 (sq (.draw [B (O 5 (.slArr 2 1 (t 2) none none none)), B (O 6 (.slArr 2 1 (t 3) none none none)), C (call 7 k_slices_Compare_Lint_int [(t 5), (t 6)]), A (add 8 .lss (t 7) (n 0)), A (mv 4 8)])
 .ret))⟩
def f_ref21_in : VFn := ⟨3, [.tmp 6], (sq (.ops [O 6 (.mv (kb false))])
 (sq (sq (.ops [mv 7 2, add 8 .lss (t 7) (n 1), mv 9 8, G 10 (.mv (t 0)) 9 false, G 11 (.mv (t 1)) 9 false, G 12 (.bin .lss (t 10) (t 11)) 9 false, O 13 (.pick (t 9) (kb true) (t 12))])
 (.cond (t 13) (sq (.ops [O 6 (.mv (kb false))])
 .ret) .skip))
 (sq (sq (.ops [mv 14 1, add 15 .lss (t 14) (n 0)])
 (.cond (t 15) (sq (.ops [mv 16 0, mv 17 1, mv 18 2, add 19 .add (t 17) (t 18), add 20 .lss (t 16) (t 19), mv 6 20])
 .ret) .skip))
 (sq (.ops [mv 21 0, mv 22 1, add 23 .sub (t 21) (t 22), mv 24 2, add 25 .lss (t 23) (t 24), mv 6 25])
 .ret))))⟩
def f_p_edit_editor_does : VFn := ⟨1, [.tmp 2], (sq (.ops [O 2 (.mv (.const (.map none)))])
 (sq (.ops [O 3 (.mkMap), mv 4 0, O 5 (.mkFunc (.func k_p_edit_editor_set) [(t 4)] []), N (.mapSet false [.i] (t 3) (n 1) (t 5)), mv 6 0, O 7 (.mkFunc (.func k_p_edit_editor_style) [(t 6)] []), N (.mapSet false [.i] (t 3) (n 2) (t 7)), mv 8 0, O 9 (.mkFunc (.func k_p_edit_editor_merge) [(t 8)] []), N (.mapSet false [.i] (t 3) (n 3) (t 9)), mv 10 0, O 11 (.mkFunc (.func k_p_edit_editor_unmerge) [(t 10)] []), N (.mapSet false [.i] (t 3) (n 4) (t 11)), mv 12 0, O 13 (.mkFunc (.func k_p_edit_editor_insertRows) [(t 12)] []), N (.mapSet false [.i] (t 3) (n 5) (t 13)), mv 14 0, O 15 (.mkFunc (.func k_p_edit_editor_deleteRows) [(t 14)] []), N (.mapSet false [.i] (t 3) (n 6) (t 15)), mv 16 0, O 17 (.mkFunc (.func k_p_edit_editor_insertCols) [(t 16)] []), N (.mapSet false [.i] (t 3) (n 7) (t 17)), mv 18 0, O 19 (.mkFunc (.func k_p_edit_editor_deleteCols) [(t 18)] []), N (.mapSet false [.i] (t 3) (n 8) (t 19)), mv 20 0, O 21 (.mkFunc (.func k_p_edit_editor_high) [(t 20)] []), N (.mapSet false [.i] (t 3) (n 9) (t 21)), mv 22 0, O 23 (.mkFunc (.func k_p_edit_editor_wide) [(t 22)] []), N (.mapSet false [.i] (t 3) (n 10) (t 23)), mv 24 0, O 25 (.mkFunc (.func k_p_edit_editor_flip) [(t 24)] []), N (.mapSet false [.i] (t 3) (n 11) (t 25)), mv 26 3, mv 2 26])
 .ret))⟩
def f_axis_point : VFn := ⟨2, [.tmp 4], (sq (.ops [O 4 (.mv (.const (.complex .f64 0 0)))])
 (sq (.ops [mv 5 0, O 6 (.toFloat .f64 (t 5)), mv 7 1, O 8 (.toFloat .f64 (t 7)), O 9 (.complex (t 6) (t 8)), mv 4 9])
 .ret))⟩
def f_edge_ways : VFn := ⟨0, [.cell 0 (some 4)], (sq (.ops [O 0 (.alloc [(.c .f64 0 0), (.c .f64 0 0), (.c .f64 0 0), (.c .f64 0 0)])])
 (sq (.ops [O 1 (.buildC [(1, (.const (.complex .f64 4607182418800017408 0))), (1, (.const (.complex .f64 0 4607182418800017408))), (1, (.const (.complex .f64 13830554455654793216 0))), (1, (.const (.complex .f64 0 13830554455654793216)))]), N (.store 4 (t 0) (t 1))])
 .ret))⟩
def f_edge_spot_arm : VFn := ⟨2, [.tmp 4], (sq (.ops [O 2 (.box (t 0)), O 4 (.mv (kb false))])
 (sq (.draw [A (fa 7 6 2), B (ld 8 7), A (fa 9 5 2), B (ld 10 9), A (mv 5 8), A (mv 6 10)])
 (sq (.block 0 (sq (.ops [mv 12 1, O 13 (.real (t 12)), add 14 .neq (t 13) (.const (.float .f64 0)), mv 15 14, G 16 (.fieldAddr 7 (t 2)) 15 true, G 17 (.load none (t 16)) 15 true, O 18 (.pick (t 15) (t 17) (kb false)), mv 11 18])
 (.cond (t 11) (sq (.ops [mv 19 6, mv 20 1, O 21 (.real (t 20)), O 22 (.toInt .i64 (t 21)), O 23 (.mnmx false (t 22) [(n 0)]), add 24 .add (t 19) (t 23), mv 6 24])
 (sq (.ops [fa 25 8 2, ld 26 25, mv 27 26, G 28 (.load (some 9) (t 2)) 27 true, G 29 (.mv (t 5)) 27 true, G 30 (.bin .sub (t 29) (n 1)) 27 true, G 31 (.mv (t 6)) 27 true, G 32 (.mv (t 5)) 27 true, G 33 (.mv (t 6)) 27 true, G 34 (.call (fu k_edge_spot_parts) [(t 28), (t 30), (t 31), (t 32), (t 33)]) 27 true, O 35 (.pick (t 27) (t 34) (kb false)), mv 4 35])
 .ret)) (sq (.ops [mv 37 1, O 38 (.real (t 37)), add 39 .neq (t 38) (.const (.float .f64 0)), mv 36 39])
 (.cond (t 36) (sq (.ops [fa 40 8 2, ld 41 40, mv 42 41, G 43 (.load (some 9) (t 2)) 42 true, G 44 (.mv (t 5)) 42 true, G 45 (.bin .sub (t 44) (n 1)) 42 true, G 46 (.mv (t 6)) 42 true, G 47 (.mv (t 5)) 42 true, G 48 (.mv (t 6)) 42 true, G 49 (.call (fu k_edge_spot_parts) [(t 43), (t 45), (t 46), (t 47), (t 48)]) 42 true, O 50 (.pick (t 42) (t 49) (kb false)), mv 4 50])
 .ret) (sq (.ops [fa 52 8 2, ld 53 52, mv 51 53])
 (.cond (t 51) (.ops [mv 54 5, mv 55 1, O 56 (.imag (t 55)), O 57 (.toInt .i64 (t 56)), O 58 (.mnmx false (t 57) [(n 0)]), add 59 .add (t 54) (t 58), mv 5 59]) .skip)))))))
 (sq (.ops [fa 60 7 2, ld 61 60, mv 62 61, G 63 (.load (some 9) (t 2)) 62 true, G 64 (.mv (t 5)) 62 true, G 65 (.mv (t 6)) 62 true, G 66 (.bin .sub (t 65) (n 1)) 62 true, G 67 (.mv (t 5)) 62 true, G 68 (.mv (t 6)) 62 true, G 69 (.call (fu k_edge_spot_parts) [(t 63), (t 64), (t 66), (t 67), (t 68)]) 62 true, O 70 (.pick (t 62) (t 69) (kb false)), mv 4 70])
 .ret))))⟩
def f_edge_Glyph : VFn := ⟨1, [.tmp 2], (sq (.ops [O 2 (.mv (n 0))])
 (sq (.ops [call 4 k_edge_signs [], O 3 (.alloc [(.i .i32 (.ofNat 0)), (.i .i32 (.ofNat 0)), (.i .i32 (.ofNat 0)), (.i .i32 (.ofNat 0)), (.i .i32 (.ofNat 0)), (.i .i32 (.ofNat 0)), (.i .i32 (.ofNat 0)), (.i .i32 (.ofNat 0)), (.i .i32 (.ofNat 0)), (.i .i32 (.ofNat 0)), (.i .i32 (.ofNat 0)), (.i .i32 (.ofNat 0)), (.i .i32 (.ofNat 0)), (.i .i32 (.ofNat 0)), (.i .i32 (.ofNat 0)), (.i .i32 (.ofNat 0))]), N (.store 16 (t 3) (t 4))])
 (sq (.ops [mv 5 0, add 6 .and (t 5) (n 15), O 7 (.idxArr 16 1 (t 3) (t 6)), ld 8 7, O 9 (.toInt .i64 (t 8)), mv 2 9])
 .ret)))⟩
def f_axis_Starts : VFn := ⟨1, [.tmp 2], (sq (.ops [O 2 (.mv (.const (.slice none 0 0)))])
 (sq (.ops [O 6 (.bsliceC 1 1 [(1, (n 1))]), mv 3 6])
 (sq (sq (.ops [mv 7 0, O 8 (.lenSl (t 7)), O 9 (.mv (n 0))])
 (.block 0 (.loop [3, 7, 8, 9] (sq (.ops [add 10 .lss (t 9) (t 8)])
 (sq (.cond (t 10) .skip (.exit 0))
 (sq (.block 1 (sq (.ops [mv 11 9, O 12 (.idxSl 1 (t 7) (t 9)), ld 13 12, mv 4 11, mv 5 13])
 (.draw [A (mv 14 3), A (mv 15 3), A (mv 16 4), A (O 17 (.idxSl 1 (t 15) (t 16))), B (ld 18 17), A (mv 19 5), B (call 20 k_axis_cut [(t 19)]), A (add 21 .add (t 18) (t 20)), A (add 22 .add (t 21) (n 1)), B (O 23 (.bsliceC 1 1 [(1, (t 22))])), C (O 24 (.append false [z] 1 8 (t 14) (t 23))), A (mv 3 24)])))
 (.ops [add 25 .add (t 9) (n 1), mv 9 25])))))))
 (sq (.ops [mv 26 3, mv 2 26])
 .ret))))⟩
def f_slices_BinarySearch_Lint_int : VFn := ⟨2, [.tmp 4, .tmp 5], (sq (.ops [O 4 (.mv (n 0)), O 5 (.mv (kb false))])
 (sq (.ops [mv 10 0, O 11 (.lenSl (t 10)), mv 6 11])
 (sq (.ops [mv 12 6, O 7 (.mv (n 0)), mv 8 12])
 (sq (.block 0 (.loop [0, 1, 6, 7, 8] (sq (sq (.ops [mv 13 7, mv 14 8, add 15 .lss (t 13) (t 14)])
 (.cond (t 15) .skip (.exit 0)))
 (.block 1 (sq (.ops [mv 16 7, mv 17 8, add 18 .add (t 16) (t 17), O 19 (.toInt .u64 (t 18)), add 20 .shr (t 19) (.const (.int .u64 (.ofNat 1))), O 21 (.toInt .i64 (t 20)), mv 9 21])
 (sq (.ops [mv 22 0, mv 23 9, O 24 (.idxSl 1 (t 22) (t 23)), ld 25 24, mv 26 1, call 27 k_cmp_Less_int [(t 25), (t 26)]])
 (.cond (t 27) (.ops [mv 28 9, add 29 .add (t 28) (n 1), mv 7 29]) (.ops [mv 30 9, mv 8 30]))))))))
 (sq (.ops [mv 31 7, mv 32 7, mv 33 6, add 34 .lss (t 32) (t 33), mv 35 34, G 36 (.mv (t 0)) 35 true, G 37 (.mv (t 7)) 35 true, G 38 (.idxSl 1 (t 36) (t 37)) 35 true, G 39 (.load none (t 38)) 35 true, G 40 (.mv (t 1)) 35 true, G 41 (.bin .eql (t 39) (t 40)) 35 true, G 42 (.mv (t 41)) 35 true, G 43 (.mv (t 0)) 42 false, G 44 (.mv (t 7)) 42 false, G 45 (.idxSl 1 (t 43) (t 44)) 42 false, G 46 (.load none (t 45)) 42 false, G 47 (.call (fu k_slices_isNaN_int) [(t 46)]) 42 false, G 48 (.mv (t 47)) 42 false, G 49 (.mv (t 1)) 48 true, G 50 (.call (fu k_slices_isNaN_int) [(t 49)]) 48 true, G 51 (.pick (t 48) (t 50) (kb false)) 42 false, G 52 (.pick (t 42) (kb true) (t 51)) 35 true, O 53 (.pick (t 35) (t 52) (kb false)), mv 4 31, mv 5 53])
 .ret)))))⟩
def f_p_grid_screen_layout : VFn := ⟨2, [.cell 4 (some 8)], (sq (.ops [O 3 (.box (t 1)), O 4 (.alloc [z, z, z, z, z, z, z, .sn])])
 (sq (sq (.draw [A (mv 15 0), A (O 16 (.nilCheck (t 15))), A (fa 17 9 16), B (ld 18 17), B (O 19 (.load (some 4) (t 3))), B (O 20 (.lookup true [.i, .i, .i, .i] (.ag [z, z, z, z, z, z, z, .sn]) true (t 18) (t 19))), A (mv 14 20), A (O 21 (.extract (t 14) 0)), A (O 22 (.extract (t 14) 1)), B (O 5 (.alloc [z, z, z, z, z, z, z, .sn])), C (N (.store 8 (t 5) (t 21))), A (mv 6 22)])
 (sq (.ops [mv 23 6])
 (.cond (t 23) (sq (.ops [O 24 (.load (some 8) (t 5)), N (.store 8 (t 4) (t 24))])
 .ret) .skip)))
 (sq (.draw [A (mv 26 0), A (O 27 (.nilCheck (t 26))), A (fa 28 0 27), A (fa 29 0 28), A (fa 30 1 29), B (ld 31 30), A (mv 32 0), A (O 33 (.nilCheck (t 32))), A (fa 34 0 33), A (fa 35 0 34), A (fa 36 2 35), B (ld 37 36), B (O 38 (.load (some 4) (t 3))), C (call 39 k_axis_Corner [(t 31), (t 37), (t 38)]), A (mv 25 39), A (O 40 (.extract (t 25) 0)), A (O 41 (.extract (t 25) 1)), A (mv 7 40), A (mv 8 41)])
 (sq (.draw [A (mv 43 0), A (O 44 (.nilCheck (t 43))), A (fa 45 0 44), A (fa 46 0 45), A (fa 47 1 46), B (ld 48 47), A (mv 49 0), A (O 50 (.nilCheck (t 49))), A (fa 51 0 50), A (fa 52 0 51), A (fa 53 2 52), B (ld 54 53), B (O 55 (.load (some 4) (t 3))), C (call 56 k_axis_Size [(t 48), (t 54), (t 55)]), A (mv 42 56), A (O 57 (.extract (t 42) 0)), A (O 58 (.extract (t 42) 1)), A (mv 9 57), A (mv 10 58)])
 (sq (.draw [A (mv 60 0), A (O 61 (.nilCheck (t 60))), A (fa 62 0 61), A (fa 63 0 62), B (O 64 (.load (some 5) (t 63))), A (fa 65 0 3), B (ld 66 65), A (fa 67 1 3), B (ld 68 67), B (call 69 k_sheet_Get [(t 64), (t 66), (t 68)]), A (mv 59 69), A (O 70 (.extract (t 59) 0)), A (O 71 (.extract (t 59) 1)), B (O 11 (.alloc [z, z, (.s []), z, z, z])), C (N (.store 6 (t 11) (t 70))), A (mv 12 71)])
 (sq (.ops [O 72 (.load (some 4) (t 3)), mv 73 7, O 74 (.real (t 73)), O 75 (.toInt .i64 (t 74)), mv 76 7, O 77 (.imag (t 76)), O 78 (.toInt .i64 (t 77)), mv 79 9, O 80 (.real (t 79)), O 81 (.toInt .i64 (t 80)), O 82 (.build [z, z, z, z, z, z, z, .sn] [(0, 4, (t 72)), (4, 1, (t 75)), (5, 1, (t 78)), (6, 1, (t 81))]), O 13 (.alloc [z, z, z, z, z, z, z, .sn]), N (.store 8 (t 13) (t 82))])
 (sq (.draw [A (fa 84 2 11), B (ld 85 84), A (fa 86 3 11), B (O 87 (.load (some 3) (t 86))), A (mv 88 0), A (O 89 (.nilCheck (t 88))), A (fa 90 0 89), A (fa 91 0 90), A (fa 92 0 91), B (ld 93 92), A (fa 94 6 13), B (ld 95 94), A (mv 96 9), A (O 97 (.imag (t 96))), A (O 98 (.toInt .i64 (t 97))), C (call 99 k_cell_Layout [(t 85), (t 87), (t 93), (t 95), (t 98)]), A (mv 83 99), A (O 100 (.extract (t 83) 0)), A (O 101 (.extract (t 83) 1)), A (fa 102 7 13), C (N (.store 1 (t 102) (t 100)))])
 (sq (.draw [A (mv 103 0), A (O 104 (.nilCheck (t 103))), A (fa 105 9 104), B (ld 106 105), B (O 107 (.load (some 4) (t 3))), B (O 108 (.load (some 8) (t 13))), C (N (.mapSet true [.i, .i, .i, .i] (t 106) (t 107) (t 108)))])
 (sq (.ops [O 109 (.load (some 8) (t 13)), N (.store 8 (t 4) (t 109))])
 .ret)))))))))⟩
def f_slices_IndexFunc_Lint_int : VFn := ⟨2, [.tmp 4], (sq (.ops [O 4 (.mv (n 0))])
 (sq (sq (.ops [mv 6 0, O 7 (.lenSl (t 6)), O 8 (.mv (n 0))])
 (.block 0 (.loop [0, 1, 7, 8] (sq (.ops [add 9 .lss (t 8) (t 7)])
 (sq (.cond (t 9) .skip (.exit 0))
 (sq (.block 1 (sq (.ops [mv 10 8, mv 5 10])
 (sq (.ops [mv 11 1, mv 12 0, mv 13 5, O 14 (.idxSl 1 (t 12) (t 13)), ld 15 14, O 16 (.call (t 11) [(t 15)])])
 (.cond (t 16) (sq (.ops [mv 17 5, mv 4 17])
 .ret) .skip))))
 (.ops [add 18 .add (t 8) (n 1), mv 8 18])))))))
 (sq (.ops [O 4 (.mv (.const (.int .i64 (.negSucc 0))))])
 .ret)))⟩
def f_slices_Compare_Lint_int : VFn := ⟨2, [.tmp 4], (sq (.ops [O 4 (.mv (n 0))])
 (sq (sq (.ops [mv 9 0, O 10 (.lenSl (t 9)), O 11 (.mv (n 0))])
 (.block 0 (.loop [0, 1, 9, 10, 11] (sq (.ops [add 12 .lss (t 11) (t 10)])
 (sq (.cond (t 12) .skip (.exit 0))
 (sq (.block 1 (sq (.ops [mv 13 11, O 14 (.idxSl 1 (t 9) (t 11)), ld 15 14, mv 5 13, mv 6 15])
 (sq (sq (.ops [mv 16 5, mv 17 1, O 18 (.lenSl (t 17)), add 19 .geq (t 16) (t 18)])
 (.cond (t 19) (sq (.ops [O 4 (.mv (n 1))])
 .ret) .skip))
 (sq (.ops [mv 20 1, mv 21 5, O 22 (.idxSl 1 (t 20) (t 21)), ld 23 22, mv 7 23])
 (sq (.ops [mv 24 6, mv 25 7, call 26 k_cmp_Compare_int [(t 24), (t 25)], mv 8 26])
 (sq (.ops [mv 27 8, add 28 .neq (t 27) (n 0)])
 (.cond (t 28) (sq (.ops [mv 29 8, mv 4 29])
 .ret) .skip)))))))
 (.ops [add 30 .add (t 11) (n 1), mv 11 30])))))))
 (sq (sq (.ops [mv 31 0, O 32 (.lenSl (t 31)), mv 33 1, O 34 (.lenSl (t 33)), add 35 .lss (t 32) (t 34)])
 (.cond (t 35) (sq (.ops [O 4 (.mv (.const (.int .i64 (.negSucc 0))))])
 .ret) .skip))
 (sq (.ops [O 4 (.mv (n 0))])
 .ret))))⟩
def f_p_edit_editor_set : VFn := ⟨2, [.tmp 4], (sq (.ops [O 3 (.box (t 1)), O 4 (.mv (n 0))])
 (sq (sq (.ops [mv 8 0, fa 9 1 3, ld 10 9, fa 11 2 3, ld 12 11, call 13 k_p_edit_editor_here [(t 8), (t 10), (t 12)], mv 5 13])
 (sq (.ops [mv 14 5, add 15 .neq (t 14) (n 0)])
 (.cond (t 15) (sq (.ops [mv 16 5, mv 4 16])
 .ret) .skip)))
 (sq (sq (.ops [fa 17 7 3, ld 18 17, O 19 (.lenStr (t 18)), add 20 .gtr (t 19) (n 1024)])
 (.cond (t 20) (sq (.ops [O 4 (.mv (n 3))])
 .ret) .skip))
 (sq (.draw [A (mv 22 0), A (O 23 (.nilCheck (t 22))), A (fa 24 0 23), B (O 25 (.load (some 5) (t 24))), A (fa 26 1 3), B (ld 27 26), A (fa 28 2 3), B (ld 29 28), B (call 30 k_sheet_Get [(t 25), (t 27), (t 29)]), A (mv 21 30), A (O 31 (.extract (t 21) 0)), A (O 32 (.extract (t 21) 1)), B (O 6 (.alloc [z, z, (.s []), z, z, z])), C (N (.store 6 (t 6) (t 31))), A (mv 7 32)])
 (sq (.ops [fa 33 7 3, ld 34 33, fa 35 2 6, N (.store 1 (t 35) (t 34))])
 (sq (.ops [mv 36 0, O 37 (.load (some 6) (t 6)), call 38 k_p_edit_editor_lay [(t 36), (t 37)]])
 (sq (.ops [O 4 (.mv (n 0))])
 .ret)))))))⟩
def f_edge_spot_parts : VFn := ⟨5, [.tmp 10], (sq (.ops [O 5 (.box (t 0)), O 10 (.mv (kb false))])
 (sq (.ops [O 16 (.load (some 9) (t 5)), mv 17 1, mv 18 2, call 19 k_edge_spot_region [(t 16), (t 17), (t 18)], mv 15 19, O 20 (.extract (t 15) 0), O 21 (.extract (t 15) 1), O 11 (.alloc [z, z, z, z]), N (.store 4 (t 11) (t 20)), mv 12 21])
 (sq (.ops [O 23 (.load (some 9) (t 5)), mv 24 3, mv 25 4, call 26 k_edge_spot_region [(t 23), (t 24), (t 25)], mv 22 26, O 27 (.extract (t 22) 0), O 28 (.extract (t 22) 1), O 13 (.alloc [z, z, z, z]), N (.store 4 (t 13) (t 27)), mv 14 28])
 (sq (.ops [mv 29 12, mv 30 29, G 31 (.mv (t 14)) 30 false, O 32 (.pick (t 30) (kb true) (t 31)), mv 33 32, G 34 (.load (some 4) (t 11)) 33 true, G 35 (.load (some 4) (t 13)) 33 true, G 36 (.eqAg true [.i, .i, .i, .i] (t 34) (t 35)) 33 true, O 37 (.pick (t 33) (t 36) (kb false)), mv 10 37])
 .ret))))⟩
def f_edge_signs : VFn := ⟨0, [.cell 0 (some 16)], (sq (.ops [O 0 (.alloc [(.i .i32 (.ofNat 0)), (.i .i32 (.ofNat 0)), (.i .i32 (.ofNat 0)), (.i .i32 (.ofNat 0)), (.i .i32 (.ofNat 0)), (.i .i32 (.ofNat 0)), (.i .i32 (.ofNat 0)), (.i .i32 (.ofNat 0)), (.i .i32 (.ofNat 0)), (.i .i32 (.ofNat 0)), (.i .i32 (.ofNat 0)), (.i .i32 (.ofNat 0)), (.i .i32 (.ofNat 0)), (.i .i32 (.ofNat 0)), (.i .i32 (.ofNat 0)), (.i .i32 (.ofNat 0))])])
 (sq (.ops [O 1 (.buildC [(1, (.const (.int .i32 (.ofNat 0)))), (1, (.const (.int .i32 (.ofNat 9590)))), (1, (.const (.int .i32 (.ofNat 9591)))), (1, (.const (.int .i32 (.ofNat 9484)))), (1, (.const (.int .i32 (.ofNat 9588)))), (1, (.const (.int .i32 (.ofNat 9472)))), (1, (.const (.int .i32 (.ofNat 9488)))), (1, (.const (.int .i32 (.ofNat 9516)))), (1, (.const (.int .i32 (.ofNat 9589)))), (1, (.const (.int .i32 (.ofNat 9492)))), (1, (.const (.int .i32 (.ofNat 9474)))), (1, (.const (.int .i32 (.ofNat 9500)))), (1, (.const (.int .i32 (.ofNat 9496)))), (1, (.const (.int .i32 (.ofNat 9524)))), (1, (.const (.int .i32 (.ofNat 9508)))), (1, (.const (.int .i32 (.ofNat 9532))))]), N (.store 16 (t 0) (t 1))])
 .ret))⟩
def f_axis_cut : VFn := ⟨1, [.tmp 2], (sq (.ops [O 2 (.mv (n 0))])
 (sq (.ops [mv 3 0, O 4 (.mnmx true (t 3) [(n 1)]), O 5 (.mnmx false (t 4) [(n 60)]), mv 2 5])
 .ret))⟩
def f_cmp_Less_int : VFn := ⟨2, [.tmp 4], (sq (.ops [O 4 (.mv (kb false))])
 (sq (.ops [mv 5 0, call 6 k_cmp_isNaN_int [(t 5)], mv 7 6, G 8 (.mv (t 1)) 7 true, G 9 (.call (fu k_cmp_isNaN_int) [(t 8)]) 7 true, G 10 (.un .not (t 9)) 7 true, O 11 (.pick (t 7) (t 10) (kb false)), mv 12 11, G 13 (.mv (t 0)) 12 false, G 14 (.mv (t 1)) 12 false, G 15 (.bin .lss (t 13) (t 14)) 12 false, O 16 (.pick (t 12) (kb true) (t 15)), mv 4 16])
 .ret))⟩
def f_slices_isNaN_int : VFn := ⟨1, [.tmp 2], (sq (.ops [O 2 (.mv (kb false))])
 (sq (.ops [mv 3 0, mv 4 0, add 5 .neq (t 3) (t 4), mv 2 5])
 .ret))⟩
def f_axis_Corner : VFn := ⟨3, [.tmp 6, .tmp 7], (sq (.ops [O 5 (.box (t 2)), O 6 (.mv (.const (.complex .f64 0 0))), O 7 (.mv (n 0))])
 (sq (sq (.ops [mv 8 0, mv 9 1, O 10 (.load (some 4) (t 5)), call 11 k_axis_within [(t 8), (t 9), (t 10)], O 12 (.un .not (t 11))])
 (.cond (t 12) (sq (.ops [O 6 (.mv (.const (.complex .f64 0 0))), O 7 (.mv (n 4))])
 .ret) .skip))
 (sq (.draw [A (mv 13 0), B (call 14 k_axis_Starts [(t 13)]), A (fa 15 1 5), B (ld 16 15), A (O 17 (.idxSl 1 (t 14) (t 16))), B (ld 18 17), A (mv 19 1), B (call 20 k_axis_Starts [(t 19)]), A (fa 21 0 5), B (ld 22 21), A (O 23 (.idxSl 1 (t 20) (t 22))), B (ld 24 23), C (call 25 k_axis_point [(t 18), (t 24)]), A (mv 6 25), A (O 7 (.mv (n 0)))])
 .ret)))⟩
def f_axis_Size : VFn := ⟨3, [.tmp 6, .tmp 7], (sq (.ops [O 5 (.box (t 2)), O 6 (.mv (.const (.complex .f64 0 0))), O 7 (.mv (n 0))])
 (sq (.ops [mv 12 0, mv 13 1, O 14 (.load (some 4) (t 5)), call 15 k_axis_Corner [(t 12), (t 13), (t 14)], mv 11 15, O 16 (.extract (t 11) 0), O 17 (.extract (t 11) 1), mv 8 16, mv 9 17])
 (sq (sq (.ops [mv 18 9, add 19 .neq (t 18) (n 0)])
 (.cond (t 19) (sq (.ops [mv 20 9, O 6 (.mv (.const (.complex .f64 0 0))), mv 7 20])
 .ret) .skip))
 (sq (.draw [A (mv 21 0), B (call 22 k_axis_Starts [(t 21)]), A (fa 23 1 5), B (ld 24 23), A (fa 25 3 5), B (ld 26 25), A (add 27 .add (t 24) (t 26)), A (O 28 (.idxSl 1 (t 22) (t 27))), B (ld 29 28), A (mv 30 1), B (call 31 k_axis_Starts [(t 30)]), A (fa 32 0 5), B (ld 33 32), A (fa 34 2 5), B (ld 35 34), A (add 36 .add (t 33) (t 35)), A (O 37 (.idxSl 1 (t 31) (t 36))), B (ld 38 37), C (call 39 k_axis_point [(t 29), (t 38)]), A (mv 10 39)])
 (sq (.ops [mv 40 10, mv 41 8, add 42 .sub (t 40) (t 41), call 43 k_axis_point [(n 1), (n 1)], add 44 .sub (t 42) (t 43), mv 6 44, O 7 (.mv (n 0))])
 .ret)))))⟩
def f_sheet_Get : VFn := ⟨3, [.cell 6 (some 6), .tmp 7], (sq (.ops [O 3 (.box (t 0)), O 6 (.alloc [z, z, (.s []), z, z, z]), O 7 (.mv (n 0))])
 (sq (.ops [O 12 (.load (some 5) (t 3)), mv 13 1, mv 14 2, call 15 k_sheet_Region [(t 12), (t 13), (t 14)], mv 11 15, O 16 (.extract (t 11) 0), O 17 (.extract (t 11) 1), O 8 (.alloc [z, z, z, z]), N (.store 4 (t 8) (t 16)), mv 9 17])
 (sq (sq (.ops [mv 18 9, add 19 .neq (t 18) (n 0)])
 (.cond (t 19) (sq (.ops [O 20 (.build [z, z, (.s []), z, z, z] []), mv 21 9, N (.store 6 (t 6) (t 20)), mv 7 21])
 .ret) .skip))
 (sq (.ops [fa 22 3 3, ld 23 22, O 24 (.mkFunc (.func k_sheet_Get_1) [] [(t 8)]), call 25 k_slices_IndexFunc_LCell_Cell [(t 23), (t 24)], mv 10 25])
 (sq (sq (.ops [mv 26 10, add 27 .lss (t 26) (n 0)])
 (.cond (t 27) (sq (.ops [fa 28 0 8, ld 29 28, fa 30 1 8, ld 31 30, O 32 (.build [z, z, (.s []), z, z, z] [(0, 1, (t 29)), (1, 1, (t 31))]), N (.store 6 (t 6) (t 32)), O 7 (.mv (n 0))])
 .ret) .skip))
 (sq (.ops [fa 33 3 3, ld 34 33, mv 35 10, O 36 (.idxSl 6 (t 34) (t 35)), O 37 (.load (some 6) (t 36)), N (.store 6 (t 6) (t 37)), O 7 (.mv (n 0))])
 .ret))))))⟩
def f_cell_Layout : VFn := ⟨5, [.tmp 10, .tmp 11], (sq (.ops [O 6 (.box (t 1)), O 10 (.mv (.const (.slice none 0 0))), O 11 (.mv (n 0))])
 (sq (.block 0 (sq (.ops [O 23 (.load (some 3) (t 6)), mv 24 2, mv 25 3, mv 26 4, call 27 k_cell_may [(t 23), (t 24), (t 25), (t 26)], O 28 (.un .not (t 27)), mv 22 28])
 (.cond (t 22) (sq (.ops [O 10 (.mv (.const (.slice none 0 0))), O 11 (.mv (n 1))])
 .ret) (sq (.ops [mv 30 0, O 31 (.lenStr (t 30)), add 32 .gtr (t 31) (n 1024), mv 29 32])
 (.cond (t 29) (sq (.ops [O 10 (.mv (.const (.slice none 0 0))), O 11 (.mv (n 3))])
 .ret) .skip)))))
 (sq (.ops [mv 33 0, O 34 (.load (some 3) (t 6)), mv 35 2, mv 36 3, call 37 k_cell_lines [(t 33), (t 34), (t 35), (t 36)], mv 12 37])
 (sq (.ops [O 13 (.mv (.const (.slice none 0 0)))])
 (sq (sq (.ops [mv 38 12, mv 39 12, O 40 (.lenSl (t 39)), mv 41 4, O 42 (.mnmx false (t 40) [(t 41)]), O 43 (.slSl 6 (t 38) none (some (t 42)) none), O 44 (.lenSl (t 43)), O 45 (.mv (n 0))])
 (.block 1 (.loop [2, 3, 4, 6, 12, 13, 43, 44, 45] (sq (.ops [add 46 .lss (t 45) (t 44)])
 (sq (.cond (t 46) .skip (.exit 1))
 (sq (.block 2 (sq (.ops [mv 47 45, O 48 (.idxSl 6 (t 43) (t 45)), O 49 (.load (some 6) (t 48)), O 15 (.alloc [z, z, z, z, z, .pn]), mv 14 47, N (.store 6 (t 15) (t 49))])
 (sq (.ops [O 16 (.mv (fu k_clip_Clip))])
 (sq (sq (.ops [mv 50 14, mv 51 4, add 52 .sub (t 51) (n 1), add 53 .eql (t 50) (t 52), mv 54 53, G 55 (.mv (t 12)) 54 true, G 56 (.lenSl (t 55)) 54 true, G 57 (.mv (t 4)) 54 true, G 58 (.bin .gtr (t 56) (t 57)) 54 true, O 59 (.pick (t 54) (t 58) (kb false))])
 (.cond (t 59) (.ops [O 16 (.mv (fu k_clip_Cut))]) .skip))
 (sq (.draw [A (mv 61 16), A (fa 62 5 15), B (ld 63 62), A (O 64 (.nilCheck (t 63))), A (fa 65 3 64), B (ld 66 65), A (fa 67 0 15), B (O 68 (.load (some 5) (t 67))), A (mv 69 3), B (O 70 (.call (t 61) [(t 66), (t 68), (t 69)])), A (mv 60 70), A (O 71 (.extract (t 60) 0)), A (O 72 (.extract (t 60) 1)), B (O 17 (.alloc [z, z, z, z, z])), C (N (.store 5 (t 17) (t 71))), A (mv 18 72)])
 (sq (.draw [A (fa 74 5 15), B (ld 75 74), A (O 76 (.nilCheck (t 75))), A (fa 77 0 76), B (ld 78 77), A (fa 79 5 15), B (ld 80 79), A (O 81 (.nilCheck (t 80))), A (fa 82 1 81), B (ld 83 82), B (O 84 (.load (some 5) (t 17))), A (fa 85 5 15), B (ld 86 85), A (O 87 (.nilCheck (t 86))), A (fa 88 2 87), B (ld 89 88), A (mv 90 3), A (fa 91 0 6), B (ld 92 91), A (mv 93 2), B (call 94 k_cell_side [(t 92), (t 93)]), C (call 95 k_place_Slots [(t 78), (t 83), (t 84), (t 89), (t 90), (t 94)]), A (mv 73 95), A (O 96 (.extract (t 73) 0)), A (O 97 (.extract (t 73) 1)), A (mv 19 96), A (mv 20 97)])
 (.ops [mv 98 13, mv 99 19, O 100 (.append false [z, z, z, z, z, z] 6 48 (t 98) (t 99)), mv 13 100])))))))
 (.ops [add 101 .add (t 45) (n 1), mv 45 101])))))))
 (sq (.ops [O 102 (.build [z, z, z, z, z, z] [(0, 1, (n 2))]), O 103 (.bsliceC 6 1 [(6, (t 102))]), mv 21 103])
 (sq (.ops [mv 104 13, mv 105 21, mv 106 3, mv 107 4, add 108 .mul (t 106) (t 107), mv 109 13, O 110 (.lenSl (t 109)), add 111 .sub (t 108) (t 110), call 112 k_slices_Repeat_LSlot_Slot [(t 105), (t 111)], O 113 (.append false [z, z, z, z, z, z] 6 48 (t 104) (t 112)), mv 10 113, O 11 (.mv (n 0))])
 .ret)))))))⟩
def f_cmp_Compare_int : VFn := ⟨2, [.tmp 4], (sq (.ops [O 4 (.mv (n 0))])
 (sq (.ops [mv 7 0, call 8 k_cmp_isNaN_int [(t 7)], mv 5 8])
 (sq (.ops [mv 9 1, call 10 k_cmp_isNaN_int [(t 9)], mv 6 10])
 (sq (sq (.ops [mv 11 5])
 (.cond (t 11) (sq (sq (.ops [mv 12 6])
 (.cond (t 12) (sq (.ops [O 4 (.mv (n 0))])
 .ret) .skip))
 (sq (.ops [O 4 (.mv (.const (.int .i64 (.negSucc 0))))])
 .ret)) .skip))
 (sq (sq (.ops [mv 13 6])
 (.cond (t 13) (sq (.ops [O 4 (.mv (n 1))])
 .ret) .skip))
 (sq (sq (.ops [mv 14 0, mv 15 1, add 16 .lss (t 14) (t 15)])
 (.cond (t 16) (sq (.ops [O 4 (.mv (.const (.int .i64 (.negSucc 0))))])
 .ret) .skip))
 (sq (sq (.ops [mv 17 0, mv 18 1, add 19 .gtr (t 17) (t 18)])
 (.cond (t 19) (sq (.ops [O 4 (.mv (n 1))])
 .ret) .skip))
 (sq (.ops [O 4 (.mv (n 0))])
 .ret))))))))⟩
def f_p_edit_editor_here : VFn := ⟨3, [.tmp 6], (sq (.ops [O 6 (.mv (n 0))])
 (sq (.ops [mv 10 0, O 11 (.nilCheck (t 10)), fa 12 0 11, O 13 (.load (some 5) (t 12)), mv 14 1, mv 15 2, call 16 k_sheet_Region [(t 13), (t 14), (t 15)], mv 9 16, O 17 (.extract (t 9) 0), O 18 (.extract (t 9) 1), O 7 (.alloc [z, z, z, z]), N (.store 4 (t 7) (t 17)), mv 8 18])
 (sq (sq (.ops [mv 19 8, add 20 .eql (t 19) (n 0), mv 21 20, G 22 (.fieldAddr 0 (t 7)) 21 true, G 23 (.load none (t 22)) 21 true, G 24 (.mv (t 1)) 21 true, G 25 (.bin .neq (t 23) (t 24)) 21 true, G 26 (.mv (t 25)) 21 true, G 27 (.fieldAddr 1 (t 7)) 26 false, G 28 (.load none (t 27)) 26 false, G 29 (.mv (t 2)) 26 false, G 30 (.bin .neq (t 28) (t 29)) 26 false, G 31 (.pick (t 26) (kb true) (t 30)) 21 true, O 32 (.pick (t 21) (t 31) (kb false))])
 (.cond (t 32) (sq (.ops [O 6 (.mv (n 6))])
 .ret) .skip))
 (sq (.ops [mv 33 8, mv 6 33])
 .ret))))⟩
def f_p_edit_editor_lay : VFn := ⟨2, [], (sq (.ops [O 3 (.box (t 1))])
 (sq (.draw [A (mv 7 0), A (O 8 (.nilCheck (t 7))), A (fa 9 0 8), A (fa 10 3 9), B (ld 11 10), B (O 12 (.load (some 6) (t 3))), C (call 13 k_slices_BinarySearchFunc_LCell_Cell_Cell [(t 11), (t 12), (fu k_p_edit_editor_lay_1)]), A (mv 6 13), A (O 14 (.extract (t 6) 0)), A (O 15 (.extract (t 6) 1)), A (mv 4 14), A (mv 5 15)])
 (sq (sq (.ops [mv 16 5])
 (.cond (t 16) (.ops [mv 17 0, mv 18 0, O 19 (.nilCheck (t 18)), fa 20 0 19, fa 21 3 20, ld 22 21, mv 23 4, mv 24 4, add 25 .add (t 24) (n 1), call 26 k_slices_Delete_LCell_Cell [(t 22), (t 23), (t 25)], O 27 (.nilCheck (t 17)), fa 28 0 27, fa 29 3 28, N (.store 1 (t 29) (t 26))]) .skip))
 (sq (.ops [fa 30 2 3, ld 31 30, add 32 .neq (t 31) (.const (.string ⟨⟨[]⟩⟩)), mv 33 32, G 34 (.fieldAddr 3 (t 3)) 33 false, G 35 (.load (some 3) (t 34)) 33 false, G 36 (.build [z, z, z] []) 33 false, G 37 (.eqAg true [.i, .i, .i] (t 35) (t 36)) 33 false, O 38 (.pick (t 33) (kb true) (t 37))])
 (.cond (t 38) (.draw [A (mv 39 0), A (mv 40 0), A (O 41 (.nilCheck (t 40))), A (fa 42 0 41), A (fa 43 3 42), B (ld 44 43), A (mv 45 4), B (O 46 (.load (some 6) (t 3))), B (O 47 (.bsliceC 6 1 [(6, (t 46))])), C (call 48 k_slices_Insert_LCell_Cell [(t 44), (t 45), (t 47)]), A (O 49 (.nilCheck (t 39))), A (fa 50 0 49), A (fa 51 3 50), C (N (.store 1 (t 51) (t 48)))]) .skip)))))⟩
def f_edge_spot_region : VFn := ⟨3, [.cell 6 (some 4), .tmp 7], (sq (.ops [O 3 (.box (t 0)), O 6 (.alloc [z, z, z, z]), O 7 (.mv (kb false))])
 (sq (.ops [fa 11 0 3, O 12 (.load (some 5) (t 11)), mv 13 1, mv 14 2, call 15 k_sheet_Region [(t 12), (t 13), (t 14)], mv 10 15, O 16 (.extract (t 10) 0), O 17 (.extract (t 10) 1), O 8 (.alloc [z, z, z, z]), N (.store 4 (t 8) (t 16)), mv 9 17])
 (sq (.ops [O 18 (.load (some 4) (t 8)), mv 19 9, add 20 .eql (t 19) (n 0), N (.store 4 (t 6) (t 18)), mv 7 20])
 .ret)))⟩
def f_cmp_isNaN_int : VFn := ⟨1, [.tmp 2], (sq (.ops [O 2 (.mv (kb false))])
 (sq (.ops [mv 3 0, mv 4 0, add 5 .neq (t 3) (t 4), mv 2 5])
 .ret))⟩
def f_axis_within : VFn := ⟨3, [.tmp 6], (sq (.ops [O 5 (.box (t 2)), O 6 (.mv (kb false))])
 (sq (.ops [fa 8 0 5, ld 9 8, add 10 .geq (t 9) (n 0), mv 11 10, G 12 (.fieldAddr 2 (t 5)) 11 true, G 13 (.load none (t 12)) 11 true, G 14 (.bin .geq (t 13) (n 1)) 11 true, O 15 (.pick (t 11) (t 14) (kb false)), mv 16 15, G 17 (.fieldAddr 0 (t 5)) 16 true, G 18 (.load none (t 17)) 16 true, G 19 (.mv (t 1)) 16 true, G 20 (.lenSl (t 19)) 16 true, G 21 (.bin .lss (t 18) (t 20)) 16 true, O 22 (.pick (t 16) (t 21) (kb false)), mv 23 22, G 24 (.fieldAddr 2 (t 5)) 23 true, G 25 (.load none (t 24)) 23 true, G 26 (.mv (t 1)) 23 true, G 27 (.lenSl (t 26)) 23 true, G 28 (.fieldAddr 0 (t 5)) 23 true, G 29 (.load none (t 28)) 23 true, G 30 (.bin .sub (t 27) (t 29)) 23 true, G 31 (.bin .leq (t 25) (t 30)) 23 true, O 32 (.pick (t 23) (t 31) (kb false)), mv 7 32])
 (sq (.ops [mv 33 7, mv 34 33, G 35 (.fieldAddr 1 (t 5)) 34 true, G 36 (.load none (t 35)) 34 true, G 37 (.bin .geq (t 36) (n 0)) 34 true, O 38 (.pick (t 34) (t 37) (kb false)), mv 39 38, G 40 (.fieldAddr 3 (t 5)) 39 true, G 41 (.load none (t 40)) 39 true, G 42 (.bin .geq (t 41) (n 1)) 39 true, O 43 (.pick (t 39) (t 42) (kb false)), mv 44 43, G 45 (.fieldAddr 1 (t 5)) 44 true, G 46 (.load none (t 45)) 44 true, G 47 (.mv (t 0)) 44 true, G 48 (.lenSl (t 47)) 44 true, G 49 (.bin .lss (t 46) (t 48)) 44 true, O 50 (.pick (t 44) (t 49) (kb false)), mv 51 50, G 52 (.fieldAddr 3 (t 5)) 51 true, G 53 (.load none (t 52)) 51 true, G 54 (.mv (t 0)) 51 true, G 55 (.lenSl (t 54)) 51 true, G 56 (.fieldAddr 1 (t 5)) 51 true, G 57 (.load none (t 56)) 51 true, G 58 (.bin .sub (t 55) (t 57)) 51 true, G 59 (.bin .leq (t 53) (t 58)) 51 true, O 60 (.pick (t 51) (t 59) (kb false)), mv 6 60])
 .ret)))⟩
def f_sheet_Get_1 : VFn := ⟨2, [.tmp 3], (sq (.ops [O 2 (.box (t 0)), O 3 (.mv (kb false))])
 (sq (.draw [B (O 4 (.load (some 6) (t 2))), B (call 5 k_sheet_spot [(t 4)]), B (O 6 (.load (some 4) (t 1))), C (call 7 k_sheet_corner [(t 6)]), A (O 8 (.eqAg false [.i, .i] (t 5) (t 7))), A (mv 3 8)])
 .ret))⟩
def f_cell_may : VFn := ⟨4, [.tmp 8], (sq (.ops [O 4 (.box (t 0)), O 8 (.mv (kb false))])
 (sq (.ops [fa 10 0 4, ld 11 10, add 12 .geq (t 11) (n 0), mv 13 12, G 14 (.fieldAddr 0 (t 4)) 13 true, G 15 (.load none (t 14)) 13 true, G 16 (.bin .leq (t 15) (n 4)) 13 true, O 17 (.pick (t 13) (t 16) (kb false)), mv 18 17, G 19 (.fieldAddr 2 (t 4)) 18 true, G 20 (.load none (t 19)) 18 true, G 21 (.bin .geq (t 20) (n 0)) 18 true, O 22 (.pick (t 18) (t 21) (kb false)), mv 23 22, G 24 (.fieldAddr 2 (t 4)) 23 true, G 25 (.load none (t 24)) 23 true, G 26 (.bin .leq (t 25) (n 3)) 23 true, O 27 (.pick (t 23) (t 26) (kb false)), mv 9 27])
 (sq (.ops [mv 28 9, mv 29 28, G 30 (.fieldAddr 1 (t 4)) 29 true, G 31 (.load none (t 30)) 29 true, G 32 (.bin .andNot (t 31) (n 1)) 29 true, G 33 (.bin .eql (t 32) (n 0)) 29 true, O 34 (.pick (t 29) (t 33) (kb false)), mv 35 34, G 36 (.mv (t 1)) 35 true, G 37 (.bin .andNot (t 36) (n 1)) 35 true, G 38 (.bin .eql (t 37) (n 0)) 35 true, O 39 (.pick (t 35) (t 38) (kb false)), mv 40 39, G 41 (.mv (t 2)) 40 true, G 42 (.mv (t 3)) 40 true, G 43 (.mnmx false (t 41) [(t 42)]) 40 true, G 44 (.bin .geq (t 43) (n 1)) 40 true, O 45 (.pick (t 40) (t 44) (kb false)), mv 46 45, G 47 (.mv (t 2)) 46 true, G 48 (.mv (t 3)) 46 true, G 49 (.mnmx true (t 47) [(t 48)]) 46 true, G 50 (.bin .leq (t 49) (n 1024)) 46 true, O 51 (.pick (t 46) (t 50) (kb false)), mv 8 51])
 .ret)))⟩
def f_cell_lines : VFn := ⟨4, [.tmp 8], (sq (.ops [O 5 (.box (t 1)), O 8 (.mv (.const (.slice none 0 0)))])
 (sq (.ops [O 9 (.mv (.const (.slice none 0 0)))])
 (sq (.ops [mv 17 0, call 18 k_runes_Split [(t 17)], mv 10 18])
 (sq (.ops [O 11 (.mv (n 0))])
 (sq (sq (.ops [mv 19 10, call 20 k_base_Paragraphs [(t 19)], O 21 (.lenSl (t 20)), O 22 (.mv (n 0))])
 (.block 0 (.loop [2, 3, 5, 9, 10, 11, 20, 21, 22] (sq (.ops [add 23 .lss (t 22) (t 21)])
 (sq (.cond (t 23) .skip (.exit 0))
 (sq (.block 1 (sq (.ops [O 24 (.idxSl 1 (t 20) (t 22)), ld 25 24, mv 13 25])
 (sq (.draw [A (mv 26 10), A (mv 27 11), A (mv 28 13), A (O 29 (.slSl 3 (t 26) (some (t 27)) (some (t 28)) none)), A (mv 30 10), A (mv 31 11), A (mv 32 13), A (O 33 (.slSl 3 (t 30) (some (t 31)) (some (t 32)) none)), C (call 34 k_cluster_Of [(t 33)]), A (O 35 (.build [.sn, .sn, z, .sn] [(0, 1, (t 29)), (3, 1, (t 34))])), B (O 36 (.box (t 35))), A (mv 14 36)])
 (sq (.draw [A (mv 37 14), A (mv 38 14), A (O 39 (.nilCheck (t 38))), A (fa 40 0 39), B (ld 41 40), A (fa 42 2 5), B (ld 43 42), A (mv 44 2), C (call 45 k_cell_Level [(t 41), (t 43), (t 44)]), A (O 46 (.nilCheck (t 37))), A (fa 47 2 46), C (N (.store 1 (t 47) (t 45)))])
 (sq (.draw [A (mv 48 14), A (mv 49 14), A (O 50 (.nilCheck (t 49))), A (fa 51 0 50), B (ld 52 51), A (mv 53 14), A (O 54 (.nilCheck (t 53))), A (fa 55 2 54), B (ld 56 55), C (call 57 k_bidi_Resolve [(t 52), (t 56)]), A (O 58 (.nilCheck (t 48))), A (fa 59 1 58), C (N (.store 1 (t 59) (t 57)))])
 (sq (sq (.draw [A (mv 60 14), A (O 61 (.nilCheck (t 60))), A (fa 62 3 61), B (ld 63 62), A (mv 64 3), A (fa 65 1 5), B (ld 66 65), C (call 67 k_wrap_Lines [(t 63), (t 64), (t 66)]), A (O 68 (.lenSl (t 67))), A (O 69 (.mv (n 0)))])
 (.block 2 (.loop [2, 3, 5, 9, 10, 13, 14, 20, 21, 22, 67, 68, 69] (sq (.ops [add 70 .lss (t 69) (t 68)])
 (sq (.cond (t 70) .skip (.exit 2))
 (sq (.block 3 (sq (.ops [O 71 (.idxSl 5 (t 67) (t 69)), O 72 (.load (some 5) (t 71)), O 16 (.alloc [z, z, z, z, z]), N (.store 5 (t 16) (t 72))])
 (.ops [mv 73 9, O 74 (.load (some 5) (t 16)), mv 75 14, O 76 (.buildC [(5, (t 74)), (1, (t 75))]), O 77 (.bsliceC 6 1 [(6, (t 76))]), O 78 (.append false [z, z, z, z, z, .pn] 6 48 (t 73) (t 77)), mv 9 78])))
 (.ops [add 79 .add (t 69) (n 1), mv 69 79])))))))
 (.ops [mv 80 13, mv 11 80])))))))
 (.ops [add 81 .add (t 22) (n 1), mv 22 81])))))))
 (sq (.ops [mv 82 9, mv 8 82])
 .ret))))))⟩
def f_clip_Clip : VFn := ⟨3, [.cell 6 (some 5), .tmp 7], (sq (.ops [O 4 (.box (t 1)), O 6 (.alloc [z, z, z, z, z]), O 7 (.mv (n 0))])
 (sq (.ops [O 9 (.load (some 5) (t 4)), mv 10 0, O 11 (.buildC [(5, (t 9)), (1, (t 10))]), O 8 (.alloc [z, z, z, z, z, .sn]), N (.store 6 (t 8) (t 11))])
 (sq (.ops [O 12 (.load (some 6) (t 8)), mv 13 2, O 14 (.load (some 6) (t 8)), O 15 (.mkFunc (.func k_clip_look_clipped) [(t 14)] []), call 16 k_clip_made [(t 12), (t 13), (t 15)], O 17 (.extract (t 16) 0), O 18 (.extract (t 16) 1), N (.store 5 (t 6) (t 17)), mv 7 18])
 .ret)))⟩
def f_place_Slots : VFn := ⟨6, [.tmp 12, .tmp 13], (sq (.ops [O 8 (.box (t 2)), O 12 (.mv (.const (.slice none 0 0))), O 13 (.mv (n 0))])
 (sq (sq (.ops [mv 19 0, O 20 (.lenSl (t 19)), mv 21 1, O 22 (.lenSl (t 21)), add 23 .neq (t 20) (t 22), mv 24 23, G 25 (.mv (t 3)) 24 false, G 26 (.bin .neq (t 25) (n 0)) 24 false, G 27 (.mv (t 26)) 24 false, G 28 (.mv (t 3)) 27 true, G 29 (.bin .neq (t 28) (n 1)) 27 true, G 30 (.pick (t 27) (t 29) (kb false)) 24 false, O 31 (.pick (t 24) (kb true) (t 30)), mv 32 31, G 33 (.mv (t 4)) 32 false, G 34 (.bin .lss (t 33) (n 1)) 32 false, O 35 (.pick (t 32) (kb true) (t 34)), mv 36 35, G 37 (.mv (t 4)) 36 false, G 38 (.bin .gtr (t 37) (n 1024)) 36 false, O 39 (.pick (t 36) (kb true) (t 38)), mv 40 39, G 41 (.mv (t 5)) 40 false, G 42 (.bin .lss (t 41) (n 2)) 40 false, O 43 (.pick (t 40) (kb true) (t 42)), mv 44 43, G 45 (.mv (t 5)) 44 false, G 46 (.bin .gtr (t 45) (n 4)) 44 false, O 47 (.pick (t 44) (kb true) (t 46))])
 (.cond (t 47) (sq (.ops [O 12 (.mv (.const (.slice none 0 0))), O 13 (.mv (n 1))])
 .ret) .skip))
 (sq (.ops [mv 49 0, mv 50 1, O 51 (.load (some 5) (t 8)), mv 52 3, call 53 k_place_begin [(t 49), (t 50), (t 51), (t 52)], mv 48 53, O 54 (.extract (t 48) 0), O 55 (.extract (t 48) 1), O 14 (.alloc [z, z, z, z, z, .sn, .sn, z]), N (.store 8 (t 14) (t 54)), mv 15 55])
 (sq (sq (.ops [mv 56 15, O 57 (.un .not (t 56))])
 (.cond (t 57) (sq (.ops [O 12 (.mv (.const (.slice none 0 0))), O 13 (.mv (n 4))])
 .ret) .skip))
 (sq (.ops [O 58 (.load (some 8) (t 14)), mv 59 3, call 60 k_place_laid_text [(t 58), (t 59)], mv 16 60])
 (sq (.ops [mv 61 16, mv 62 16, O 63 (.lenSl (t 62)), mv 64 4, O 65 (.mnmx false (t 63) [(t 64)]), O 66 (.slSl 6 (t 61) none (some (t 65)) none), mv 16 66])
 (sq (.ops [mv 67 4, mv 68 16, O 69 (.lenSl (t 68)), add 70 .sub (t 67) (t 69), mv 17 70])
 (sq (.ops [O 71 (.mkMap), mv 72 17, N (.mapSet false [.i] (t 71) (n 3) (t 72)), mv 73 17, add 74 .quo (t 73) (n 2), N (.mapSet false [.i] (t 71) (n 4) (t 74)), mv 75 71, mv 76 5, O 77 (.lookup false [.i] z false (t 75) (t 76)), mv 18 77])
 (sq (.ops [mv 78 18, call 79 k_place_pads [(t 78)], mv 80 16, mv 81 17, mv 82 18, add 83 .sub (t 81) (t 82), call 84 k_place_pads [(t 83)], O 85 (.bsliceC 1 3 [(1, (t 79)), (1, (t 80)), (1, (t 84))]), call 86 k_slices_Concat_LSlot_Slot [(t 85)], mv 12 86, O 13 (.mv (n 0))])
 .ret)))))))))⟩
def f_cell_side : VFn := ⟨2, [.tmp 4], (sq (.ops [O 4 (.mv (n 0))])
 (sq (.block 0 (sq (.ops [mv 6 0, add 7 .neq (t 6) (n 0), mv 8 7, G 9 (.mv (t 0)) 8 true, G 10 (.bin .neq (t 9) (n 1)) 8 true, O 11 (.pick (t 8) (t 10) (kb false)), mv 5 11])
 (.cond (t 5) (sq (.ops [mv 12 0, mv 4 12])
 .ret) (sq (.ops [mv 14 0, add 15 .eql (t 14) (n 0), mv 16 1, add 17 .eql (t 16) (n 0), O 18 (.eqB false (t 15) (t 17)), mv 13 18])
 (.cond (t 13) (sq (.ops [O 4 (.mv (n 2))])
 .ret) .skip)))))
 (sq (.ops [O 4 (.mv (n 3))])
 .ret)))⟩
def f_slices_Repeat_LSlot_Slot : VFn := ⟨2, [.tmp 4], (sq (.ops [O 4 (.mv (.const (.slice none 0 0)))])
 (sq (sq (.ops [mv 9 1, add 10 .lss (t 9) (n 0)])
 (.cond (t 10) (.ops [O 11 (.mkIface 9 (.const (.string ⟨⟨[99, 97, 110, 110, 111, 116, 32, 98, 101, 32, 110, 101, 103, 97, 116, 105, 118, 101]⟩⟩))), N (.die)]) .skip))
 (sq (.ops [mv 13 0, O 14 (.lenSl (t 13)), O 15 (.toInt .u64 (t 14)), mv 16 1, O 17 (.toInt .u64 (t 16)), call 18 k_math_bits_Mul [(t 15), (t 17)], mv 12 18, O 19 (.extract (t 12) 0), O 20 (.extract (t 12) 1), mv 5 19, mv 6 20])
 (sq (sq (.ops [mv 21 5, add 22 .gtr (t 21) (.const (.int .u64 (.ofNat 0))), mv 23 22, G 24 (.mv (t 6)) 23 false, G 25 (.bin .gtr (t 24) (.const (.int .u64 (.ofNat 9223372036854775807)))) 23 false, O 26 (.pick (t 23) (kb true) (t 25))])
 (.cond (t 26) (.ops [O 27 (.mkIface 9 (.const (.string ⟨⟨[116, 104, 101, 32, 114, 101, 115, 117, 108, 116, 32, 111, 102, 32, 40, 108, 101, 110, 40, 120, 41, 32, 42, 32, 99, 111, 117, 110, 116, 41, 32, 111, 118, 101, 114, 102, 108, 111, 119, 115]⟩⟩))), N (.die)]) .skip))
 (sq (.ops [mv 28 6, O 29 (.toInt .i64 (t 28)), O 30 (.mkSlice [z, z, z, z, z, z] 6 48 (t 29) (t 29)), mv 7 30])
 (sq (.ops [mv 31 7, mv 32 0, O 33 (.copy 6 (t 31) (t 32)), mv 8 33])
 (sq (.block 0 (.loop [7, 8] (sq (sq (.ops [mv 34 8, mv 35 7, O 36 (.lenSl (t 35)), add 37 .lss (t 34) (t 36)])
 (.cond (t 37) .skip (.exit 0)))
 (.block 1 (.draw [A (mv 38 8), A (mv 39 7), A (mv 40 8), A (O 41 (.slSl 6 (t 39) (some (t 40)) none none)), A (mv 42 7), A (mv 43 8), A (O 44 (.slSl 6 (t 42) none (some (t 43)) none)), C (O 45 (.copy 6 (t 41) (t 44))), A (add 46 .add (t 38) (t 45)), A (mv 8 46)])))))
 (sq (.ops [mv 47 7, mv 4 47])
 .ret))))))))⟩
def f_slices_BinarySearchFunc_LCell_Cell_Cell : VFn := ⟨3, [.tmp 6, .tmp 7], (sq (.ops [O 4 (.box (t 1)), O 6 (.mv (n 0)), O 7 (.mv (kb false))])
 (sq (.ops [mv 12 0, O 13 (.lenSl (t 12)), mv 8 13])
 (sq (.ops [mv 14 8, O 9 (.mv (n 0)), mv 10 14])
 (sq (.block 0 (.loop [0, 2, 4, 8, 9, 10] (sq (sq (.ops [mv 15 9, mv 16 10, add 17 .lss (t 15) (t 16)])
 (.cond (t 17) .skip (.exit 0)))
 (.block 1 (sq (.ops [mv 18 9, mv 19 10, add 20 .add (t 18) (t 19), O 21 (.toInt .u64 (t 20)), add 22 .shr (t 21) (.const (.int .u64 (.ofNat 1))), O 23 (.toInt .i64 (t 22)), mv 11 23])
 (sq (.draw [A (mv 24 2), A (mv 25 0), A (mv 26 11), A (O 27 (.idxSl 6 (t 25) (t 26))), B (O 28 (.load (some 6) (t 27))), B (O 29 (.load (some 6) (t 4))), C (O 30 (.call (t 24) [(t 28), (t 29)])), A (add 31 .lss (t 30) (n 0))])
 (.cond (t 31) (.ops [mv 32 11, add 33 .add (t 32) (n 1), mv 9 33]) (.ops [mv 34 11, mv 10 34]))))))))
 (sq (.draw [A (mv 35 9), A (mv 36 9), A (mv 37 8), A (add 38 .lss (t 36) (t 37)), A (mv 39 38), A (G 40 (.mv (t 2)) 39 true), A (G 41 (.mv (t 0)) 39 true), A (G 42 (.mv (t 9)) 39 true), A (G 43 (.idxSl 6 (t 41) (t 42)) 39 true), B (G 44 (.load (some 6) (t 43)) 39 true), B (G 45 (.load (some 6) (t 4)) 39 true), C (G 46 (.call (t 40) [(t 44), (t 45)]) 39 true), A (G 47 (.bin .eql (t 46) (n 0)) 39 true), A (O 48 (.pick (t 39) (t 47) (kb false))), A (mv 6 35), A (mv 7 48)])
 .ret)))))⟩
def f_slices_Insert_LCell_Cell : VFn := ⟨3, [.tmp 6], (sq (.ops [O 6 (.mv (.const (.slice none 0 0)))])
 (sq (.ops [mv 10 0, mv 11 1, O 12 (.slSl 6 (t 10) (some (t 11)) none none)])
 (sq (.ops [mv 13 2, O 14 (.lenSl (t 13)), mv 7 14])
 (sq (sq (.ops [mv 15 7, add 16 .eql (t 15) (n 0)])
 (.cond (t 16) (sq (.ops [mv 17 0, mv 6 17])
 .ret) .skip))
 (sq (.ops [mv 18 0, O 19 (.lenSl (t 18)), mv 8 19])
 (sq (sq (.ops [mv 20 1, mv 21 8, add 22 .eql (t 20) (t 21)])
 (.cond (t 22) (sq (.ops [mv 23 0, mv 24 2, O 25 (.append false [z, z, (.s []), z, z, z] 6 56 (t 23) (t 24)), mv 6 25])
 .ret) .skip))
 (sq (sq (.ops [mv 26 8, mv 27 7, add 28 .add (t 26) (t 27), mv 29 0, O 30 (.cap (t 29)), add 31 .gtr (t 28) (t 30)])
 (.cond (t 31) (sq (.ops [mv 32 0, mv 33 1, O 34 (.slSl 6 (t 32) none (some (t 33)) none), mv 35 8, mv 36 7, add 37 .add (t 35) (t 36), mv 38 1, add 39 .sub (t 37) (t 38), O 40 (.append true [z, z, (.s []), z, z, z] 6 56 (t 34) (t 39)), mv 9 40])
 (sq (.ops [mv 41 9, mv 42 1, O 43 (.slSl 6 (t 41) (some (t 42)) none none), mv 44 2, O 45 (.copy 6 (t 43) (t 44))])
 (sq (.draw [A (mv 46 9), A (mv 47 1), A (mv 48 7), A (add 49 .add (t 47) (t 48)), A (O 50 (.slSl 6 (t 46) (some (t 49)) none none)), A (mv 51 0), A (mv 52 1), A (O 53 (.slSl 6 (t 51) (some (t 52)) none none)), C (O 54 (.copy 6 (t 50) (t 53)))])
 (sq (.ops [mv 55 9, mv 6 55])
 .ret)))) .skip))
 (sq (.ops [mv 56 0, mv 57 8, mv 58 7, add 59 .add (t 57) (t 58), O 60 (.slSl 6 (t 56) none (some (t 59)) none), mv 0 60])
 (sq (sq (.ops [mv 61 2, mv 62 0, mv 63 1, mv 64 7, add 65 .add (t 63) (t 64), O 66 (.slSl 6 (t 62) (some (t 65)) none none), call 67 k_slices_overlaps_Cell [(t 61), (t 66)], O 68 (.un .not (t 67))])
 (.cond (t 68) (sq (.draw [A (mv 69 0), A (mv 70 1), A (mv 71 7), A (add 72 .add (t 70) (t 71)), A (O 73 (.slSl 6 (t 69) (some (t 72)) none none)), A (mv 74 0), A (mv 75 1), A (O 76 (.slSl 6 (t 74) (some (t 75)) none none)), C (O 77 (.copy 6 (t 73) (t 76)))])
 (sq (.ops [mv 78 0, mv 79 1, O 80 (.slSl 6 (t 78) (some (t 79)) none none), mv 81 2, O 82 (.copy 6 (t 80) (t 81))])
 (sq (.ops [mv 83 0, mv 6 83])
 .ret))) .skip))
 (sq (.ops [mv 84 0, mv 85 8, O 86 (.slSl 6 (t 84) (some (t 85)) none none), mv 87 2, O 88 (.copy 6 (t 86) (t 87))])
 (sq (.ops [mv 89 0, mv 90 1, O 91 (.slSl 6 (t 89) (some (t 90)) none none), mv 92 7, call 93 k_slices_rotateRight_Cell [(t 91), (t 92)]])
 (sq (.ops [mv 94 0, mv 6 94])
 .ret))))))))))))⟩
def f_runes_Split : VFn := ⟨1, [.tmp 2], (sq (.ops [O 2 (.mv (.const (.slice none 0 0)))])
 (sq (.ops [O 3 (.mv (.const (.slice none 0 0)))])
 (sq (sq (.ops [mv 7 0, O 8 (.range (t 7))])
 (.block 0 (.loop [0, 3, 8] (sq (.ops [O 9 (.next (t 8)), O 10 (.extract (t 9) 0)])
 (sq (.cond (t 10) .skip (.exit 0))
 (.block 1 (sq (.ops [O 11 (.extract (t 9) 1), O 12 (.extract (t 9) 2), mv 4 11, mv 5 12])
 (sq (sq (.ops [mv 13 3, O 14 (.lenSl (t 13)), mv 6 14])
 (sq (.ops [mv 15 6, add 16 .gtr (t 15) (n 0)])
 (.cond (t 16) (.ops [mv 17 3, mv 18 6, add 19 .sub (t 18) (n 1), mv 20 4, mv 21 3, mv 22 6, add 23 .sub (t 22) (n 1), O 24 (.idxSl 3 (t 21) (t 23)), fa 25 0 24, ld 26 25, add 27 .sub (t 20) (t 26), O 28 (.idxSl 3 (t 17) (t 19)), fa 29 1 28, N (.store 1 (t 29) (t 27))]) .skip)))
 (.ops [mv 30 3, mv 31 4, mv 32 0, O 33 (.lenStr (t 32)), mv 34 4, add 35 .sub (t 33) (t 34), mv 36 5, O 37 (.toInt .i64 (t 36)), O 38 (.buildC [(1, (t 31)), (1, (t 35)), (1, (t 37))]), O 39 (.bsliceC 3 1 [(3, (t 38))]), O 40 (.append false [z, z, z] 3 24 (t 30) (t 39)), mv 3 40])))))))))
 (sq (.ops [mv 41 3, mv 2 41])
 .ret))))⟩
def f_base_Paragraphs : VFn := ⟨1, [.tmp 2], (sq (.ops [O 2 (.mv (.const (.slice none 0 0)))])
 (sq (.ops [O 3 (.mv (.const (.slice none 0 0)))])
 (sq (sq (.ops [mv 7 0, O 8 (.lenSl (t 7)), O 9 (.mv (n 0))])
 (.block 0 (.loop [0, 3, 7, 8, 9] (sq (.ops [add 10 .lss (t 9) (t 8)])
 (sq (.cond (t 10) .skip (.exit 0))
 (sq (.block 1 (sq (.ops [mv 11 9, O 12 (.idxSl 3 (t 7) (t 9)), O 13 (.load (some 3) (t 12)), O 5 (.alloc [z, z, z]), mv 4 11, N (.store 3 (t 5) (t 13))])
 (sq (.ops [fa 14 2 5, ld 15 14, add 16 .eql (t 15) (n 13), mv 17 16, G 18 (.mv (t 4)) 17 true, G 19 (.bin .add (t 18) (n 1)) 17 true, G 20 (.mv (t 0)) 17 true, G 21 (.lenSl (t 20)) 17 true, G 22 (.bin .lss (t 19) (t 21)) 17 true, O 23 (.pick (t 17) (t 22) (kb false)), mv 24 23, G 25 (.mv (t 0)) 24 true, G 26 (.mv (t 4)) 24 true, G 27 (.bin .add (t 26) (n 1)) 24 true, G 28 (.idxSl 3 (t 25) (t 27)) 24 true, G 29 (.fieldAddr 2 (t 28)) 24 true, G 30 (.load none (t 29)) 24 true, G 31 (.bin .eql (t 30) (n 10)) 24 true, O 32 (.pick (t 24) (t 31) (kb false)), mv 6 32])
 (sq (.ops [fa 33 2 5, ld 34 33, call 35 k_class_Of [(t 34)], add 36 .eql (t 35) (n 10), mv 37 36, G 38 (.mv (t 6)) 37 true, G 39 (.un .not (t 38)) 37 true, O 40 (.pick (t 37) (t 39) (kb false)), mv 41 40, G 42 (.mv (t 4)) 41 false, G 43 (.bin .add (t 42) (n 1)) 41 false, G 44 (.mv (t 0)) 41 false, G 45 (.lenSl (t 44)) 41 false, G 46 (.bin .eql (t 43) (t 45)) 41 false, O 47 (.pick (t 41) (kb true) (t 46))])
 (.cond (t 47) (.ops [mv 48 3, mv 49 4, add 50 .add (t 49) (n 1), O 51 (.bsliceC 1 1 [(1, (t 50))]), O 52 (.append false [z] 1 8 (t 48) (t 51)), mv 3 52]) .skip)))))
 (.ops [add 53 .add (t 9) (n 1), mv 9 53])))))))
 (sq (.ops [mv 54 3, mv 2 54])
 .ret))))⟩
def f_cluster_Of : VFn := ⟨1, [.tmp 2], (sq (.ops [O 2 (.mv (.const (.slice none 0 0)))])
 (sq (.ops [O 3 (.mv (.const (.slice none 0 0)))])
 (sq (.ops [O 4 (.alloc [z, z, z, z, z, (.b false), z, z])])
 (sq (sq (.ops [mv 9 0, O 10 (.lenSl (t 9)), O 11 (.mv (n 0))])
 (.block 0 (.loop [3, 4, 9, 10, 11] (sq (.ops [add 12 .lss (t 11) (t 10)])
 (sq (.cond (t 12) .skip (.exit 0))
 (sq (.block 1 (sq (.ops [mv 13 11, O 14 (.idxSl 3 (t 9) (t 11)), O 15 (.load (some 3) (t 14)), O 6 (.alloc [z, z, z]), mv 5 13, N (.store 3 (t 6) (t 15))])
 (sq (.ops [O 16 (.load (some 3) (t 6)), call 17 k_cluster_see [(t 16)], O 7 (.alloc [z, z, z, z, z, (.b false)]), N (.store 6 (t 7) (t 17))])
 (sq (sq (.ops [mv 18 5, add 19 .eql (t 18) (n 0), mv 20 19, G 21 (.load (some 8) (t 4)) 20 false, G 22 (.load (some 6) (t 7)) 20 false, G 23 (.call (fu k_cluster_seen_joins) [(t 21), (t 22)]) 20 false, G 24 (.un .not (t 23)) 20 false, O 25 (.pick (t 20) (kb true) (t 24))])
 (.cond (t 25) (sq (.ops [mv 26 3, O 27 (.load (some 6) (t 7)), mv 28 5, call 29 k_cluster_first [(t 27), (t 28)], O 30 (.bsliceC 6 1 [(6, (t 29))]), O 31 (.append false [z, z, z, z, z, z] 6 48 (t 26) (t 30)), mv 3 31])
 (sq (.ops [O 32 (.load (some 8) (t 4)), O 33 (.load (some 6) (t 7)), call 34 k_cluster_seen_then [(t 32), (t 33)], N (.store 8 (t 4) (t 34))])
 (.exit 1))) .skip))
 (sq (.ops [mv 35 3, mv 36 3, O 37 (.lenSl (t 36)), add 38 .sub (t 37) (n 1), O 39 (.idxSl 6 (t 35) (t 38)), mv 8 39])
 (sq (.draw [A (mv 40 8), A (mv 41 8), A (mv 42 8), A (O 43 (.nilCheck (t 42))), A (fa 44 1 43), B (ld 45 44), A (fa 46 1 6), B (ld 47 46), A (add 48 .add (t 45) (t 47)), A (mv 49 5), A (add 50 .add (t 49) (n 1)), A (O 51 (.nilCheck (t 40))), A (fa 52 1 51), C (N (.store 1 (t 52) (t 48))), A (O 53 (.nilCheck (t 41))), A (fa 54 3 53), C (N (.store 1 (t 54) (t 50)))])
 (sq (.block 2 (sq (.ops [fa 66 0 4, fa 67 3 66, ld 68 67, add 69 .eql (t 68) (n 1), mv 65 69])
 (.cond (t 65) .skip (sq (.ops [fa 71 2 6, ld 72 71, add 73 .eql (t 72) (n 65039), mv 74 73, G 75 (.fieldAddr 0 (t 4)) 74 true, G 76 (.fieldAddr 5 (t 75)) 74 true, G 77 (.load none (t 76)) 74 true, O 78 (.pick (t 74) (t 77) (kb false)), mv 70 78])
 (.cond (t 70) (.ops [mv 79 8, O 80 (.nilCheck (t 79)), fa 81 4 80, N (.store 1 (t 81) (n 2))]) (.draw [A (mv 55 8), A (mv 56 8), A (O 57 (.nilCheck (t 56))), A (fa 58 4 57), B (ld 59 58), A (fa 60 4 7), B (ld 61 60), A (O 62 (.mnmx true (t 59) [(t 61)])), A (O 63 (.nilCheck (t 55))), A (fa 64 4 63), C (N (.store 1 (t 64) (t 62)))]))))))
 (.ops [O 82 (.load (some 8) (t 4)), O 83 (.load (some 6) (t 7)), call 84 k_cluster_seen_then [(t 82), (t 83)], N (.store 8 (t 4) (t 84))]))))))))
 (.ops [add 85 .add (t 11) (n 1), mv 11 85])))))))
 (sq (.ops [mv 86 3, mv 2 86])
 .ret)))))⟩
def f_cell_Level : VFn := ⟨3, [.tmp 6], (sq (.ops [O 6 (.mv (n 0))])
 (sq (sq (.ops [mv 9 1])
 (.block 0 (sq (.ops [add 11 .eql (t 9) (n 1), mv 10 11])
 (.cond (t 10) (sq (.ops [mv 13 0, call 14 k_class_All [(t 13)], call 15 k_base_Level [(t 14)], mv 12 15, O 16 (.extract (t 12) 0), O 17 (.extract (t 12) 1), mv 7 16, mv 8 17])
 (sq (.ops [mv 18 7, mv 6 18])
 .ret)) (sq (.ops [add 20 .eql (t 9) (n 2), mv 19 20])
 (.cond (t 19) (sq (.ops [O 6 (.mv (n 0))])
 .ret) (sq (.ops [add 22 .eql (t 9) (n 3), mv 21 22])
 (.cond (t 21) (sq (.ops [O 6 (.mv (n 1))])
 .ret) .skip))))))))
 (sq (.ops [mv 23 2, add 24 .and (t 23) (n 1), mv 6 24])
 .ret)))⟩
def f_bidi_Resolve : VFn := ⟨2, [.tmp 4], (sq (.ops [O 4 (.mv (.const (.slice none 0 0)))])
 (sq (.ops [mv 19 0, call 20 k_class_All [(t 19)], mv 5 20])
 (sq (.ops [mv 22 5, mv 23 1, call 24 k_level_Explicit [(t 22), (t 23)], mv 21 24, O 25 (.extract (t 21) 0), O 26 (.extract (t 21) 1), mv 6 25, mv 7 26])
 (sq (.ops [O 8 (.mv (.const (.slice none 0 0)))])
 (sq (sq (.ops [mv 27 0, O 28 (.lenSl (t 27)), O 29 (.mv (n 0))])
 (.block 0 (.loop [1, 5, 6, 7, 8, 27, 28, 29] (sq (.ops [add 30 .lss (t 29) (t 28)])
 (sq (.cond (t 30) .skip (.exit 0))
 (sq (.block 1 (sq (.ops [O 31 (.idxSl 3 (t 27) (t 29)), O 32 (.load (some 3) (t 31)), O 10 (.alloc [z, z, z]), N (.store 3 (t 10) (t 32))])
 (.ops [mv 33 8, fa 34 2 10, ld 35 34, O 36 (.bsliceC 1 1 [(1, (t 35))]), O 37 (.append false [z] 1 8 (t 33) (t 36)), mv 8 37])))
 (.ops [add 38 .add (t 29) (n 1), mv 29 38])))))))
 (sq (sq (.ops [mv 39 5, mv 40 1, call 41 k_seqs_Sequences [(t 39), (t 40)], O 42 (.lenSl (t 41)), O 43 (.mv (n 0))])
 (.block 2 (.loop [1, 5, 6, 7, 8, 41, 42, 43] (sq (.ops [add 44 .lss (t 43) (t 42)])
 (sq (.cond (t 44) .skip (.exit 2))
 (sq (.block 3 (sq (.ops [O 45 (.idxSl 4 (t 41) (t 43)), O 46 (.load (some 4) (t 45)), O 12 (.alloc [z, z, z, .sn]), N (.store 4 (t 12) (t 46))])
 (sq (.ops [O 47 (.load (some 4) (t 12)), O 48 (.buildC [(4, (t 47))]), O 13 (.alloc [z, z, z, .sn]), N (.store 4 (t 13) (t 48))])
 (sq (.ops [O 49 (.load (some 4) (t 13)), mv 50 8, mv 51 5, mv 52 7, call 53 k_bidi_part_levels [(t 49), (t 50), (t 51), (t 52)], O 54 (.lenSl (t 53)), O 55 (.mv (n 0))])
 (.block 4 (.loop [1, 5, 6, 7, 8, 13, 41, 42, 43, 53, 54, 55] (sq (.ops [add 56 .lss (t 55) (t 54)])
 (sq (.cond (t 56) .skip (.exit 4))
 (sq (.block 5 (sq (.ops [mv 57 55, O 58 (.idxSl 1 (t 53) (t 55)), ld 59 58, mv 14 57, mv 15 59])
 (.ops [mv 60 6, fa 61 0 13, fa 62 3 61, ld 63 62, mv 64 14, O 65 (.idxSl 1 (t 63) (t 64)), ld 66 65, mv 67 15, O 68 (.idxSl 1 (t 60) (t 66)), N (.store 1 (t 68) (t 67))])))
 (.ops [add 69 .add (t 55) (n 1), mv 55 69]))))))))))
 (.ops [add 70 .add (t 43) (n 1), mv 43 70])))))))
 (sq (.ops [mv 71 1, mv 16 71])
 (sq (sq (.ops [mv 72 6, O 73 (.lenSl (t 72)), O 74 (.mv (n 0))])
 (.block 6 (.loop [6, 16, 72, 73, 74] (sq (.ops [add 75 .lss (t 74) (t 73)])
 (sq (.cond (t 75) .skip (.exit 6))
 (sq (.block 7 (sq (.ops [mv 76 74, O 77 (.idxSl 1 (t 72) (t 74)), ld 78 77, mv 17 76, mv 18 78])
 (sq (sq (.ops [mv 79 18, add 80 .lss (t 79) (n 0)])
 (.cond (t 80) (.ops [mv 81 6, mv 82 17, mv 83 16, O 84 (.idxSl 1 (t 81) (t 82)), N (.store 1 (t 84) (t 83))]) .skip))
 (.ops [mv 85 6, mv 86 17, O 87 (.idxSl 1 (t 85) (t 86)), ld 88 87, mv 16 88]))))
 (.ops [add 89 .add (t 74) (n 1), mv 74 89])))))))
 (sq (.ops [mv 90 6, mv 4 90])
 .ret)))))))))⟩
def f_wrap_Lines : VFn := ⟨3, [.tmp 6], (sq (.ops [O 6 (.mv (.const (.slice none 0 0)))])
 (sq (.ops [mv 10 0, call 11 k_wrap_Shown [(t 10)], mv 7 11])
 (sq (sq (.ops [mv 12 2, add 13 .eql (t 12) (n 0), mv 14 13, G 15 (.mv (t 7)) 14 false, G 16 (.bin .eql (t 15) (n 0)) 14 false, O 17 (.pick (t 14) (kb true) (t 16))])
 (.cond (t 17) (sq (.ops [mv 18 0, O 19 (.lenSl (t 18)), mv 20 7, O 21 (.build [z, z, z, z, z] [(1, 1, (t 19)), (2, 1, (t 20)), (3, 1, (n 1))]), O 22 (.bsliceC 5 1 [(5, (t 21))]), mv 6 22])
 .ret) .skip))
 (sq (.ops [O 8 (.alloc [.sn])])
 (sq (sq (.ops [mv 23 0, mv 24 7, O 25 (.slSl 6 (t 23) none (some (t 24)) none), mv 26 1, O 27 (.mnmx true (t 26) [(n 1)]), O 28 (.buildC [(1, (t 25)), (1, (t 27))]), call 29 k_wrap_paragraph_lines [(t 28)]])
 (.block 0 (.rangeFunc (t 29) [30] (.ops [O 9 (.alloc [z, z, z, z, z]), N (.store 5 (t 9) (t 30))]) (.block 1 (.ops [ld 31 8, O 32 (.load (some 5) (t 9)), O 33 (.bsliceC 5 1 [(5, (t 32))]), O 34 (.append false [z, z, z, z, z] 5 40 (t 31) (t 33)), N (.store 1 (t 8) (t 34))])))))
 (sq (.ops [ld 35 8, ld 36 8, O 37 (.lenSl (t 36)), add 38 .sub (t 37) (n 1), mv 39 0, O 40 (.lenSl (t 39)), O 41 (.idxSl 5 (t 35) (t 38)), fa 42 1 41, N (.store 1 (t 42) (t 40))])
 (sq (.ops [ld 43 8, mv 6 43])
 .ret)))))))⟩
def f_clip_made : VFn := ⟨3, [.cell 6 (some 5), .tmp 7], (sq (.ops [O 3 (.box (t 0)), O 6 (.alloc [z, z, z, z, z]), O 7 (.mv (n 0))])
 (sq (sq (.ops [O 8 (.load (some 6) (t 3)), call 9 k_clip_look_may [(t 8)], O 10 (.un .not (t 9))])
 (.cond (t 10) (sq (.ops [O 11 (.build [z, z, z, z, z] []), N (.store 5 (t 6) (t 11)), O 7 (.mv (n 1))])
 .ret) .skip))
 (sq (.ops [mv 12 2, mv 13 1, O 14 (.call (t 12) [(t 13)]), N (.store 5 (t 6) (t 14)), O 7 (.mv (n 0))])
 .ret)))⟩
def f_clip_look_clipped : VFn := ⟨2, [.cell 4 (some 5)], (sq (.ops [O 2 (.box (t 0)), O 4 (.alloc [z, z, z, z, z])])
 (sq (sq (.draw [B (O 5 (.load (some 6) (t 2))), A (mv 6 1), A (O 7 (.mnmx true (t 6) [(n 0)])), B (call 8 k_clip_look_fits [(t 5), (t 7)]), A (fa 9 0 2), A (fa 10 2 9), B (ld 11 10), A (add 12 .lss (t 8) (t 11))])
 (.cond (t 12) (sq (.ops [O 13 (.load (some 6) (t 2)), mv 14 1, call 15 k_clip_look_cut [(t 13), (t 14)], N (.store 5 (t 4) (t 15))])
 .ret) .skip))
 (sq (.ops [fa 16 0 2, fa 17 4 16, N (.store 1 (t 17) (n 0))])
 (sq (.ops [fa 18 0 2, O 19 (.load (some 5) (t 18)), N (.store 5 (t 4) (t 19))])
 .ret))))⟩
def f_place_begin : VFn := ⟨4, [.cell 8 (some 8), .tmp 9], (sq (.ops [O 6 (.box (t 2)), O 8 (.alloc [z, z, z, z, z, .sn, .sn, z]), O 9 (.mv (kb false))])
 (sq (.draw [B (O 12 (.load (some 5) (t 6))), A (mv 13 0), B (call 14 k_cluster_Of [(t 13)]), A (O 15 (.build [z, z, z, z, z, .sn, .sn, z] [(0, 5, (t 12)), (5, 1, (t 14))])), B (O 10 (.alloc [z, z, z, z, z, .sn, .sn, z])), C (N (.store 8 (t 10) (t 15)))])
 (sq (sq (.ops [O 16 (.load (some 5) (t 6)), fa 17 5 10, ld 18 17, O 19 (.lenSl (t 18)), call 20 k_place_has [(t 16), (t 19)], O 21 (.un .not (t 20))])
 (.cond (t 21) (sq (.ops [O 22 (.build [z, z, z, z, z, .sn, .sn, z] []), N (.store 8 (t 8) (t 22)), O 9 (.mv (kb false))])
 .ret) .skip))
 (sq (sq (.ops [fa 23 0 6, ld 24 23, fa 25 1 6, ld 26 25, add 27 .lss (t 24) (t 26)])
 (.cond (t 27) (sq (.ops [fa 28 5 10, ld 29 28, fa 30 1 6, ld 31 30, add 32 .sub (t 31) (n 1), O 33 (.idxSl 6 (t 29) (t 32)), fa 34 3 33, ld 35 34, mv 11 35])
 (sq (.ops [fa 36 5 10, ld 37 36, fa 38 0 6, ld 39 38, O 40 (.idxSl 6 (t 37) (t 39)), fa 41 2 40, ld 42 41, fa 43 7 10, N (.store 1 (t 43) (t 42))])
 (.draw [A (mv 44 0), A (fa 45 7 10), B (ld 46 45), A (mv 47 11), A (O 48 (.slSl 3 (t 44) (some (t 46)) (some (t 47)) none)), A (mv 49 1), A (fa 50 7 10), B (ld 51 50), A (mv 52 11), A (O 53 (.slSl 1 (t 49) (some (t 51)) (some (t 52)) none)), A (mv 54 3), C (call 55 k_bidi_Line [(t 48), (t 53), (t 54)]), A (fa 56 6 10), C (N (.store 1 (t 56) (t 55)))]))) .skip))
 (sq (.ops [O 57 (.load (some 8) (t 10)), N (.store 8 (t 8) (t 57)), O 9 (.mv (kb true))])
 .ret)))))⟩
def f_place_laid_text : VFn := ⟨2, [.tmp 4], (sq (.ops [O 2 (.box (t 0)), O 4 (.mv (.const (.slice none 0 0)))])
 (sq (.ops [O 5 (.mv (.const (.slice none 0 0)))])
 (sq (.ops [O 14 (.load (some 8) (t 2)), call 15 k_place_laid_seen [(t 14)], mv 13 15, O 16 (.extract (t 13) 0), O 17 (.extract (t 13) 1), mv 6 16, mv 7 17])
 (sq (sq (.ops [mv 18 7, call 19 k_bidi_Order [(t 18)], O 20 (.lenSl (t 19)), O 21 (.mv (n 0))])
 (.block 0 (.loop [1, 2, 5, 6, 7, 19, 20, 21] (sq (.ops [add 22 .lss (t 21) (t 20)])
 (sq (.cond (t 22) .skip (.exit 0))
 (sq (.block 1 (sq (.ops [O 23 (.idxSl 1 (t 19) (t 21)), ld 24 23, mv 9 24])
 (sq (.ops [mv 25 6, mv 26 9, O 27 (.idxSl 6 (t 25) (t 26)), O 28 (.load (some 6) (t 27)), O 10 (.alloc [z, z, z, z, z, z]), N (.store 6 (t 10) (t 28))])
 (sq (.ops [fa 29 4 10, ld 30 29, O 31 (.mv (n 0))])
 (.block 2 (.loop [1, 2, 5, 6, 7, 9, 10, 19, 20, 21, 30, 31] (sq (.ops [add 32 .lss (t 31) (t 30)])
 (sq (.cond (t 32) .skip (.exit 2))
 (sq (.block 3 (sq (.ops [mv 33 31, mv 11 33])
 (.draw [A (mv 34 5), A (fa 35 0 10), B (ld 36 35), A (mv 37 11), A (fa 38 5 10), B (ld 39 38), A (mv 40 7), A (mv 41 9), A (O 42 (.idxSl 1 (t 40) (t 41))), B (ld 43 42), B (call 44 k_bidi_Shown [(t 39), (t 43)]), A (O 45 (.build [z, z, z, z, z, z] [(0, 1, (n 4)), (3, 1, (t 36)), (4, 1, (t 37)), (5, 1, (t 44))])), B (O 46 (.bsliceC 6 1 [(6, (t 45))])), C (O 47 (.append false [z, z, z, z, z, z] 6 48 (t 34) (t 46))), A (mv 5 47)])))
 (.ops [add 48 .add (t 31) (n 1), mv 31 48]))))))))))
 (.ops [add 49 .add (t 21) (n 1), mv 21 49])))))))
 (sq (.ops [O 50 (.build [z, z, z, z, z, z] [(0, 1, (n 3))]), O 12 (.alloc [z, z, z, z, z, z]), N (.store 6 (t 12) (t 50))])
 (sq (.block 4 (sq (.ops [fa 56 0 2, fa 57 4 56, ld 58 57, add 59 .neq (t 58) (n 1), mv 55 59])
 (.cond (t 55) .skip (sq (.ops [mv 61 1, add 62 .eql (t 61) (n 1), mv 60 62])
 (.cond (t 60) (.ops [mv 63 5, O 64 (.load (some 6) (t 12)), O 65 (.bsliceC 6 1 [(6, (t 64))]), call 66 k_slices_Insert_LSlot_Slot [(t 63), (n 0), (t 65)], mv 5 66]) (.ops [mv 51 5, O 52 (.load (some 6) (t 12)), O 53 (.bsliceC 6 1 [(6, (t 52))]), O 54 (.append false [z, z, z, z, z, z] 6 48 (t 51) (t 53)), mv 5 54]))))))
 (sq (.ops [mv 67 5, mv 4 67])
 .ret)))))))⟩
def f_slices_Concat_LSlot_Slot : VFn := ⟨1, [.tmp 2], (sq (.ops [O 2 (.mv (.const (.slice none 0 0)))])
 (sq (.ops [O 3 (.mv (n 0))])
 (sq (sq (.ops [mv 9 0, O 10 (.lenSl (t 9)), O 11 (.mv (n 0))])
 (.block 0 (.loop [0, 3, 9, 10, 11] (sq (.ops [add 12 .lss (t 11) (t 10)])
 (sq (.cond (t 12) .skip (.exit 0))
 (sq (.block 1 (sq (.ops [O 13 (.idxSl 1 (t 9) (t 11)), ld 14 13, mv 5 14])
 (sq (.ops [mv 15 3, mv 16 5, O 17 (.lenSl (t 16)), add 18 .add (t 15) (t 17), mv 3 18])
 (sq (.ops [mv 19 3, add 20 .lss (t 19) (n 0)])
 (.cond (t 20) (.ops [O 21 (.mkIface 9 (.const (.string ⟨⟨[108, 101, 110, 32, 111, 117, 116, 32, 111, 102, 32, 114, 97, 110, 103, 101]⟩⟩))), N (.die)]) .skip)))))
 (.ops [add 22 .add (t 11) (n 1), mv 11 22])))))))
 (sq (.ops [mv 23 3, call 24 k_slices_Grow_LSlot_Slot [(.const (.slice none 0 0)), (t 23)], mv 6 24])
 (sq (sq (.ops [mv 25 0, O 26 (.lenSl (t 25)), O 27 (.mv (n 0))])
 (.block 2 (.loop [6, 25, 26, 27] (sq (.ops [add 28 .lss (t 27) (t 26)])
 (sq (.cond (t 28) .skip (.exit 2))
 (sq (.block 3 (sq (.ops [O 29 (.idxSl 1 (t 25) (t 27)), ld 30 29, mv 8 30])
 (.ops [mv 31 6, mv 32 8, O 33 (.append false [z, z, z, z, z, z] 6 48 (t 31) (t 32)), mv 6 33])))
 (.ops [add 34 .add (t 27) (n 1), mv 27 34])))))))
 (sq (.ops [mv 35 6, mv 2 35])
 .ret))))))⟩
def f_place_pads : VFn := ⟨1, [.tmp 2], (sq (.ops [O 2 (.mv (.const (.slice none 0 0)))])
 (sq (.ops [O 3 (.build [z, z, z, z, z, z] [(0, 1, (n 2))]), O 4 (.bsliceC 6 1 [(6, (t 3))]), mv 5 0, O 6 (.mnmx true (t 5) [(n 0)]), call 7 k_slices_Repeat_LSlot_Slot [(t 4), (t 6)], mv 2 7])
 .ret))⟩
def f_math_bits_Mul : VFn := ⟨2, [.tmp 4, .tmp 5], (sq (.ops [O 4 (.mv (.const (.int .u64 (.ofNat 0)))), O 5 (.mv (.const (.int .u64 (.ofNat 0))))])
 (sq (.cond (kb false) (sq (.ops [mv 11 0, O 12 (.toInt .u32 (t 11)), mv 13 1, O 14 (.toInt .u32 (t 13)), call 15 k_math_bits_Mul32 [(t 12), (t 14)], mv 10 15, O 16 (.extract (t 10) 0), O 17 (.extract (t 10) 1), mv 6 16, mv 7 17])
 (sq (.ops [mv 18 6, O 19 (.toInt .u64 (t 18)), mv 20 7, O 21 (.toInt .u64 (t 20)), mv 4 19, mv 5 21])
 .ret)) .skip)
 (sq (.ops [mv 23 0, mv 24 1, call 25 k_math_bits_Mul64 [(t 23), (t 24)], mv 22 25, O 26 (.extract (t 22) 0), O 27 (.extract (t 22) 1), mv 8 26, mv 9 27])
 (sq (.ops [mv 28 8, mv 29 9, mv 4 28, mv 5 29])
 .ret))))⟩
def f_math_bits_Len : VFn := ⟨1, [.tmp 2], (sq (.ops [O 2 (.mv (n 0))])
 (sq (.cond (kb false) (sq (.ops [mv 3 0, O 4 (.toInt .u32 (t 3)), call 5 k_math_bits_Len32 [(t 4)], mv 2 5])
 .ret) .skip)
 (sq (.ops [mv 6 0, call 7 k_math_bits_Len64 [(t 6)], mv 2 7])
 .ret)))⟩
def f_class_Of : VFn := ⟨1, [.tmp 2], (sq (.ops [O 2 (.mv (n 0))])
 (sq (.ops [call 6 k_class_spans [], mv 3 6])
 (sq (.ops [mv 8 3, mv 9 0, call 10 k_slices_BinarySearchFunc_Lclass_span_class_span_int [(t 8), (t 9), (fu k_class_span_side)], mv 7 10, O 11 (.extract (t 7) 0), O 12 (.extract (t 7) 1), mv 4 11, mv 5 12])
 (sq (sq (.ops [mv 13 5, O 14 (.un .not (t 13))])
 (.cond (t 14) (sq (.ops [O 2 (.mv (n 0))])
 .ret) .skip))
 (sq (.ops [mv 15 3, mv 16 4, O 17 (.idxSl 3 (t 15) (t 16)), fa 18 2 17, ld 19 18, mv 2 19])
 .ret)))))⟩
def f_cluster_see : VFn := ⟨1, [.cell 2 (some 6)], (sq (.ops [O 1 (.box (t 0)), O 2 (.alloc [z, z, z, z, z, (.b false)])])
 (sq (.draw [B (O 3 (.load (some 3) (t 1))), A (fa 4 2 1), B (ld 5 4), B (call 6 k_gcb_Of [(t 5)]), A (fa 7 2 1), B (ld 8 7), B (call 9 k_cols_Of [(t 8)]), A (fa 10 2 1), B (ld 11 10), B (call 12 k_gcb_Pict [(t 11)]), A (O 13 (.buildC [(3, (t 3)), (1, (t 6)), (1, (t 9)), (1, (t 12))])), C (N (.store 6 (t 2) (t 13)))])
 .ret))⟩
def f_cluster_seen_joins : VFn := ⟨2, [.tmp 4], (sq (.ops [O 2 (.box (t 0)), O 3 (.box (t 1)), O 4 (.mv (kb false))])
 (sq (.ops [call 6 k_cluster_behind [], O 5 (.alloc [z, z, z, z, z, z, z, z, z, z, z, z, z, z]), N (.store 14 (t 5) (t 6))])
 (sq (.block 0 (sq (.draw [A (fa 8 0 2), A (fa 9 3 8), B (ld 10 9), A (O 11 (.idxArr 14 1 (t 5) (t 10))), B (ld 12 11), A (fa 13 3 3), B (ld 14 13), A (add 15 .shr (t 12) (t 14)), A (add 16 .and (t 15) (n 1)), A (add 17 .eql (t 16) (n 1)), A (mv 7 17)])
 (.cond (t 7) (sq (.ops [O 4 (.mv (kb true))])
 .ret) (sq (.ops [fa 19 5 3, ld 20 19, mv 21 20, G 22 (.fieldAddr 6 (t 2)) 21 true, G 23 (.load none (t 22)) 21 true, G 24 (.bin .eql (t 23) (n 2)) 21 true, O 25 (.pick (t 21) (t 24) (kb false)), mv 18 25])
 (.cond (t 18) (sq (.ops [O 4 (.mv (kb true))])
 .ret) .skip)))))
 (sq (.ops [fa 26 3 3, ld 27 26, add 28 .eql (t 27) (n 6), mv 29 28, G 30 (.fieldAddr 7 (t 2)) 29 true, G 31 (.load none (t 30)) 29 true, G 32 (.bin .rem (t 31) (n 2)) 29 true, G 33 (.bin .eql (t 32) (n 1)) 29 true, O 34 (.pick (t 29) (t 33) (kb false)), mv 4 34])
 .ret))))⟩
def f_cluster_first : VFn := ⟨2, [.cell 4 (some 6)], (sq (.ops [O 2 (.box (t 0)), O 4 (.alloc [z, z, z, z, z, z])])
 (sq (.ops [fa 6 0 2, fa 7 0 6, ld 8 7, fa 9 0 2, fa 10 1 9, ld 11 10, mv 12 1, mv 13 1, add 14 .add (t 13) (n 1), fa 15 0 2, fa 16 2 15, ld 17 16, fa 18 4 2, ld 19 18, O 20 (.build [z, z, z, z, z, z] [(0, 1, (t 8)), (1, 1, (t 11)), (2, 1, (t 12)), (3, 1, (t 14)), (5, 1, (t 17)), (4, 1, (t 19))]), O 5 (.alloc [z, z, z, z, z, z]), N (.store 6 (t 5) (t 20))])
 (sq (sq (.ops [fa 21 3 2, ld 22 21, add 23 .geq (t 22) (n 1), mv 24 23, G 25 (.fieldAddr 3 (t 2)) 24 true, G 26 (.load none (t 25)) 24 true, G 27 (.bin .leq (t 26) (n 3)) 24 true, O 28 (.pick (t 24) (t 27) (kb false))])
 (.cond (t 28) (.ops [fa 29 4 5, N (.store 1 (t 29) (n 0))]) .skip))
 (sq (.ops [O 30 (.load (some 6) (t 5)), N (.store 6 (t 4) (t 30))])
 .ret))))⟩
def f_cluster_seen_then : VFn := ⟨2, [.cell 4 (some 8)], (sq (.ops [O 2 (.box (t 0)), O 3 (.box (t 1)), O 4 (.alloc [z, z, z, z, z, (.b false), z, z])])
 (sq (.ops [O 6 (.load (some 6) (t 3)), O 7 (.build [z, z, z, z, z, (.b false), z, z] [(0, 6, (t 6))]), O 5 (.alloc [z, z, z, z, z, (.b false), z, z]), N (.store 8 (t 5) (t 7))])
 (sq (.block 0 (sq (.ops [fa 9 5 3, ld 10 9, mv 8 10])
 (.cond (t 8) (.ops [fa 11 6 5, N (.store 1 (t 11) (n 1))]) (sq (.ops [fa 13 3 3, ld 14 13, add 15 .eql (t 14) (n 4), mv 16 15, G 17 (.fieldAddr 6 (t 2)) 16 true, G 18 (.load none (t 17)) 16 true, G 19 (.bin .eql (t 18) (n 1)) 16 true, O 20 (.pick (t 16) (t 19) (kb false)), mv 12 20])
 (.cond (t 12) (.ops [fa 21 6 5, N (.store 1 (t 21) (n 1))]) (sq (.ops [fa 23 3 3, ld 24 23, add 25 .eql (t 24) (n 5), mv 26 25, G 27 (.fieldAddr 6 (t 2)) 26 true, G 28 (.load none (t 27)) 26 true, G 29 (.bin .eql (t 28) (n 1)) 26 true, O 30 (.pick (t 26) (t 29) (kb false)), mv 22 30])
 (.cond (t 22) (.ops [fa 31 6 5, N (.store 1 (t 31) (n 2))]) .skip)))))))
 (sq (sq (.ops [fa 32 3 3, ld 33 32, add 34 .eql (t 33) (n 6)])
 (.cond (t 34) (.ops [fa 35 7 2, ld 36 35, add 37 .add (t 36) (n 1), fa 38 7 5, N (.store 1 (t 38) (t 37))]) .skip))
 (sq (.ops [O 39 (.load (some 8) (t 5)), N (.store 8 (t 4) (t 39))])
 .ret)))))⟩
def f_class_All : VFn := ⟨1, [.tmp 2], (sq (.ops [O 2 (.mv (.const (.slice none 0 0)))])
 (sq (.ops [O 3 (.mv (.const (.slice none 0 0)))])
 (sq (sq (.ops [mv 6 0, O 7 (.lenSl (t 6)), O 8 (.mv (n 0))])
 (.block 0 (.loop [3, 6, 7, 8] (sq (.ops [add 9 .lss (t 8) (t 7)])
 (sq (.cond (t 9) .skip (.exit 0))
 (sq (.block 1 (sq (.ops [O 10 (.idxSl 3 (t 6) (t 8)), O 11 (.load (some 3) (t 10)), O 5 (.alloc [z, z, z]), N (.store 3 (t 5) (t 11))])
 (.ops [mv 12 3, fa 13 2 5, ld 14 13, call 15 k_class_Of [(t 14)], O 16 (.bsliceC 1 1 [(1, (t 15))]), O 17 (.append false [z] 1 8 (t 12) (t 16)), mv 3 17])))
 (.ops [add 18 .add (t 8) (n 1), mv 8 18])))))))
 (sq (.ops [mv 19 3, mv 2 19])
 .ret))))⟩
def f_level_Explicit : VFn := ⟨2, [.tmp 4, .tmp 5], (sq (.ops [O 4 (.mv (.const (.slice none 0 0))), O 5 (.mv (.const (.slice none 0 0)))])
 (sq (sq (.ops [mv 14 1, add 15 .neq (t 14) (n 0), mv 16 15, G 17 (.mv (t 1)) 16 true, G 18 (.bin .neq (t 17) (n 1)) 16 true, O 19 (.pick (t 16) (t 18) (kb false))])
 (.cond (t 19) (sq (.ops [O 4 (.mv (.const (.slice none 0 0))), O 5 (.mv (.const (.slice none 0 0)))])
 .ret) .skip))
 (sq (.ops [mv 20 1, O 21 (.buildC [(1, (t 20)), (1, (.const (.int .i64 (.negSucc 0)))), (1, (kb false))]), O 22 (.bsliceC 3 1 [(3, (t 21))]), O 23 (.build [z, z, .sn, z] [(2, 1, (t 22))]), O 24 (.box (t 23)), mv 6 24])
 (sq (.ops [mv 25 0, call 26 k_base_Match [(t 25)], mv 7 26])
 (sq (sq (.ops [mv 27 0, O 28 (.lenSl (t 27)), O 29 (.mv (n 0))])
 (.block 0 (.loop [0, 1, 4, 5, 6, 7, 27, 28, 29] (sq (.ops [add 30 .lss (t 29) (t 28)])
 (sq (.cond (t 30) .skip (.exit 0))
 (sq (.block 1 (sq (.ops [mv 31 29, O 32 (.idxSl 1 (t 27) (t 29)), ld 33 32, mv 8 31, mv 9 33])
 (sq (.ops [mv 34 6, call 35 k_p_level_walk_last [(t 34)], O 36 (.field 0 none (t 35)), mv 37 9, mv 10 36, mv 11 37])
 (sq (sq (.ops [mv 38 9])
 (.block 2 (sq (.ops [add 43 .eql (t 38) (n 10), mv 42 43])
 (.cond (t 42) (.ops [mv 44 1, mv 10 44]) (sq (.ops [add 46 .eql (t 38) (n 16), mv 45 46])
 (.cond (t 45) (.ops [mv 47 6, call 48 k_p_level_walk_embed [(t 47), (n 1), (.const (.int .i64 (.negSucc 0)))]]) (sq (.ops [add 50 .eql (t 38) (n 14), mv 49 50])
 (.cond (t 49) (.ops [mv 51 6, call 52 k_p_level_walk_embed [(t 51), (n 0), (.const (.int .i64 (.negSucc 0)))]]) (sq (.ops [add 54 .eql (t 38) (n 17), mv 53 54])
 (.cond (t 53) (.ops [mv 55 6, call 56 k_p_level_walk_embed [(t 55), (n 1), (n 1)]]) (sq (.ops [add 58 .eql (t 38) (n 15), mv 57 58])
 (.cond (t 57) (.ops [mv 59 6, call 60 k_p_level_walk_embed [(t 59), (n 0), (n 0)]]) (sq (.ops [add 62 .eql (t 38) (n 18), mv 61 62])
 (.cond (t 61) (.ops [mv 63 6, call 64 k_p_level_walk_ends [(t 63)]]) (sq (.ops [add 66 .eql (t 38) (n 22), mv 65 66])
 (.cond (t 65) (sq (.ops [mv 67 6, call 68 k_p_level_walk_closes [(t 67)]])
 (.ops [mv 69 6, call 70 k_p_level_walk_last [(t 69)], O 71 (.field 0 none (t 70)), mv 72 6, mv 73 9, call 74 k_p_level_walk_seen [(t 72), (t 73)], mv 10 71, mv 11 74])) (sq (.ops [add 76 .eql (t 38) (n 9), mv 75 76])
 (.cond (t 75) .skip (.ops [mv 39 6, mv 40 9, call 41 k_p_level_walk_seen [(t 39), (t 40)], mv 11 41])))))))))))))))))))
 (sq (sq (.ops [mv 77 9])
 (.block 3 (sq (.ops [add 79 .eql (t 77) (n 20), mv 78 79])
 (.cond (t 78) (.ops [mv 80 6, call 81 k_p_level_walk_isolate [(t 80), (n 1)]]) (sq (.ops [add 83 .eql (t 77) (n 19), mv 82 83])
 (.cond (t 82) (.ops [mv 84 6, call 85 k_p_level_walk_isolate [(t 84), (n 0)]]) (sq (.ops [add 87 .eql (t 77) (n 21), mv 86 87])
 (.cond (t 86) (sq (.ops [mv 89 0, mv 90 8, add 91 .add (t 90) (n 1), mv 92 7, mv 93 8, O 94 (.idxSl 1 (t 92) (t 93)), ld 95 94, O 96 (.slSl 1 (t 89) (some (t 91)) (some (t 95)) none), call 97 k_base_Level [(t 96)], mv 88 97, O 98 (.extract (t 88) 0), O 99 (.extract (t 88) 1), mv 12 98, mv 13 99])
 (.ops [mv 100 6, mv 101 12, call 102 k_p_level_walk_isolate [(t 100), (t 101)]])) .skip))))))))
 (sq (sq (.ops [mv 103 9, call 104 k_level_Removed [(t 103)]])
 (.cond (t 104) (.ops [O 10 (.mv (.const (.int .i64 (.negSucc 0))))]) .skip))
 (.ops [mv 105 4, mv 106 10, O 107 (.bsliceC 1 1 [(1, (t 106))]), O 108 (.append false [z] 1 8 (t 105) (t 107)), mv 109 5, mv 110 11, O 111 (.bsliceC 1 1 [(1, (t 110))]), O 112 (.append false [z] 1 8 (t 109) (t 111)), mv 4 108, mv 5 112])))))))
 (.ops [add 113 .add (t 29) (n 1), mv 29 113])))))))
 (sq (.ops [mv 114 4, mv 115 5, mv 4 114, mv 5 115])
 .ret))))))⟩
def f_seqs_Sequences : VFn := ⟨2, [.tmp 4], (sq (.ops [O 4 (.mv (.const (.slice none 0 0)))])
 (sq (.ops [mv 19 0, mv 20 1, call 21 k_level_Explicit [(t 19), (t 20)], mv 18 21, O 22 (.extract (t 18) 0), O 23 (.extract (t 18) 1), mv 5 22, mv 6 23])
 (sq (.ops [mv 24 0, call 25 k_base_Match [(t 24)], mv 7 25])
 (sq (.ops [mv 26 5, call 27 k_seqs_runs [(t 26)], mv 8 27])
 (sq (.ops [O 28 (.mkMap), mv 9 28])
 (sq (.ops [O 10 (.mv (.const (.slice none 0 0)))])
 (sq (sq (.ops [mv 29 8, O 30 (.lenSl (t 29)), O 31 (.mv (n 0))])
 (.block 0 (.loop [0, 1, 7, 8, 9, 10, 29, 30, 31] (sq (.ops [add 32 .lss (t 31) (t 30)])
 (sq (.cond (t 32) .skip (.exit 0))
 (sq (.block 1 (sq (.ops [mv 33 31, O 34 (.idxSl 4 (t 29) (t 31)), O 35 (.load (some 4) (t 34)), O 12 (.alloc [z, z, z, .sn]), mv 11 33, N (.store 4 (t 12) (t 35))])
 (sq (.ops [mv 37 9, fa 38 1 12, ld 39 38, O 40 (.lookup false [.i] z true (t 37) (t 39)), mv 36 40, O 41 (.extract (t 36) 0), O 42 (.extract (t 36) 1), mv 13 41, mv 14 42])
 (sq (sq (.ops [mv 43 14, O 44 (.un .not (t 43))])
 (.cond (t 44) (sq (.ops [mv 45 10, O 46 (.lenSl (t 45)), mv 13 46])
 (.draw [A (mv 47 10), A (fa 48 0 12), B (ld 49 48), A (fa 50 0 12), B (ld 51 50), A (mv 52 8), A (mv 53 11), A (add 54 .sub (t 53) (n 1)), A (mv 55 1), B (call 56 k_seqs_beside [(t 52), (t 54), (t 55)]), B (call 57 k_seqs_way [(t 51), (t 56)]), A (O 58 (.build [z, z, z, .sn] [(0, 1, (t 49)), (1, 1, (t 57))])), B (O 59 (.bsliceC 4 1 [(4, (t 58))])), C (O 60 (.append false [z, z, z, .sn] 4 48 (t 47) (t 59))), A (mv 10 60)])) .skip))
 (sq (.ops [mv 61 10, mv 62 13, O 63 (.idxSl 4 (t 61) (t 62)), mv 15 63])
 (sq (.draw [A (mv 64 15), A (mv 65 15), A (O 66 (.nilCheck (t 65))), A (fa 67 3 66), B (ld 68 67), A (fa 69 3 12), B (ld 70 69), C (O 71 (.append false [z] 1 8 (t 68) (t 70))), A (O 72 (.nilCheck (t 64))), A (fa 73 3 72), C (N (.store 1 (t 73) (t 71)))])
 (sq (.ops [mv 75 8, mv 76 11, mv 77 0, mv 78 7, call 79 k_seqs_goes [(t 75), (t 76), (t 77), (t 78)], mv 74 79, O 80 (.extract (t 74) 0), O 81 (.extract (t 74) 1), mv 16 80, mv 17 81])
 (sq (.ops [mv 82 17])
 (.cond (t 82) (.ops [mv 83 9, mv 84 16, mv 85 13, N (.mapSet false [.i] (t 83) (t 84) (t 85))]) (.draw [A (mv 86 15), A (fa 87 0 12), B (ld 88 87), A (mv 89 8), A (mv 90 11), A (mv 91 1), A (mv 92 0), A (mv 93 7), B (call 94 k_seqs_behind [(t 89), (t 90), (t 91), (t 92), (t 93)]), C (call 95 k_seqs_way [(t 88), (t 94)]), A (O 96 (.nilCheck (t 86))), A (fa 97 2 96), C (N (.store 1 (t 97) (t 95)))]))))))))))
 (.ops [add 98 .add (t 31) (n 1), mv 31 98])))))))
 (sq (.ops [mv 99 10, mv 4 99])
 .ret))))))))⟩
def f_bidi_part_levels : VFn := ⟨4, [.tmp 8], (sq (.ops [O 4 (.box (t 0)), O 8 (.mv (.const (.slice none 0 0)))])
 (sq (.draw [B (O 10 (.load (some 4) (t 4))), A (mv 11 3), B (call 12 k_bidi_part_of [(t 10), (t 11)]), A (fa 13 0 4), A (fa 14 1 13), B (ld 15 14), C (call 16 k_weak_Weak [(t 12), (t 15)]), A (mv 9 16)])
 (sq (.draw [A (mv 17 9), B (O 18 (.load (some 4) (t 4))), A (mv 19 1), B (call 20 k_bidi_part_of [(t 18), (t 19)]), B (O 21 (.load (some 4) (t 4))), A (mv 22 2), B (call 23 k_bidi_part_of [(t 21), (t 22)]), A (fa 24 0 4), A (fa 25 0 24), B (ld 26 25), A (fa 27 0 4), A (fa 28 1 27), B (ld 29 28), C (call 30 k_pairs_Brackets [(t 17), (t 20), (t 23), (t 26), (t 29)]), A (mv 9 30)])
 (sq (.draw [A (mv 31 9), A (fa 32 0 4), A (fa 33 0 32), B (ld 34 33), A (fa 35 0 4), A (fa 36 1 35), B (ld 37 36), A (fa 38 0 4), A (fa 39 2 38), B (ld 40 39), B (call 41 k_neutral_Settle [(t 31), (t 34), (t 37), (t 40)]), A (fa 42 0 4), A (fa 43 0 42), B (ld 44 43), C (call 45 k_neutral_Levels [(t 41), (t 44)]), A (mv 8 45)])
 .ret))))⟩
def f_wrap_Shown : VFn := ⟨1, [.tmp 2], (sq (.ops [O 2 (.mv (n 0))])
 (sq (.ops [mv 4 0, O 5 (.lenSl (t 4)), mv 3 5])
 (sq (sq (.ops [mv 6 3, add 7 .gtr (t 6) (n 0), mv 8 7, G 9 (.mv (t 0)) 8 true, G 10 (.mv (t 3)) 8 true, G 11 (.bin .sub (t 10) (n 1)) 8 true, G 12 (.idxSl 6 (t 9) (t 11)) 8 true, G 13 (.load (some 6) (t 12)) 8 true, G 14 (.call (fu k_wrap_Break) [(t 13)]) 8 true, O 15 (.pick (t 8) (t 14) (kb false))])
 (.cond (t 15) (.ops [mv 16 3, add 17 .sub (t 16) (n 1), mv 3 17]) .skip))
 (sq (.ops [mv 18 3, mv 2 18])
 .ret))))⟩
def f_clip_look_may : VFn := ⟨1, [.tmp 2], (sq (.ops [O 1 (.box (t 0)), O 2 (.mv (kb false))])
 (sq (.ops [fa 3 0 1, fa 4 0 3, ld 5 4, add 6 .geq (t 5) (n 0), mv 7 6, G 8 (.fieldAddr 0 (t 1)) 7 true, G 9 (.fieldAddr 0 (t 8)) 7 true, G 10 (.load none (t 9)) 7 true, G 11 (.fieldAddr 0 (t 1)) 7 true, G 12 (.fieldAddr 2 (t 11)) 7 true, G 13 (.load none (t 12)) 7 true, G 14 (.bin .leq (t 10) (t 13)) 7 true, O 15 (.pick (t 7) (t 14) (kb false)), mv 16 15, G 17 (.fieldAddr 0 (t 1)) 16 true, G 18 (.fieldAddr 2 (t 17)) 16 true, G 19 (.load none (t 18)) 16 true, G 20 (.fieldAddr 0 (t 1)) 16 true, G 21 (.fieldAddr 1 (t 20)) 16 true, G 22 (.load none (t 21)) 16 true, G 23 (.bin .leq (t 19) (t 22)) 16 true, O 24 (.pick (t 16) (t 23) (kb false)), mv 25 24, G 26 (.fieldAddr 0 (t 1)) 25 true, G 27 (.fieldAddr 1 (t 26)) 25 true, G 28 (.load none (t 27)) 25 true, G 29 (.fieldAddr 5 (t 1)) 25 true, G 30 (.load none (t 29)) 25 true, G 31 (.lenSl (t 30)) 25 true, G 32 (.bin .leq (t 28) (t 31)) 25 true, O 33 (.pick (t 25) (t 32) (kb false)), mv 2 33])
 .ret))⟩
def f_clip_look_fits : VFn := ⟨2, [.tmp 4], (sq (.ops [O 2 (.box (t 0)), O 4 (.mv (n 0))])
 (sq (sq (.ops [mv 5 1, add 6 .lss (t 5) (n 0)])
 (.cond (t 6) (sq (.ops [fa 7 0 2, fa 8 0 7, ld 9 8, mv 4 9])
 .ret) .skip))
 (sq (.draw [A (fa 10 5 2), B (ld 11 10), A (fa 12 0 2), A (fa 13 2 12), B (ld 14 13), A (O 15 (.slSl 6 (t 11) none (some (t 14)) none)), A (fa 16 0 2), A (fa 17 0 16), B (ld 18 17), A (mv 19 1), C (call 20 k_wrap_Fits [(t 15), (t 18), (t 19)]), A (mv 4 20)])
 .ret)))⟩
def f_place_has : VFn := ⟨2, [.tmp 4], (sq (.ops [O 2 (.box (t 0)), O 4 (.mv (kb false))])
 (sq (.ops [fa 5 0 2, ld 6 5, add 7 .geq (t 6) (n 0), mv 8 7, G 9 (.fieldAddr 0 (t 2)) 8 true, G 10 (.load none (t 9)) 8 true, G 11 (.fieldAddr 2 (t 2)) 8 true, G 12 (.load none (t 11)) 8 true, G 13 (.bin .leq (t 10) (t 12)) 8 true, O 14 (.pick (t 8) (t 13) (kb false)), mv 15 14, G 16 (.fieldAddr 2 (t 2)) 15 true, G 17 (.load none (t 16)) 15 true, G 18 (.fieldAddr 1 (t 2)) 15 true, G 19 (.load none (t 18)) 15 true, G 20 (.bin .leq (t 17) (t 19)) 15 true, O 21 (.pick (t 15) (t 20) (kb false)), mv 22 21, G 23 (.fieldAddr 1 (t 2)) 22 true, G 24 (.load none (t 23)) 22 true, G 25 (.mv (t 1)) 22 true, G 26 (.bin .leq (t 24) (t 25)) 22 true, O 27 (.pick (t 22) (t 26) (kb false)), mv 4 27])
 .ret))⟩
def f_bidi_Line : VFn := ⟨3, [.tmp 6], (sq (.ops [O 5 (.box (t 2)), O 6 (.mv (.const (.slice none 0 0)))])
 (sq (sq (.ops [mv 12 0, O 13 (.lenSl (t 12)), mv 14 1, O 15 (.lenSl (t 14)), add 16 .neq (t 13) (t 15)])
 (.cond (t 16) (sq (.ops [O 6 (.mv (.const (.slice none 0 0)))])
 .ret) .skip))
 (sq (.ops [mv 17 1, call 18 k_slices_Clone_Lint_int [(t 17)], O 7 (.alloc [.sn]), N (.store 1 (t 7) (t 18))])
 (sq (.ops [O 8 (.alloc [(.b false)]), N (.store 1 (t 8) (kb true))])
 (sq (sq (.ops [mv 19 0, call 20 k_slices_Backward_LRune_Rune [(t 19)]])
 (.block 0 (.rangeFunc (t 20) [21, 22] (sq (.ops [mv 9 21])
 (.ops [O 10 (.alloc [z, z, z]), N (.store 3 (t 10) (t 22))])) (.block 1 (sq (.ops [fa 23 2 10, ld 24 23, call 25 k_class_Of [(t 24)], mv 11 25])
 (sq (.ops [mv 26 11, add 27 .eql (t 26) (n 11), mv 28 27, G 29 (.mv (t 11)) 28 false, G 30 (.bin .eql (t 29) (n 10)) 28 false, O 31 (.pick (t 28) (kb true) (t 30)), mv 32 31, G 33 (.load none (t 8)) 32 false, G 34 (.mv (t 33)) 32 false, G 35 (.mv (t 11)) 34 true, G 36 (.call (fu k_bidi_blank) [(t 35)]) 34 true, G 37 (.pick (t 34) (t 36) (kb false)) 32 false, O 38 (.pick (t 32) (kb true) (t 37)), N (.store 1 (t 8) (t 38))])
 (sq (.ops [ld 39 8])
 (.cond (t 39) (.ops [ld 40 7, mv 41 9, ld 42 5, O 43 (.idxSl 1 (t 40) (t 41)), N (.store 1 (t 43) (t 42))]) .skip))))))))
 (sq (.ops [ld 44 7, mv 6 44])
 .ret))))))⟩
def f_place_laid_seen : VFn := ⟨1, [.tmp 2, .tmp 3], (sq (.ops [O 1 (.box (t 0)), O 2 (.mv (.const (.slice none 0 0))), O 3 (.mv (.const (.slice none 0 0)))])
 (sq (sq (.ops [fa 6 5 1, ld 7 6, fa 8 0 1, fa 9 0 8, ld 10 9, fa 11 0 1, fa 12 2 11, ld 13 12, O 14 (.slSl 6 (t 7) (some (t 10)) (some (t 13)) none), O 15 (.lenSl (t 14)), O 16 (.mv (n 0))])
 (.block 0 (.loop [1, 2, 3, 14, 15, 16] (sq (.ops [add 17 .lss (t 16) (t 15)])
 (sq (.cond (t 17) .skip (.exit 0))
 (sq (.block 1 (sq (.ops [O 18 (.idxSl 6 (t 14) (t 16)), O 19 (.load (some 6) (t 18)), O 5 (.alloc [z, z, z, z, z, z]), N (.store 6 (t 5) (t 19))])
 (sq (.ops [fa 20 4 5, ld 21 20, add 22 .gtr (t 21) (n 0)])
 (.cond (t 22) (.draw [A (mv 23 2), B (O 24 (.load (some 6) (t 5))), B (O 25 (.bsliceC 6 1 [(6, (t 24))])), C (O 26 (.append false [z, z, z, z, z, z] 6 48 (t 23) (t 25))), A (mv 27 3), A (fa 28 6 1), ⟨ld 29 28, 1, [3]⟩, A (fa 30 2 5), ⟨ld 31 30, 1, [3]⟩, A (fa 32 7 1), ⟨ld 33 32, 1, [3]⟩, A (add 34 .sub (t 31) (t 33)), A (O 35 (.idxSl 1 (t 29) (t 34))), ⟨ld 36 35, 1, [3]⟩, B (O 37 (.bsliceC 1 1 [(1, (t 36))])), C (O 38 (.append false [z] 1 8 (t 27) (t 37))), A (mv 2 26), A (mv 3 38)]) .skip))))
 (.ops [add 39 .add (t 16) (n 1), mv 16 39])))))))
 (sq (.ops [mv 40 2, mv 41 3, mv 2 40, mv 3 41])
 .ret)))⟩
def f_bidi_Order : VFn := ⟨1, [.tmp 2], (sq (.ops [O 2 (.mv (.const (.slice none 0 0)))])
 (sq (.ops [mv 5 0, call 6 k_slices_Clone_Lint_int [(t 5)], mv 3 6])
 (sq (sq (.ops [mv 7 3, O 8 (.lenSl (t 7)), O 9 (.mv (n 0))])
 (.block 0 (.loop [3, 8, 9] (sq (.ops [add 10 .lss (t 9) (t 8)])
 (sq (.cond (t 10) .skip (.exit 0))
 (sq (.block 1 (sq (.ops [mv 11 9, mv 4 11])
 (.ops [mv 12 3, mv 13 4, mv 14 3, mv 15 4, O 16 (.idxSl 1 (t 14) (t 15)), ld 17 16, O 18 (.mnmx true (t 17) [(n 0)]), O 19 (.mnmx false (t 18) [(n 126)]), O 20 (.idxSl 1 (t 12) (t 13)), N (.store 1 (t 20) (t 19))])))
 (.ops [add 21 .add (t 9) (n 1), mv 9 21])))))))
 (sq (.ops [mv 22 3, mv 23 3, O 24 (.lenSl (t 23)), call 25 k_bidi_turn [(t 22), (n 0), (t 24), (n 1)], mv 2 25])
 .ret))))⟩
def f_bidi_Shown : VFn := ⟨2, [.tmp 4], (sq (.ops [O 4 (.mv (n 0))])
 (sq (sq (.ops [mv 5 1, add 6 .and (t 5) (n 1), add 7 .eql (t 6) (n 1)])
 (.cond (t 7) (sq (.ops [mv 8 0, call 9 k_mirror_Glyph [(t 8)], mv 4 9])
 .ret) .skip))
 (sq (.ops [mv 10 0, mv 4 10])
 .ret)))⟩
def f_slices_Grow_LSlot_Slot : VFn := ⟨2, [.tmp 4], (sq (.ops [O 4 (.mv (.const (.slice none 0 0)))])
 (sq (sq (.ops [mv 5 1, add 6 .lss (t 5) (n 0)])
 (.cond (t 6) (.ops [O 7 (.mkIface 9 (.const (.string ⟨⟨[99, 97, 110, 110, 111, 116, 32, 98, 101, 32, 110, 101, 103, 97, 116, 105, 118, 101]⟩⟩))), N (.die)]) .skip))
 (sq (sq (.ops [mv 8 1, mv 9 0, O 10 (.cap (t 9)), mv 11 0, O 12 (.lenSl (t 11)), add 13 .sub (t 10) (t 12), add 14 .sub (t 8) (t 13), mv 1 14])
 (sq (.ops [mv 15 1, add 16 .gtr (t 15) (n 0)])
 (.cond (t 16) (.ops [mv 17 0, mv 18 0, O 19 (.cap (t 18)), O 20 (.slSl 6 (t 17) none (some (t 19)) none), mv 21 1, O 22 (.append true [z, z, z, z, z, z] 6 48 (t 20) (t 21)), mv 23 0, O 24 (.lenSl (t 23)), O 25 (.slSl 6 (t 22) none (some (t 24)) none), mv 0 25]) .skip)))
 (sq (.ops [mv 26 0, mv 4 26])
 .ret))))⟩
def f_math_bits_Mul64 : VFn := ⟨2, [.tmp 4, .tmp 5], (sq (.ops [O 4 (.mv (.const (.int .u64 (.ofNat 0)))), O 5 (.mv (.const (.int .u64 (.ofNat 0))))])
 (sq (.ops [mv 14 0, add 15 .and (t 14) (.const (.int .u64 (.ofNat 4294967295))), mv 6 15])
 (sq (.ops [mv 16 0, add 17 .shr (t 16) (.const (.int .u64 (.ofNat 32))), mv 7 17])
 (sq (.ops [mv 18 1, add 19 .and (t 18) (.const (.int .u64 (.ofNat 4294967295))), mv 8 19])
 (sq (.ops [mv 20 1, add 21 .shr (t 20) (.const (.int .u64 (.ofNat 32))), mv 9 21])
 (sq (.ops [mv 22 6, mv 23 8, add 24 .mul (t 22) (t 23), mv 10 24])
 (sq (.ops [mv 25 7, mv 26 8, add 27 .mul (t 25) (t 26), mv 28 10, add 29 .shr (t 28) (.const (.int .u64 (.ofNat 32))), add 30 .add (t 27) (t 29), mv 11 30])
 (sq (.ops [mv 31 11, add 32 .and (t 31) (.const (.int .u64 (.ofNat 4294967295))), mv 12 32])
 (sq (.ops [mv 33 11, add 34 .shr (t 33) (.const (.int .u64 (.ofNat 32))), mv 13 34])
 (sq (.ops [mv 35 12, mv 36 6, mv 37 9, add 38 .mul (t 36) (t 37), add 39 .add (t 35) (t 38), mv 12 39])
 (sq (.ops [mv 40 7, mv 41 9, add 42 .mul (t 40) (t 41), mv 43 13, add 44 .add (t 42) (t 43), mv 45 12, add 46 .shr (t 45) (.const (.int .u64 (.ofNat 32))), add 47 .add (t 44) (t 46), mv 4 47])
 (sq (.ops [mv 48 0, mv 49 1, add 50 .mul (t 48) (t 49), mv 5 50])
 .ret))))))))))))⟩
def f_math_bits_Len64 : VFn := ⟨1, [.tmp 2], (sq (.ops [O 2 (.mv (n 0))])
 (sq (sq (.ops [mv 3 0, add 4 .geq (t 3) (.const (.int .u64 (.ofNat 4294967296)))])
 (.cond (t 4) (sq (.ops [mv 5 0, add 6 .shr (t 5) (.const (.int .u64 (.ofNat 32))), mv 0 6])
 (.ops [O 2 (.mv (n 32))])) .skip))
 (sq (sq (.ops [mv 7 0, add 8 .geq (t 7) (.const (.int .u64 (.ofNat 65536)))])
 (.cond (t 8) (sq (.ops [mv 9 0, add 10 .shr (t 9) (.const (.int .u64 (.ofNat 16))), mv 0 10])
 (.ops [mv 11 2, add 12 .add (t 11) (n 16), mv 2 12])) .skip))
 (sq (sq (.ops [mv 13 0, add 14 .geq (t 13) (.const (.int .u64 (.ofNat 256)))])
 (.cond (t 14) (sq (.ops [mv 15 0, add 16 .shr (t 15) (.const (.int .u64 (.ofNat 8))), mv 0 16])
 (.ops [mv 17 2, add 18 .add (t 17) (n 8), mv 2 18])) .skip))
 (sq (.ops [mv 19 2, mv 20 0, O 21 (.toInt .u8 (t 20)), O 22 (.idxStr (.const (.string ⟨⟨[0, 1, 2, 2, 3, 3, 3, 3, 4, 4, 4, 4, 4, 4, 4, 4, 5, 5, 5, 5, 5, 5, 5, 5, 5, 5, 5, 5, 5, 5, 5, 5, 6, 6, 6, 6, 6, 6, 6, 6, 6, 6, 6, 6, 6, 6, 6, 6, 6, 6, 6, 6, 6, 6, 6, 6, 6, 6, 6, 6, 6, 6, 6, 6, 7, 7, 7, 7, 7, 7, 7, 7, 7, 7, 7, 7, 7, 7, 7, 7, 7, 7, 7, 7, 7, 7, 7, 7, 7, 7, 7, 7, 7, 7, 7, 7, 7, 7, 7, 7, 7, 7, 7, 7, 7, 7, 7, 7, 7, 7, 7, 7, 7, 7, 7, 7, 7, 7, 7, 7, 7, 7, 7, 7, 7, 7, 7, 7, 8, 8, 8, 8, 8, 8, 8, 8, 8, 8, 8, 8, 8, 8, 8, 8, 8, 8, 8, 8, 8, 8, 8, 8, 8, 8, 8, 8, 8, 8, 8, 8, 8, 8, 8, 8, 8, 8, 8, 8, 8, 8, 8, 8, 8, 8, 8, 8, 8, 8, 8, 8, 8, 8, 8, 8, 8, 8, 8, 8, 8, 8, 8, 8, 8, 8, 8, 8, 8, 8, 8, 8, 8, 8, 8, 8, 8, 8, 8, 8, 8, 8, 8, 8, 8, 8, 8, 8, 8, 8, 8, 8, 8, 8, 8, 8, 8, 8, 8, 8, 8, 8, 8, 8, 8, 8, 8, 8, 8, 8, 8, 8, 8, 8, 8, 8, 8, 8, 8, 8, 8, 8, 8, 8, 8, 8, 8, 8]⟩⟩)) (t 21)), O 23 (.toInt .i64 (t 22)), add 24 .add (t 19) (t 23), mv 2 24])
 .ret)))))⟩
def f_class_spans : VFn := ⟨0, [.tmp 0], (sq (.ops [O 0 (.mv (.const (.slice none 0 0)))])
 (sq (.ops [O 1 (.buildC [(1, (n 0)), (1, (n 8)), (1, (n 9))]), O 2 (.buildC [(1, (n 9)), (1, (n 9)), (1, (n 11))]), O 3 (.buildC [(1, (n 10)), (1, (n 10)), (1, (n 10))]), O 4 (.buildC [(1, (n 11)), (1, (n 11)), (1, (n 11))]), O 5 (.buildC [(1, (n 12)), (1, (n 12)), (1, (n 12))]), O 6 (.buildC [(1, (n 13)), (1, (n 13)), (1, (n 10))]), O 7 (.buildC [(1, (n 14)), (1, (n 27)), (1, (n 9))]), O 8 (.buildC [(1, (n 28)), (1, (n 30)), (1, (n 10))]), O 9 (.buildC [(1, (n 31)), (1, (n 31)), (1, (n 11))]), O 10 (.buildC [(1, (n 32)), (1, (n 32)), (1, (n 12))]), O 11 (.buildC [(1, (n 33)), (1, (n 34)), (1, (n 13))]), O 12 (.buildC [(1, (n 35)), (1, (n 37)), (1, (n 5))]), O 13 (.buildC [(1, (n 38)), (1, (n 42)), (1, (n 13))]), O 14 (.buildC [(1, (n 43)), (1, (n 43)), (1, (n 4))]), O 15 (.buildC [(1, (n 44)), (1, (n 44)), (1, (n 7))]), O 16 (.buildC [(1, (n 45)), (1, (n 45)), (1, (n 4))]), O 17 (.buildC [(1, (n 46)), (1, (n 47)), (1, (n 7))]), O 18 (.buildC [(1, (n 48)), (1, (n 57)), (1, (n 3))]), O 19 (.buildC [(1, (n 58)), (1, (n 58)), (1, (n 7))]), O 20 (.buildC [(1, (n 59)), (1, (n 64)), (1, (n 13))]), O 21 (.buildC [(1, (n 91)), (1, (n 96)), (1, (n 13))]), O 22 (.buildC [(1, (n 123)), (1, (n 126)), (1, (n 13))]), O 23 (.buildC [(1, (n 127)), (1, (n 132)), (1, (n 9))]), O 24 (.buildC [(1, (n 133)), (1, (n 133)), (1, (n 10))]), O 25 (.buildC [(1, (n 134)), (1, (n 159)), (1, (n 9))]), O 26 (.buildC [(1, (n 160)), (1, (n 160)), (1, (n 7))]), O 27 (.buildC [(1, (n 161)), (1, (n 161)), (1, (n 13))]), O 28 (.buildC [(1, (n 162)), (1, (n 165)), (1, (n 5))]), O 29 (.buildC [(1, (n 166)), (1, (n 169)), (1, (n 13))]), O 30 (.buildC [(1, (n 171)), (1, (n 172)), (1, (n 13))]), O 31 (.buildC [(1, (n 173)), (1, (n 173)), (1, (n 9))]), O 32 (.buildC [(1, (n 174)), (1, (n 175)), (1, (n 13))]), O 33 (.buildC [(1, (n 176)), (1, (n 177)), (1, (n 5))]), O 34 (.buildC [(1, (n 178)), (1, (n 179)), (1, (n 3))]), O 35 (.buildC [(1, (n 180)), (1, (n 180)), (1, (n 13))]), O 36 (.buildC [(1, (n 182)), (1, (n 184)), (1, (n 13))]), O 37 (.buildC [(1, (n 185)), (1, (n 185)), (1, (n 3))]), O 38 (.buildC [(1, (n 187)), (1, (n 191)), (1, (n 13))]), O 39 (.buildC [(1, (n 215)), (1, (n 215)), (1, (n 13))]), O 40 (.buildC [(1, (n 247)), (1, (n 247)), (1, (n 13))]), O 41 (.buildC [(1, (n 768)), (1, (n 879)), (1, (n 8))]), O 42 (.buildC [(1, (n 1155)), (1, (n 1161)), (1, (n 8))]), O 43 (.buildC [(1, (n 1423)), (1, (n 1423)), (1, (n 5))]), O 44 (.buildC [(1, (n 1424)), (1, (n 1424)), (1, (n 1))]), O 45 (.buildC [(1, (n 1425)), (1, (n 1469)), (1, (n 8))]), O 46 (.buildC [(1, (n 1470)), (1, (n 1470)), (1, (n 1))]), O 47 (.buildC [(1, (n 1471)), (1, (n 1471)), (1, (n 8))]), O 48 (.buildC [(1, (n 1472)), (1, (n 1472)), (1, (n 1))]), O 49 (.buildC [(1, (n 1473)), (1, (n 1474)), (1, (n 8))]), O 50 (.buildC [(1, (n 1475)), (1, (n 1475)), (1, (n 1))]), O 51 (.buildC [(1, (n 1476)), (1, (n 1477)), (1, (n 8))]), O 52 (.buildC [(1, (n 1478)), (1, (n 1478)), (1, (n 1))]), O 53 (.buildC [(1, (n 1479)), (1, (n 1479)), (1, (n 8))]), O 54 (.buildC [(1, (n 1480)), (1, (n 1535)), (1, (n 1))]), O 55 (.buildC [(1, (n 1536)), (1, (n 1541)), (1, (n 6))]), O 56 (.buildC [(1, (n 1542)), (1, (n 1543)), (1, (n 13))]), O 57 (.buildC [(1, (n 1544)), (1, (n 1544)), (1, (n 2))]), O 58 (.buildC [(1, (n 1545)), (1, (n 1546)), (1, (n 5))]), O 59 (.buildC [(1, (n 1547)), (1, (n 1547)), (1, (n 2))]), O 60 (.buildC [(1, (n 1548)), (1, (n 1548)), (1, (n 7))]), O 61 (.buildC [(1, (n 1549)), (1, (n 1549)), (1, (n 2))]), O 62 (.buildC [(1, (n 1550)), (1, (n 1551)), (1, (n 13))]), O 63 (.buildC [(1, (n 1552)), (1, (n 1562)), (1, (n 8))]), O 64 (.buildC [(1, (n 1563)), (1, (n 1610)), (1, (n 2))]), O 65 (.buildC [(1, (n 1611)), (1, (n 1631)), (1, (n 8))]), O 66 (.buildC [(1, (n 1632)), (1, (n 1641)), (1, (n 6))]), O 67 (.buildC [(1, (n 1642)), (1, (n 1642)), (1, (n 5))]), O 68 (.buildC [(1, (n 1643)), (1, (n 1644)), (1, (n 6))]), O 69 (.buildC [(1, (n 1645)), (1, (n 1647)), (1, (n 2))]), O 70 (.buildC [(1, (n 1648)), (1, (n 1648)), (1, (n 8))]), O 71 (.buildC [(1, (n 1649)), (1, (n 1749)), (1, (n 2))]), O 72 (.buildC [(1, (n 1750)), (1, (n 1756)), (1, (n 8))]), O 73 (.buildC [(1, (n 1757)), (1, (n 1757)), (1, (n 6))]), O 74 (.buildC [(1, (n 1758)), (1, (n 1758)), (1, (n 13))]), O 75 (.buildC [(1, (n 1759)), (1, (n 1764)), (1, (n 8))]), O 76 (.buildC [(1, (n 1765)), (1, (n 1766)), (1, (n 2))]), O 77 (.buildC [(1, (n 1767)), (1, (n 1768)), (1, (n 8))]), O 78 (.buildC [(1, (n 1769)), (1, (n 1769)), (1, (n 13))]), O 79 (.buildC [(1, (n 1770)), (1, (n 1773)), (1, (n 8))]), O 80 (.buildC [(1, (n 1774)), (1, (n 1775)), (1, (n 2))]), O 81 (.buildC [(1, (n 1776)), (1, (n 1785)), (1, (n 3))]), O 82 (.buildC [(1, (n 1786)), (1, (n 1791)), (1, (n 2))]), O 83 (.buildC [(1, (n 1872)), (1, (n 1919)), (1, (n 2))]), O 84 (.buildC [(1, (n 2274)), (1, (n 2274)), (1, (n 6))]), O 85 (.buildC [(1, (n 2364)), (1, (n 2364)), (1, (n 8))]), O 86 (.buildC [(1, (n 2369)), (1, (n 2376)), (1, (n 8))]), O 87 (.buildC [(1, (n 2381)), (1, (n 2381)), (1, (n 8))]), O 88 (.buildC [(1, (n 5760)), (1, (n 5760)), (1, (n 12))]), O 89 (.buildC [(1, (n 8192)), (1, (n 8202)), (1, (n 12))]), O 90 (.buildC [(1, (n 8203)), (1, (n 8205)), (1, (n 9))]), O 91 (.buildC [(1, (n 8207)), (1, (n 8207)), (1, (n 1))]), O 92 (.buildC [(1, (n 8208)), (1, (n 8231)), (1, (n 13))]), O 93 (.buildC [(1, (n 8232)), (1, (n 8232)), (1, (n 12))]), O 94 (.buildC [(1, (n 8233)), (1, (n 8233)), (1, (n 10))]), O 95 (.buildC [(1, (n 8234)), (1, (n 8234)), (1, (n 14))]), O 96 (.buildC [(1, (n 8235)), (1, (n 8235)), (1, (n 16))]), O 97 (.buildC [(1, (n 8236)), (1, (n 8236)), (1, (n 18))]), O 98 (.buildC [(1, (n 8237)), (1, (n 8237)), (1, (n 15))]), O 99 (.buildC [(1, (n 8238)), (1, (n 8238)), (1, (n 17))]), O 100 (.buildC [(1, (n 8239)), (1, (n 8239)), (1, (n 7))]), O 101 (.buildC [(1, (n 8240)), (1, (n 8244)), (1, (n 5))]), O 102 (.buildC [(1, (n 8245)), (1, (n 8259)), (1, (n 13))]), O 103 (.buildC [(1, (n 8260)), (1, (n 8260)), (1, (n 7))]), O 104 (.buildC [(1, (n 8261)), (1, (n 8286)), (1, (n 13))]), O 105 (.buildC [(1, (n 8287)), (1, (n 8287)), (1, (n 12))]), O 106 (.buildC [(1, (n 8288)), (1, (n 8293)), (1, (n 9))]), O 107 (.buildC [(1, (n 8294)), (1, (n 8294)), (1, (n 19))]), O 108 (.buildC [(1, (n 8295)), (1, (n 8295)), (1, (n 20))]), O 109 (.buildC [(1, (n 8296)), (1, (n 8296)), (1, (n 21))]), O 110 (.buildC [(1, (n 8297)), (1, (n 8297)), (1, (n 22))]), O 111 (.buildC [(1, (n 8298)), (1, (n 8303)), (1, (n 9))]), O 112 (.buildC [(1, (n 8304)), (1, (n 8304)), (1, (n 3))]), O 113 (.buildC [(1, (n 8308)), (1, (n 8313)), (1, (n 3))]), O 114 (.buildC [(1, (n 8314)), (1, (n 8315)), (1, (n 4))]), O 115 (.buildC [(1, (n 8316)), (1, (n 8318)), (1, (n 13))]), O 116 (.buildC [(1, (n 8320)), (1, (n 8329)), (1, (n 3))]), O 117 (.buildC [(1, (n 8330)), (1, (n 8331)), (1, (n 4))]), O 118 (.buildC [(1, (n 8332)), (1, (n 8334)), (1, (n 13))]), O 119 (.buildC [(1, (n 8352)), (1, (n 8399)), (1, (n 5))]), O 120 (.buildC [(1, (n 8400)), (1, (n 8432)), (1, (n 8))]), O 121 (.buildC [(1, (n 8592)), (1, (n 8721)), (1, (n 13))]), O 122 (.buildC [(1, (n 8722)), (1, (n 8722)), (1, (n 4))]), O 123 (.buildC [(1, (n 8723)), (1, (n 8723)), (1, (n 5))]), O 124 (.buildC [(1, (n 8724)), (1, (n 9013)), (1, (n 13))]), O 125 (.buildC [(1, (n 9352)), (1, (n 9371)), (1, (n 3))]), O 126 (.buildC [(1, (n 9472)), (1, (n 9899)), (1, (n 13))]), O 127 (.buildC [(1, (n 9901)), (1, (n 10239)), (1, (n 13))]), O 128 (.buildC [(1, (n 11904)), (1, (n 11929)), (1, (n 13))]), O 129 (.buildC [(1, (n 12288)), (1, (n 12288)), (1, (n 12))]), O 130 (.buildC [(1, (n 12289)), (1, (n 12292)), (1, (n 13))]), O 131 (.buildC [(1, (n 12296)), (1, (n 12320)), (1, (n 13))]), O 132 (.buildC [(1, (n 12330)), (1, (n 12333)), (1, (n 8))]), O 133 (.buildC [(1, (n 12336)), (1, (n 12336)), (1, (n 13))]), O 134 (.buildC [(1, (n 12441)), (1, (n 12442)), (1, (n 8))]), O 135 (.buildC [(1, (n 64285)), (1, (n 64285)), (1, (n 1))]), O 136 (.buildC [(1, (n 64286)), (1, (n 64286)), (1, (n 8))]), O 137 (.buildC [(1, (n 64287)), (1, (n 64296)), (1, (n 1))]), O 138 (.buildC [(1, (n 64297)), (1, (n 64297)), (1, (n 4))]), O 139 (.buildC [(1, (n 64298)), (1, (n 64335)), (1, (n 1))]), O 140 (.buildC [(1, (n 65024)), (1, (n 65039)), (1, (n 8))]), O 141 (.buildC [(1, (n 65056)), (1, (n 65071)), (1, (n 8))]), O 142 (.buildC [(1, (n 65104)), (1, (n 65104)), (1, (n 7))]), O 143 (.buildC [(1, (n 65106)), (1, (n 65106)), (1, (n 7))]), O 144 (.buildC [(1, (n 65109)), (1, (n 65109)), (1, (n 7))]), O 145 (.buildC [(1, (n 65119)), (1, (n 65119)), (1, (n 5))]), O 146 (.buildC [(1, (n 65122)), (1, (n 65123)), (1, (n 4))]), O 147 (.buildC [(1, (n 65129)), (1, (n 65130)), (1, (n 5))]), O 148 (.buildC [(1, (n 65136)), (1, (n 65278)), (1, (n 2))]), O 149 (.buildC [(1, (n 65279)), (1, (n 65279)), (1, (n 9))]), O 150 (.buildC [(1, (n 65281)), (1, (n 65282)), (1, (n 13))]), O 151 (.buildC [(1, (n 65283)), (1, (n 65285)), (1, (n 5))]), O 152 (.buildC [(1, (n 65286)), (1, (n 65290)), (1, (n 13))]), O 153 (.buildC [(1, (n 65291)), (1, (n 65291)), (1, (n 4))]), O 154 (.buildC [(1, (n 65292)), (1, (n 65292)), (1, (n 7))]), O 155 (.buildC [(1, (n 65293)), (1, (n 65293)), (1, (n 4))]), O 156 (.buildC [(1, (n 65294)), (1, (n 65295)), (1, (n 7))]), O 157 (.buildC [(1, (n 65296)), (1, (n 65305)), (1, (n 3))]), O 158 (.buildC [(1, (n 65306)), (1, (n 65306)), (1, (n 7))]), O 159 (.buildC [(1, (n 65307)), (1, (n 65312)), (1, (n 13))]), O 160 (.buildC [(1, (n 65339)), (1, (n 65344)), (1, (n 13))]), O 161 (.buildC [(1, (n 65371)), (1, (n 65381)), (1, (n 13))]), O 162 (.buildC [(1, (n 65504)), (1, (n 65505)), (1, (n 5))]), O 163 (.buildC [(1, (n 65509)), (1, (n 65510)), (1, (n 5))]), O 164 (.buildC [(1, (n 65529)), (1, (n 65533)), (1, (n 13))]), O 165 (.buildC [(1, (n 127744)), (1, (n 128591)), (1, (n 13))]), O 166 (.buildC [(1, (n 917760)), (1, (n 917999)), (1, (n 8))]), O 167 (.bsliceC 3 166 [(3, (t 1)), (3, (t 2)), (3, (t 3)), (3, (t 4)), (3, (t 5)), (3, (t 6)), (3, (t 7)), (3, (t 8)), (3, (t 9)), (3, (t 10)), (3, (t 11)), (3, (t 12)), (3, (t 13)), (3, (t 14)), (3, (t 15)), (3, (t 16)), (3, (t 17)), (3, (t 18)), (3, (t 19)), (3, (t 20)), (3, (t 21)), (3, (t 22)), (3, (t 23)), (3, (t 24)), (3, (t 25)), (3, (t 26)), (3, (t 27)), (3, (t 28)), (3, (t 29)), (3, (t 30)), (3, (t 31)), (3, (t 32)), (3, (t 33)), (3, (t 34)), (3, (t 35)), (3, (t 36)), (3, (t 37)), (3, (t 38)), (3, (t 39)), (3, (t 40)), (3, (t 41)), (3, (t 42)), (3, (t 43)), (3, (t 44)), (3, (t 45)), (3, (t 46)), (3, (t 47)), (3, (t 48)), (3, (t 49)), (3, (t 50)), (3, (t 51)), (3, (t 52)), (3, (t 53)), (3, (t 54)), (3, (t 55)), (3, (t 56)), (3, (t 57)), (3, (t 58)), (3, (t 59)), (3, (t 60)), (3, (t 61)), (3, (t 62)), (3, (t 63)), (3, (t 64)), (3, (t 65)), (3, (t 66)), (3, (t 67)), (3, (t 68)), (3, (t 69)), (3, (t 70)), (3, (t 71)), (3, (t 72)), (3, (t 73)), (3, (t 74)), (3, (t 75)), (3, (t 76)), (3, (t 77)), (3, (t 78)), (3, (t 79)), (3, (t 80)), (3, (t 81)), (3, (t 82)), (3, (t 83)), (3, (t 84)), (3, (t 85)), (3, (t 86)), (3, (t 87)), (3, (t 88)), (3, (t 89)), (3, (t 90)), (3, (t 91)), (3, (t 92)), (3, (t 93)), (3, (t 94)), (3, (t 95)), (3, (t 96)), (3, (t 97)), (3, (t 98)), (3, (t 99)), (3, (t 100)), (3, (t 101)), (3, (t 102)), (3, (t 103)), (3, (t 104)), (3, (t 105)), (3, (t 106)), (3, (t 107)), (3, (t 108)), (3, (t 109)), (3, (t 110)), (3, (t 111)), (3, (t 112)), (3, (t 113)), (3, (t 114)), (3, (t 115)), (3, (t 116)), (3, (t 117)), (3, (t 118)), (3, (t 119)), (3, (t 120)), (3, (t 121)), (3, (t 122)), (3, (t 123)), (3, (t 124)), (3, (t 125)), (3, (t 126)), (3, (t 127)), (3, (t 128)), (3, (t 129)), (3, (t 130)), (3, (t 131)), (3, (t 132)), (3, (t 133)), (3, (t 134)), (3, (t 135)), (3, (t 136)), (3, (t 137)), (3, (t 138)), (3, (t 139)), (3, (t 140)), (3, (t 141)), (3, (t 142)), (3, (t 143)), (3, (t 144)), (3, (t 145)), (3, (t 146)), (3, (t 147)), (3, (t 148)), (3, (t 149)), (3, (t 150)), (3, (t 151)), (3, (t 152)), (3, (t 153)), (3, (t 154)), (3, (t 155)), (3, (t 156)), (3, (t 157)), (3, (t 158)), (3, (t 159)), (3, (t 160)), (3, (t 161)), (3, (t 162)), (3, (t 163)), (3, (t 164)), (3, (t 165)), (3, (t 166))]), mv 0 167])
 .ret))⟩
def f_slices_BinarySearchFunc_Lclass_span_class_span_int : VFn := ⟨3, [.tmp 6, .tmp 7], (sq (.ops [O 6 (.mv (n 0)), O 7 (.mv (kb false))])
 (sq (.ops [mv 12 0, O 13 (.lenSl (t 12)), mv 8 13])
 (sq (.ops [mv 14 8, O 9 (.mv (n 0)), mv 10 14])
 (sq (.block 0 (.loop [0, 1, 2, 8, 9, 10] (sq (sq (.ops [mv 15 9, mv 16 10, add 17 .lss (t 15) (t 16)])
 (.cond (t 17) .skip (.exit 0)))
 (.block 1 (sq (.ops [mv 18 9, mv 19 10, add 20 .add (t 18) (t 19), O 21 (.toInt .u64 (t 20)), add 22 .shr (t 21) (.const (.int .u64 (.ofNat 1))), O 23 (.toInt .i64 (t 22)), mv 11 23])
 (sq (.ops [mv 24 2, mv 25 0, mv 26 11, O 27 (.idxSl 3 (t 25) (t 26)), O 28 (.load (some 3) (t 27)), mv 29 1, O 30 (.call (t 24) [(t 28), (t 29)]), add 31 .lss (t 30) (n 0)])
 (.cond (t 31) (.ops [mv 32 11, add 33 .add (t 32) (n 1), mv 9 33]) (.ops [mv 34 11, mv 10 34]))))))))
 (sq (.ops [mv 35 9, mv 36 9, mv 37 8, add 38 .lss (t 36) (t 37), mv 39 38, G 40 (.mv (t 2)) 39 true, G 41 (.mv (t 0)) 39 true, G 42 (.mv (t 9)) 39 true, G 43 (.idxSl 3 (t 41) (t 42)) 39 true, G 44 (.load (some 3) (t 43)) 39 true, G 45 (.mv (t 1)) 39 true, G 46 (.call (t 40) [(t 44), (t 45)]) 39 true, G 47 (.bin .eql (t 46) (n 0)) 39 true, O 48 (.pick (t 39) (t 47) (kb false)), mv 6 35, mv 7 48])
 .ret)))))⟩
def f_class_span_side : VFn := ⟨2, [.tmp 4], (sq (.ops [O 2 (.box (t 0)), O 4 (.mv (n 0))])
 (sq (.block 0 (sq (.ops [fa 6 1 2, ld 7 6, mv 8 1, add 9 .lss (t 7) (t 8), mv 5 9])
 (.cond (t 5) (sq (.ops [O 4 (.mv (.const (.int .i64 (.negSucc 0))))])
 .ret) (sq (.ops [fa 11 0 2, ld 12 11, mv 13 1, add 14 .gtr (t 12) (t 13), mv 10 14])
 (.cond (t 10) (sq (.ops [O 4 (.mv (n 1))])
 .ret) .skip)))))
 (sq (.ops [O 4 (.mv (n 0))])
 .ret)))⟩
def f_gcb_Of : VFn := ⟨1, [.tmp 2], (sq (.ops [O 2 (.mv (n 0))])
 (sq (.ops [call 6 k_gcb_steps [], O 3 (.alloc [z, z, z, z, z, z, z, z, z, z, z, z, z, z, z, z, z, z, z, z, z, z, z, z, z, z, z, z, z, z, z, z, z, z, z, z, z, z, z, z, z, z, z, z, z, z, z, z, z, z, z, z, z, z, z, z, z, z, z, z, z, z, z, z, z, z, z, z, z, z, z, z, z, z, z, z, z, z, z, z, z, z, z, z, z, z, z, z, z, z, z, z, z, z, z, z, z, z, z, z, z, z, z, z, z, z, z, z, z, z, z, z, z, z, z, z, z, z, z, z, z, z, z, z, z, z, z, z, z, z, z, z, z, z, z, z, z, z, z, z, z, z, z, z, z, z, z, z, z, z, z, z, z, z, z, z, z, z, z, z, z, z, z, z, z, z, z, z, z, z, z, z, z, z, z, z, z, z, z, z, z, z, z, z, z, z, z, z, z, z, z, z, z, z, z, z, z, z, z, z, z, z, z, z, z, z, z, z, z, z, z, z, z, z, z, z, z, z, z, z, z, z, z, z, z, z, z, z, z, z, z, z, z, z, z, z, z, z, z, z, z, z, z, z, z, z, z, z, z, z, z, z, z, z, z, z]), N (.store 256 (t 3) (t 6))])
 (sq (.ops [O 8 (.slArr 128 2 (t 3) none none none), mv 9 0, call 10 k_slices_BinarySearchFunc_Lgcb_step_gcb_step_int [(t 8), (t 9), (fu k_gcb_Of_1)], mv 7 10, O 11 (.extract (t 7) 0), O 12 (.extract (t 7) 1), mv 4 11, mv 5 12])
 (sq (sq (.ops [mv 13 5, O 14 (.un .not (t 13))])
 (.cond (t 14) (.ops [mv 15 4, add 16 .sub (t 15) (n 1), mv 4 16]) .skip))
 (sq (sq (.ops [mv 17 0, add 18 .lss (t 17) (n 0)])
 (.cond (t 18) (sq (.ops [O 2 (.mv (n 0))])
 .ret) .skip))
 (sq (.ops [mv 19 4, O 20 (.idxArr 128 2 (t 3) (t 19)), fa 21 1 20, ld 22 21, mv 23 0, call 24 k_gcb_kind_of [(t 22), (t 23)], mv 2 24])
 .ret))))))⟩
def f_cols_Of : VFn := ⟨1, [.tmp 2], (sq (.ops [O 2 (.mv (n 0))])
 (sq (.ops [call 5 k_cols_narrow [], call 6 k_cols_wide [], O 3 (.alloc [z, z, z, z, z, z, z, z, z, z, z, z, z, z, z, z, z, z, z, z, z, z, z, z, z, z, z, z, z, z, z, z, z, z, z, z, z, z, z, z, z, z, z, z, z, z, z, z, z, z, z, z, z, z, z, z, z, z, z, z, z, z, z, z, z, z, z, z, z, z, z, z, z, z, z, z, z, z, z, z, z, z, z, z, z, z, z, z, z, z]), O 4 (.alloc [z, z, z, z, z, z, z, z, z, z, z, z, z, z, z, z, z, z, z, z, z, z, z, z, z, z, z, z, z, z, z, z, z, z, z, z, z, z, z, z, z, z, z, z, z, z, z, z, z, z, z, z, z, z, z, z, z, z, z, z, z, z, z, z, z, z, z, z, z, z, z, z, z, z, z, z, z, z, z, z, z, z, z, z, z, z, z, z, z, z, z, z, z, z, z, z, z, z, z, z, z, z, z, z, z, z, z, z, z, z, z, z, z, z, z, z, z, z, z, z, z, z, z, z, z, z, z, z, z, z, z, z, z, z, z, z, z, z, z, z, z, z, z, z, z, z, z, z, z, z, z, z, z, z, z, z, z, z, z, z, z, z, z, z, z, z, z, z, z, z, z, z, z, z, z, z, z, z, z, z, z, z, z, z]), N (.store 90 (t 3) (t 5)), N (.store 184 (t 4) (t 6))])
 (sq (.block 0 (sq (.ops [O 8 (.slArr 90 1 (t 3) none none none), mv 9 0, call 10 k_cols_within [(t 8), (t 9)], mv 7 10])
 (.cond (t 7) (sq (.ops [O 2 (.mv (n 0))])
 .ret) (sq (.ops [O 12 (.slArr 184 1 (t 4) none none none), mv 13 0, call 14 k_cols_within [(t 12), (t 13)], mv 11 14])
 (.cond (t 11) (sq (.ops [O 2 (.mv (n 2))])
 .ret) .skip)))))
 (sq (.ops [O 2 (.mv (n 1))])
 .ret))))⟩
def f_gcb_Pict : VFn := ⟨1, [.tmp 2], (sq (.ops [O 2 (.mv (kb false))])
 (sq (.ops [call 6 k_gcb_edges [], O 3 (.alloc [z, z, z, z, z, z, z, z, z, z, z, z, z, z, z, z, z, z, z, z, z, z, z, z, z, z, z, z, z, z, z, z, z, z, z, z, z, z, z, z, z, z, z, z, z, z, z, z, z, z, z, z, z, z, z, z, z, z, z, z, z, z, z, z, z, z, z, z, z, z, z, z, z, z, z, z, z, z, z, z, z, z, z, z, z, z, z, z, z, z, z, z, z, z, z, z, z, z, z, z, z, z, z, z, z, z, z, z, z, z, z, z, z, z, z, z, z, z, z, z, z, z, z, z, z, z, z, z, z, z, z, z, z, z, z, z, z, z, z, z, z, z, z, z, z, z, z, z, z, z, z, z, z, z]), N (.store 154 (t 3) (t 6))])
 (sq (.ops [O 8 (.slArr 154 1 (t 3) none none none), mv 9 0, call 10 k_slices_BinarySearch_Lint_int [(t 8), (t 9)], mv 7 10, O 11 (.extract (t 7) 0), O 12 (.extract (t 7) 1), mv 4 11, mv 5 12])
 (sq (sq (.ops [mv 13 5])
 (.cond (t 13) (.ops [mv 14 4, add 15 .add (t 14) (n 1), mv 4 15]) .skip))
 (sq (.ops [mv 16 4, add 17 .rem (t 16) (n 2), add 18 .eql (t 17) (n 1), mv 2 18])
 .ret)))))⟩
def f_cluster_behind : VFn := ⟨0, [.cell 0 (some 14)], (sq (.ops [O 0 (.alloc [z, z, z, z, z, z, z, z, z, z, z, z, z, z])])
 (sq (.ops [O 3 (.build [z, z, z, z, z, z, z, z, z, z, z, z, z, z] [(9, 1, (n 13824)), (12, 1, (n 3072)), (10, 1, (n 3072)), (13, 1, (n 2048)), (11, 1, (n 2048))]), O 1 (.alloc [z, z, z, z, z, z, z, z, z, z, z, z, z, z]), N (.store 14 (t 1) (t 3))])
 (sq (sq (.ops [O 4 (.mv (n 0))])
 (.block 0 (.loop [0, 1, 4] (sq (.ops [add 5 .lss (t 4) (n 14)])
 (sq (.cond (t 5) .skip (.exit 0))
 (sq (.block 1 (sq (.ops [mv 6 4, mv 2 6])
 (sq (.ops [mv 7 2, add 8 .lss (t 7) (n 1), mv 9 8, G 10 (.mv (t 2)) 9 false, G 11 (.bin .gtr (t 10) (n 3)) 9 false, O 12 (.pick (t 9) (kb true) (t 11))])
 (.cond (t 12) (.ops [mv 13 2, O 14 (.idxArr 14 1 (t 1) (t 13)), ld 15 14, add 16 .or (t 15) (n 304), O 17 (.idxArr 14 1 (t 1) (t 13)), N (.store 1 (t 17) (t 16))]) .skip))))
 (.ops [add 18 .add (t 4) (n 1), mv 4 18])))))))
 (sq (.ops [O 19 (.idxArr 14 1 (t 1) (n 7)), N (.store 1 (t 19) (n 16369))])
 (sq (.ops [O 20 (.idxArr 14 1 (t 1) (n 1)), N (.store 1 (t 20) (n 4))])
 (sq (.ops [O 21 (.load (some 14) (t 1)), N (.store 14 (t 0) (t 21))])
 .ret))))))⟩
def f_base_Match : VFn := ⟨1, [.tmp 2], (sq (.ops [O 2 (.mv (.const (.slice none 0 0)))])
 (sq (.ops [mv 8 0, O 9 (.lenSl (t 8)), O 10 (.mkSlice [z] 1 8 (t 9) (t 9)), mv 3 10])
 (sq (.ops [O 4 (.mv (.const (.slice none 0 0)))])
 (sq (sq (.ops [mv 11 0, O 12 (.lenSl (t 11)), O 13 (.mv (n 0))])
 (.block 0 (.loop [0, 3, 4, 11, 12, 13] (sq (.ops [add 14 .lss (t 13) (t 12)])
 (sq (.cond (t 14) .skip (.exit 0))
 (sq (.block 1 (sq (.ops [mv 15 13, O 16 (.idxSl 1 (t 11) (t 13)), ld 17 16, mv 5 15, mv 6 17])
 (sq (.ops [mv 18 3, mv 19 5, O 20 (.idxSl 1 (t 18) (t 19)), N (.store 1 (t 20) (.const (.int .i64 (.negSucc 0))))])
 (.block 2 (sq (.ops [mv 22 6, call 23 k_base_opens [(t 22)], mv 21 23])
 (.cond (t 21) (sq (.ops [mv 24 3, mv 25 5, mv 26 0, O 27 (.lenSl (t 26)), O 28 (.idxSl 1 (t 24) (t 25)), N (.store 1 (t 28) (t 27))])
 (.ops [mv 29 4, mv 30 5, O 31 (.bsliceC 1 1 [(1, (t 30))]), O 32 (.append false [z] 1 8 (t 29) (t 31)), mv 4 32])) (sq (.ops [mv 34 6, add 35 .eql (t 34) (n 22), mv 36 35, G 37 (.mv (t 4)) 36 true, G 38 (.lenSl (t 37)) 36 true, G 39 (.bin .gtr (t 38) (n 0)) 36 true, O 40 (.pick (t 36) (t 39) (kb false)), mv 33 40])
 (.cond (t 33) (sq (.ops [mv 41 4, mv 42 4, O 43 (.lenSl (t 42)), add 44 .sub (t 43) (n 1), O 45 (.idxSl 1 (t 41) (t 44)), ld 46 45, mv 7 46])
 (sq (.ops [mv 47 4, mv 48 4, O 49 (.lenSl (t 48)), add 50 .sub (t 49) (n 1), O 51 (.slSl 1 (t 47) none (some (t 50)) none), mv 4 51])
 (.ops [mv 52 3, mv 53 5, mv 54 3, mv 55 7, mv 56 7, mv 57 5, O 58 (.idxSl 1 (t 52) (t 53)), N (.store 1 (t 58) (t 56)), O 59 (.idxSl 1 (t 54) (t 55)), N (.store 1 (t 59) (t 57))]))) .skip))))))))
 (.ops [add 60 .add (t 13) (n 1), mv 13 60])))))))
 (sq (.ops [mv 61 3, mv 2 61])
 .ret)))))⟩
def f_base_opens : VFn := ⟨1, [.tmp 2], (sq (.ops [O 2 (.mv (kb false))])
 (sq (sq (.ops [mv 3 0])
 (.block 0 (sq (sq (.ops [add 5 .eql (t 3) (n 19), mv 4 5])
 (.cond (t 4) .skip (sq (.ops [add 6 .eql (t 3) (n 20), mv 4 6])
 (.cond (t 4) .skip (.ops [add 7 .eql (t 3) (n 21), mv 4 7])))))
 (.cond (t 4) (sq (.ops [O 2 (.mv (kb true))])
 .ret) .skip))))
 (sq (.ops [O 2 (.mv (kb false))])
 .ret)))⟩
def f_p_level_walk_last : VFn := ⟨1, [.cell 2 (some 3)], (sq (.ops [O 2 (.alloc [z, z, (.b false)])])
 (sq (.draw [A (mv 3 0), A (O 4 (.nilCheck (t 3))), A (fa 5 2 4), B (ld 6 5), A (mv 7 0), A (O 8 (.nilCheck (t 7))), A (fa 9 2 8), B (ld 10 9), A (O 11 (.lenSl (t 10))), A (add 12 .sub (t 11) (n 1)), A (O 13 (.idxSl 3 (t 6) (t 12))), B (O 14 (.load (some 3) (t 13))), C (N (.store 3 (t 2) (t 14)))])
 .ret))⟩
def f_p_level_walk_seen : VFn := ⟨2, [.tmp 4], (sq (.ops [O 4 (.mv (n 0))])
 (sq (sq (.ops [mv 6 0, call 7 k_p_level_walk_last [(t 6)], O 8 (.field 1 none (t 7)), mv 5 8])
 (sq (.ops [mv 9 5, add 10 .neq (t 9) (.const (.int .i64 (.negSucc 0)))])
 (.cond (t 10) (sq (.ops [mv 11 5, mv 4 11])
 .ret) .skip)))
 (sq (.ops [mv 12 1, mv 4 12])
 .ret)))⟩
def f_level_Removed : VFn := ⟨1, [.tmp 2], (sq (.ops [O 2 (.mv (kb false))])
 (sq (sq (.ops [mv 3 0])
 (.block 0 (sq (sq (.ops [add 5 .eql (t 3) (n 16), mv 4 5])
 (.cond (t 4) .skip (sq (.ops [add 6 .eql (t 3) (n 14), mv 4 6])
 (.cond (t 4) .skip (sq (.ops [add 7 .eql (t 3) (n 17), mv 4 7])
 (.cond (t 4) .skip (sq (.ops [add 8 .eql (t 3) (n 15), mv 4 8])
 (.cond (t 4) .skip (sq (.ops [add 9 .eql (t 3) (n 18), mv 4 9])
 (.cond (t 4) .skip (.ops [add 10 .eql (t 3) (n 9), mv 4 10])))))))))))
 (.cond (t 4) (sq (.ops [O 2 (.mv (kb true))])
 .ret) .skip))))
 (sq (.ops [O 2 (.mv (kb false))])
 .ret)))⟩
def f_seqs_runs : VFn := ⟨1, [.tmp 2], (sq (.ops [O 2 (.mv (.const (.slice none 0 0)))])
 (sq (.ops [O 3 (.alloc [.sn])])
 (sq (sq (.ops [mv 7 0, call 8 k_seqs_kept [(t 7)]])
 (.block 0 (.rangeFunc (t 8) [9, 10] (sq (.ops [mv 4 9])
 (.ops [mv 5 10])) (.block 1 (sq (.ops [ld 11 3, O 12 (.lenSl (t 11)), add 13 .sub (t 12) (n 1), mv 6 13])
 (sq (sq (.ops [mv 14 6, add 15 .lss (t 14) (n 0), mv 16 15, G 17 (.load none (t 3)) 16 false, G 18 (.mv (t 6)) 16 false, G 19 (.idxSl 4 (t 17) (t 18)) 16 false, G 20 (.fieldAddr 0 (t 19)) 16 false, G 21 (.load none (t 20)) 16 false, G 22 (.mv (t 5)) 16 false, G 23 (.bin .neq (t 21) (t 22)) 16 false, O 24 (.pick (t 16) (kb true) (t 23))])
 (.cond (t 24) (sq (.ops [ld 25 3, mv 26 5, mv 27 4, O 28 (.build [z, z, z, .sn] [(0, 1, (t 26)), (1, 1, (t 27))]), O 29 (.bsliceC 4 1 [(4, (t 28))]), O 30 (.append false [z, z, z, .sn] 4 48 (t 25) (t 29)), N (.store 1 (t 3) (t 30))])
 (.ops [mv 31 6, add 32 .add (t 31) (n 1), mv 6 32])) .skip))
 (sq (.ops [ld 33 3, mv 34 6, mv 35 4, O 36 (.idxSl 4 (t 33) (t 34)), fa 37 2 36, N (.store 1 (t 37) (t 35))])
 (.draw [B (ld 38 3), A (mv 39 6), B (ld 40 3), A (mv 41 6), A (O 42 (.idxSl 4 (t 40) (t 41))), A (fa 43 3 42), B (ld 44 43), A (mv 45 4), B (O 46 (.bsliceC 1 1 [(1, (t 45))])), ⟨O 47 (.append false [z] 1 8 (t 44) (t 46)), 2, [0]⟩, A (O 48 (.idxSl 4 (t 38) (t 39))), A (fa 49 3 48), C (N (.store 1 (t 49) (t 47)))]))))))))
 (sq (.ops [ld 50 3, mv 2 50])
 .ret))))⟩
def f_seqs_way : VFn := ⟨2, [.tmp 4], (sq (.ops [O 4 (.mv (n 0))])
 (sq (sq (.ops [mv 5 0, mv 6 1, O 7 (.mnmx true (t 5) [(t 6)]), add 8 .and (t 7) (n 1), add 9 .eql (t 8) (n 1)])
 (.cond (t 9) (sq (.ops [O 4 (.mv (n 1))])
 .ret) .skip))
 (sq (.ops [O 4 (.mv (n 0))])
 .ret)))⟩
def f_seqs_beside : VFn := ⟨3, [.tmp 6], (sq (.ops [O 6 (.mv (n 0))])
 (sq (sq (.ops [mv 7 1, add 8 .lss (t 7) (n 0), mv 9 8, G 10 (.mv (t 1)) 9 false, G 11 (.mv (t 0)) 9 false, G 12 (.lenSl (t 11)) 9 false, G 13 (.bin .geq (t 10) (t 12)) 9 false, O 14 (.pick (t 9) (kb true) (t 13))])
 (.cond (t 14) (sq (.ops [mv 15 2, mv 6 15])
 .ret) .skip))
 (sq (.ops [mv 16 0, mv 17 1, O 18 (.idxSl 4 (t 16) (t 17)), fa 19 0 18, ld 20 19, mv 6 20])
 .ret)))⟩
def f_seqs_goes : VFn := ⟨4, [.tmp 8, .tmp 9], (sq (.ops [O 7 (.box (t 3)), O 8 (.mv (n 0)), O 9 (.mv (kb false))])
 (sq (.ops [mv 11 0, mv 12 1, O 13 (.idxSl 4 (t 11) (t 12)), fa 14 2 13, ld 15 14, O 10 (.alloc [z]), N (.store 1 (t 10) (t 15))])
 (sq (sq (.ops [mv 16 2, ld 17 10, O 18 (.idxSl 1 (t 16) (t 17)), ld 19 18])
 (.block 0 (sq (sq (.ops [add 21 .eql (t 19) (n 19), mv 20 21])
 (.cond (t 20) .skip (sq (.ops [add 22 .eql (t 19) (n 20), mv 20 22])
 (.cond (t 20) .skip (.ops [add 23 .eql (t 19) (n 21), mv 20 23])))))
 (.cond (t 20) (sq (.draw [B (ld 24 7), B (ld 25 10), A (O 26 (.idxSl 1 (t 24) (t 25))), B (ld 27 26), A (mv 28 0), A (mv 29 1), A (add 30 .add (t 29) (n 1)), A (O 31 (.slSl 4 (t 28) (some (t 30)) none none)), A (O 32 (.mkFunc (.func k_seqs_goes_1) [] [(t 7), (t 10)])), B (call 33 k_slices_ContainsFunc_Lseqs_run_seqs_run [(t 31), (t 32)]), A (mv 8 27), A (mv 9 33)])
 .ret) .skip))))
 (sq (.ops [O 8 (.mv (n 0)), O 9 (.mv (kb false))])
 .ret))))⟩
def f_seqs_behind : VFn := ⟨5, [.tmp 10], (sq (.ops [O 10 (.mv (n 0))])
 (sq (sq (.ops [mv 11 4, mv 12 0, mv 13 1, O 14 (.idxSl 4 (t 12) (t 13)), fa 15 2 14, ld 16 15, O 17 (.idxSl 1 (t 11) (t 16)), ld 18 17, mv 19 3, O 20 (.lenSl (t 19)), add 21 .eql (t 18) (t 20)])
 (.cond (t 21) (sq (.ops [mv 22 2, mv 10 22])
 .ret) .skip))
 (sq (.ops [mv 23 0, mv 24 1, add 25 .add (t 24) (n 1), mv 26 2, call 27 k_seqs_beside [(t 23), (t 25), (t 26)], mv 10 27])
 .ret)))⟩
def f_weak_Weak : VFn := ⟨2, [.tmp 4], (sq (.ops [O 4 (.mv (.const (.slice none 0 0)))])
 (sq (.ops [mv 8 0, call 9 k_slices_Clone_Lint_int [(t 8)], mv 10 1, O 11 (.buildC [(1, (t 9)), (1, (t 10))]), O 5 (.alloc [.sn, z]), N (.store 2 (t 5) (t 11))])
 (sq (sq (.ops [O 12 (.load (some 2) (t 5)), O 13 (.mkFunc (.func k_weak_seq_marks) [(t 12)] []), O 14 (.mkFunc (.func k_weak_Weak_1) [] [(t 5)]), O 15 (.mkFunc (.func k_weak_Weak_2) [] [(t 5)]), O 16 (.load (some 2) (t 5)), O 17 (.mkFunc (.func k_weak_seq_between) [(t 16)] []), O 18 (.load (some 2) (t 5)), O 19 (.mkFunc (.func k_weak_seq_beside) [(t 18)] []), O 20 (.mkFunc (.func k_weak_Weak_3) [] [(t 5)]), O 21 (.mkFunc (.func k_weak_Weak_4) [] [(t 5)]), O 22 (.bsliceC 1 7 [(1, (t 13)), (1, (t 14)), (1, (t 15)), (1, (t 17)), (1, (t 19)), (1, (t 20)), (1, (t 21))]), O 23 (.lenSl (t 22)), O 24 (.mv (n 0))])
 (.block 0 (.loop [5, 22, 23, 24] (sq (.ops [add 25 .lss (t 24) (t 23)])
 (sq (.cond (t 25) .skip (.exit 0))
 (sq (.block 1 (sq (.ops [O 26 (.idxSl 1 (t 22) (t 24)), ld 27 26, mv 7 27])
 (.ops [mv 28 7, O 29 (.call (t 28) [])])))
 (.ops [add 30 .add (t 24) (n 1), mv 24 30])))))))
 (sq (.ops [fa 31 0 5, ld 32 31, mv 4 32])
 .ret))))⟩
def f_bidi_part_of : VFn := ⟨2, [.tmp 4], (sq (.ops [O 2 (.box (t 0)), O 4 (.mv (.const (.slice none 0 0)))])
 (sq (.ops [O 5 (.mv (.const (.slice none 0 0)))])
 (sq (sq (.ops [fa 8 0 2, fa 9 3 8, ld 10 9, O 11 (.lenSl (t 10)), O 12 (.mv (n 0))])
 (.block 0 (.loop [1, 5, 10, 11, 12] (sq (.ops [add 13 .lss (t 12) (t 11)])
 (sq (.cond (t 13) .skip (.exit 0))
 (sq (.block 1 (sq (.ops [O 14 (.idxSl 1 (t 10) (t 12)), ld 15 14, mv 7 15])
 (.ops [mv 16 5, mv 17 1, mv 18 7, O 19 (.idxSl 1 (t 17) (t 18)), ld 20 19, O 21 (.bsliceC 1 1 [(1, (t 20))]), O 22 (.append false [z] 1 8 (t 16) (t 21)), mv 5 22])))
 (.ops [add 23 .add (t 12) (n 1), mv 12 23])))))))
 (sq (.ops [mv 24 5, mv 4 24])
 .ret))))⟩
def f_pairs_Brackets : VFn := ⟨5, [.tmp 10], (sq (.ops [O 10 (.mv (.const (.slice none 0 0)))])
 (sq (sq (.ops [mv 16 0, O 17 (.lenSl (t 16)), mv 18 1, O 19 (.lenSl (t 18)), add 20 .neq (t 17) (t 19), mv 21 20, G 22 (.mv (t 2)) 21 false, G 23 (.lenSl (t 22)) 21 false, G 24 (.mv (t 1)) 21 false, G 25 (.lenSl (t 24)) 21 false, G 26 (.bin .neq (t 23) (t 25)) 21 false, O 27 (.pick (t 21) (kb true) (t 26))])
 (.cond (t 27) (sq (.ops [O 10 (.mv (.const (.slice none 0 0)))])
 .ret) .skip))
 (sq (.ops [mv 28 0, call 29 k_slices_Clone_Lint_int [(t 28)], mv 30 4, O 31 (.buildC [(1, (t 29)), (1, (n 0)), (1, (t 30))]), O 11 (.alloc [.sn, z, z]), N (.store 3 (t 11) (t 31))])
 (sq (sq (.ops [mv 32 3, add 33 .and (t 32) (n 1), add 34 .eql (t 33) (n 1)])
 (.cond (t 34) (.ops [fa 35 1 11, N (.store 1 (t 35) (n 1))]) .skip))
 (sq (sq (.ops [mv 36 0, mv 37 1, call 38 k_pairs_Find [(t 36), (t 37)], O 39 (.lenSl (t 38)), O 40 (.mv (n 0))])
 (.block 0 (.loop [2, 11, 38, 39, 40] (sq (.ops [add 41 .lss (t 40) (t 39)])
 (sq (.cond (t 41) .skip (.exit 0))
 (sq (.block 1 (sq (.ops [O 42 (.idxSl 2 (t 38) (t 40)), O 43 (.load (some 2) (t 42)), O 13 (.alloc [z, z]), N (.store 2 (t 13) (t 43))])
 (sq (.ops [O 45 (.load (some 3) (t 11)), O 46 (.load (some 2) (t 13)), call 47 k_pairs_seq_inside [(t 45), (t 46)], mv 44 47, O 48 (.extract (t 44) 0), O 49 (.extract (t 44) 1), mv 14 48, mv 15 49])
 (sq (sq (.ops [mv 50 15, O 51 (.un .not (t 50))])
 (.cond (t 51) (.exit 1) .skip))
 (sq (sq (.ops [mv 52 14, fa 53 1 11, ld 54 53, add 55 .neq (t 52) (t 54), mv 56 55, G 57 (.load (some 3) (t 11)) 56 true, G 58 (.fieldAddr 0 (t 13)) 56 true, G 59 (.load none (t 58)) 56 true, G 60 (.call (fu k_pairs_seq_ahead) [(t 57), (t 59)]) 56 true, G 61 (.mv (t 14)) 56 true, G 62 (.bin .neq (t 60) (t 61)) 56 true, O 63 (.pick (t 56) (t 62) (kb false))])
 (.cond (t 63) (.ops [fa 64 1 11, ld 65 64, mv 14 65]) .skip))
 (sq (.ops [O 66 (.load (some 3) (t 11)), fa 67 0 13, ld 68 67, mv 69 14, mv 70 2, call 71 k_pairs_seq_settle [(t 66), (t 68), (t 69), (t 70)]])
 (.ops [O 72 (.load (some 3) (t 11)), fa 73 1 13, ld 74 73, mv 75 14, mv 76 2, call 77 k_pairs_seq_settle [(t 72), (t 74), (t 75), (t 76)]])))))))
 (.ops [add 78 .add (t 40) (n 1), mv 40 78])))))))
 (sq (.ops [fa 79 0 11, ld 80 79, mv 10 80])
 .ret))))))⟩
def f_neutral_Levels : VFn := ⟨2, [.tmp 4], (sq (.ops [O 4 (.mv (.const (.slice none 0 0)))])
 (sq (.ops [mv 8 0, O 9 (.lenSl (t 8)), O 10 (.mkSlice [z] 1 8 (t 9) (t 9)), mv 5 10])
 (sq (sq (.ops [mv 11 0, O 12 (.lenSl (t 11)), O 13 (.mv (n 0))])
 (.block 0 (.loop [1, 5, 11, 12, 13] (sq (.ops [add 14 .lss (t 13) (t 12)])
 (sq (.cond (t 14) .skip (.exit 0))
 (sq (.block 1 (sq (.ops [mv 15 13, O 16 (.idxSl 1 (t 11) (t 13)), ld 17 16, mv 6 15, mv 7 17])
 (.ops [mv 18 5, mv 19 6, mv 20 1, mv 21 7, mv 22 1, call 23 k_neutral_rises [(t 21), (t 22)], add 24 .add (t 20) (t 23), O 25 (.idxSl 1 (t 18) (t 19)), N (.store 1 (t 25) (t 24))])))
 (.ops [add 26 .add (t 13) (n 1), mv 13 26])))))))
 (sq (.ops [mv 27 5, mv 4 27])
 .ret))))⟩
def f_neutral_Settle : VFn := ⟨4, [.tmp 8], (sq (.ops [O 5 (.box (t 1)), O 8 (.mv (.const (.slice none 0 0)))])
 (sq (.ops [mv 17 0, O 18 (.lenSl (t 17)), O 19 (.mkSlice [z] 1 8 (t 18) (t 18)), O 9 (.alloc [.sn]), N (.store 1 (t 9) (t 19))])
 (sq (.ops [ld 20 9, mv 21 0, O 22 (.copy 1 (t 20) (t 21))])
 (sq (.ops [mv 23 2, O 10 (.alloc [z]), O 11 (.alloc [z]), N (.store 1 (t 10) (t 23)), N (.store 1 (t 11) (n 0))])
 (sq (.ops [O 24 (.mkFunc (.func k_neutral_Settle_1) [] [(t 5), (t 10), (t 11), (t 9)]), mv 12 24])
 (sq (sq (.ops [mv 25 0, O 26 (.lenSl (t 25)), O 27 (.mv (n 0))])
 (.block 0 (.loop [0, 3, 9, 10, 11, 12, 25, 26, 27] (sq (.ops [add 28 .lss (t 27) (t 26)])
 (sq (.cond (t 28) .skip (.exit 0))
 (sq (.block 1 (sq (.ops [mv 29 27, O 30 (.idxSl 1 (t 25) (t 27)), ld 31 30, mv 13 29, mv 14 31])
 (sq (.ops [mv 33 14, call 34 k_neutral_letter [(t 33)], mv 32 34, O 35 (.extract (t 32) 0), O 36 (.extract (t 32) 1), mv 15 35, mv 16 36])
 (sq (sq (.ops [mv 37 16, O 38 (.un .not (t 37))])
 (.cond (t 38) (.exit 1) .skip))
 (sq (.ops [mv 39 12, mv 40 13, mv 41 15, O 42 (.call (t 39) [(t 40), (t 41)])])
 (.ops [mv 43 15, mv 44 13, add 45 .add (t 44) (n 1), N (.store 1 (t 10) (t 43)), N (.store 1 (t 11) (t 45))]))))))
 (.ops [add 46 .add (t 27) (n 1), mv 27 46])))))))
 (sq (.ops [mv 47 12, mv 48 0, O 49 (.lenSl (t 48)), mv 50 3, O 51 (.call (t 47) [(t 49), (t 50)])])
 (sq (.ops [ld 52 9, mv 8 52])
 .ret))))))))⟩
def f_wrap_Break : VFn := ⟨1, [.tmp 2], (sq (.ops [O 1 (.box (t 0)), O 2 (.mv (kb false))])
 (sq (.ops [fa 3 5 1, ld 4 3, call 5 k_class_Of [(t 4)], add 6 .eql (t 5) (n 10), mv 2 6])
 .ret))⟩
def f_wrap_Fits : VFn := ⟨3, [.tmp 6], (sq (.ops [O 6 (.mv (n 0))])
 (sq (.ops [mv 10 1, O 11 (.mnmx true (t 10) [(n 0)]), mv 1 11])
 (sq (.ops [mv 12 1, mv 13 0, O 14 (.lenSl (t 13)), O 15 (.mnmx false (t 12) [(t 14)]), mv 7 15])
 (sq (sq (.ops [mv 16 2, mv 8 16])
 (.block 0 (.loop [0, 7, 8] (sq (sq (.ops [mv 17 7, mv 18 0, O 19 (.lenSl (t 18)), add 20 .lss (t 17) (t 19)])
 (.cond (t 20) .skip (.exit 0)))
 (sq (.block 1 (sq (.ops [mv 23 0, mv 24 7, O 25 (.idxSl 6 (t 23) (t 24)), fa 26 4 25, ld 27 26, O 28 (.mnmx true (t 27) [(n 0)]), mv 9 28])
 (sq (sq (.ops [mv 29 9, mv 30 8, add 31 .gtr (t 29) (t 30)])
 (.cond (t 31) (.exit 0) .skip))
 (.ops [mv 32 8, mv 33 9, add 34 .sub (t 32) (t 33), mv 8 34]))))
 (.ops [mv 21 7, add 22 .add (t 21) (n 1), mv 7 22]))))))
 (sq (.ops [mv 35 7, mv 6 35])
 .ret)))))⟩
def f_slices_Backward_LRune_Rune : VFn := ⟨1, [.tmp 2], (sq (.ops [O 1 (.box (t 0)), O 2 (.mv (.const .nilFunc))])
 (sq (.ops [O 3 (.mkFunc (.func k_slices_Backward_LRune_Rune_1) [] [(t 1)]), mv 2 3])
 .ret))⟩
def f_bidi_blank : VFn := ⟨1, [.tmp 2], (sq (.ops [O 2 (.mv (kb false))])
 (sq (.ops [mv 3 0, add 4 .eql (t 3) (n 12), mv 5 4, G 6 (.mv (t 0)) 5 false, G 7 (.bin .geq (t 6) (n 19)) 5 false, G 8 (.mv (t 7)) 5 false, G 9 (.mv (t 0)) 8 true, G 10 (.bin .leq (t 9) (n 22)) 8 true, G 11 (.pick (t 8) (t 10) (kb false)) 5 false, O 12 (.pick (t 5) (kb true) (t 11)), mv 13 12, G 14 (.mv (t 0)) 13 false, G 15 (.call (fu k_level_Removed) [(t 14)]) 13 false, O 16 (.pick (t 13) (kb true) (t 15)), mv 2 16])
 .ret))⟩
def f_bidi_turn : VFn := ⟨4, [.tmp 8], (sq (.ops [O 8 (.mv (.const (.slice none 0 0)))])
 (sq (.ops [O 9 (.mv (.const (.slice none 0 0)))])
 (sq (sq (.ops [mv 13 1, mv 10 13])
 (.block 0 (.loop [0, 2, 3, 9, 10] (sq (sq (.ops [mv 14 10, mv 15 2, add 16 .lss (t 14) (t 15)])
 (.cond (t 16) .skip (.exit 0)))
 (.block 1 (sq (.ops [mv 17 10, mv 11 17])
 (sq (.block 2 (.loop [0, 2, 3, 9, 10, 11] (sq (sq (.ops [mv 18 11, mv 19 2, add 20 .lss (t 18) (t 19), mv 21 20, G 22 (.mv (t 0)) 21 true, G 23 (.mv (t 11)) 21 true, G 24 (.idxSl 1 (t 22) (t 23)) 21 true, G 25 (.load none (t 24)) 21 true, G 26 (.mv (t 3)) 21 true, G 27 (.bin .geq (t 25) (t 26)) 21 true, O 28 (.pick (t 21) (t 27) (kb false))])
 (.cond (t 28) .skip (.exit 2)))
 (.block 3 (.ops [mv 29 11, add 30 .add (t 29) (n 1), mv 11 30])))))
 (sq (sq (.ops [mv 31 11, mv 32 10, add 33 .eql (t 31) (t 32)])
 (.cond (t 33) (sq (.ops [mv 34 9, mv 35 10, O 36 (.bsliceC 1 1 [(1, (t 35))]), O 37 (.append false [z] 1 8 (t 34) (t 36)), mv 9 37])
 (sq (.ops [mv 38 10, add 39 .add (t 38) (n 1), mv 10 39])
 (.exit 1))) .skip))
 (sq (.ops [mv 40 0, mv 41 10, mv 42 11, mv 43 3, add 44 .add (t 43) (n 1), call 45 k_bidi_turn [(t 40), (t 41), (t 42), (t 44)], mv 12 45])
 (sq (.ops [mv 46 12, call 47 k_slices_Reverse_Lint_int [(t 46)]])
 (.ops [mv 48 9, mv 49 12, O 50 (.append false [z] 1 8 (t 48) (t 49)), mv 51 11, mv 9 50, mv 10 51])))))))))))
 (sq (.ops [mv 52 9, mv 8 52])
 .ret))))⟩
def f_gcb_steps : VFn := ⟨0, [.cell 0 (some 256)], (sq (.ops [O 0 (.alloc [z, z, z, z, z, z, z, z, z, z, z, z, z, z, z, z, z, z, z, z, z, z, z, z, z, z, z, z, z, z, z, z, z, z, z, z, z, z, z, z, z, z, z, z, z, z, z, z, z, z, z, z, z, z, z, z, z, z, z, z, z, z, z, z, z, z, z, z, z, z, z, z, z, z, z, z, z, z, z, z, z, z, z, z, z, z, z, z, z, z, z, z, z, z, z, z, z, z, z, z, z, z, z, z, z, z, z, z, z, z, z, z, z, z, z, z, z, z, z, z, z, z, z, z, z, z, z, z, z, z, z, z, z, z, z, z, z, z, z, z, z, z, z, z, z, z, z, z, z, z, z, z, z, z, z, z, z, z, z, z, z, z, z, z, z, z, z, z, z, z, z, z, z, z, z, z, z, z, z, z, z, z, z, z, z, z, z, z, z, z, z, z, z, z, z, z, z, z, z, z, z, z, z, z, z, z, z, z, z, z, z, z, z, z, z, z, z, z, z, z, z, z, z, z, z, z, z, z, z, z, z, z, z, z, z, z, z, z, z, z, z, z, z, z, z, z, z, z, z, z, z, z, z, z, z, z])])
 (sq (.ops [O 1 (.buildC [(1, (n 0)), (1, (n 3))]), O 2 (.buildC [(1, (n 10)), (1, (n 2))]), O 3 (.buildC [(1, (n 11)), (1, (n 3))]), O 4 (.buildC [(1, (n 13)), (1, (n 1))]), O 5 (.buildC [(1, (n 14)), (1, (n 3))]), O 6 (.buildC [(1, (n 32)), (1, (n 0))]), O 7 (.buildC [(1, (n 127)), (1, (n 3))]), O 8 (.buildC [(1, (n 160)), (1, (n 0))]), O 9 (.buildC [(1, (n 173)), (1, (n 3))]), O 10 (.buildC [(1, (n 174)), (1, (n 0))]), O 11 (.buildC [(1, (n 768)), (1, (n 4))]), O 12 (.buildC [(1, (n 880)), (1, (n 0))]), O 13 (.buildC [(1, (n 1155)), (1, (n 4))]), O 14 (.buildC [(1, (n 1162)), (1, (n 0))]), O 15 (.buildC [(1, (n 1425)), (1, (n 4))]), O 16 (.buildC [(1, (n 1470)), (1, (n 0))]), O 17 (.buildC [(1, (n 1471)), (1, (n 4))]), O 18 (.buildC [(1, (n 1472)), (1, (n 0))]), O 19 (.buildC [(1, (n 1473)), (1, (n 4))]), O 20 (.buildC [(1, (n 1475)), (1, (n 0))]), O 21 (.buildC [(1, (n 1476)), (1, (n 4))]), O 22 (.buildC [(1, (n 1478)), (1, (n 0))]), O 23 (.buildC [(1, (n 1479)), (1, (n 4))]), O 24 (.buildC [(1, (n 1480)), (1, (n 0))]), O 25 (.buildC [(1, (n 1536)), (1, (n 7))]), O 26 (.buildC [(1, (n 1542)), (1, (n 0))]), O 27 (.buildC [(1, (n 1552)), (1, (n 4))]), O 28 (.buildC [(1, (n 1563)), (1, (n 0))]), O 29 (.buildC [(1, (n 1564)), (1, (n 3))]), O 30 (.buildC [(1, (n 1565)), (1, (n 0))]), O 31 (.buildC [(1, (n 1611)), (1, (n 4))]), O 32 (.buildC [(1, (n 1632)), (1, (n 0))]), O 33 (.buildC [(1, (n 1648)), (1, (n 4))]), O 34 (.buildC [(1, (n 1649)), (1, (n 0))]), O 35 (.buildC [(1, (n 1750)), (1, (n 4))]), O 36 (.buildC [(1, (n 1757)), (1, (n 7))]), O 37 (.buildC [(1, (n 1758)), (1, (n 0))]), O 38 (.buildC [(1, (n 1759)), (1, (n 4))]), O 39 (.buildC [(1, (n 1765)), (1, (n 0))]), O 40 (.buildC [(1, (n 1767)), (1, (n 4))]), O 41 (.buildC [(1, (n 1769)), (1, (n 0))]), O 42 (.buildC [(1, (n 1770)), (1, (n 4))]), O 43 (.buildC [(1, (n 1774)), (1, (n 0))]), O 44 (.buildC [(1, (n 1807)), (1, (n 7))]), O 45 (.buildC [(1, (n 1808)), (1, (n 0))]), O 46 (.buildC [(1, (n 2274)), (1, (n 7))]), O 47 (.buildC [(1, (n 2275)), (1, (n 0))]), O 48 (.buildC [(1, (n 2307)), (1, (n 8))]), O 49 (.buildC [(1, (n 2308)), (1, (n 0))]), O 50 (.buildC [(1, (n 2362)), (1, (n 4))]), O 51 (.buildC [(1, (n 2363)), (1, (n 8))]), O 52 (.buildC [(1, (n 2364)), (1, (n 4))]), O 53 (.buildC [(1, (n 2365)), (1, (n 0))]), O 54 (.buildC [(1, (n 2366)), (1, (n 8))]), O 55 (.buildC [(1, (n 2369)), (1, (n 4))]), O 56 (.buildC [(1, (n 2377)), (1, (n 8))]), O 57 (.buildC [(1, (n 2381)), (1, (n 4))]), O 58 (.buildC [(1, (n 2382)), (1, (n 8))]), O 59 (.buildC [(1, (n 2384)), (1, (n 0))]), O 60 (.buildC [(1, (n 2434)), (1, (n 8))]), O 61 (.buildC [(1, (n 2436)), (1, (n 0))]), O 62 (.buildC [(1, (n 2494)), (1, (n 4))]), O 63 (.buildC [(1, (n 2495)), (1, (n 0))]), O 64 (.buildC [(1, (n 3406)), (1, (n 7))]), O 65 (.buildC [(1, (n 3407)), (1, (n 0))]), O 66 (.buildC [(1, (n 3633)), (1, (n 4))]), O 67 (.buildC [(1, (n 3634)), (1, (n 0))]), O 68 (.buildC [(1, (n 3635)), (1, (n 8))]), O 69 (.buildC [(1, (n 3636)), (1, (n 4))]), O 70 (.buildC [(1, (n 3643)), (1, (n 0))]), O 71 (.buildC [(1, (n 3655)), (1, (n 4))]), O 72 (.buildC [(1, (n 3663)), (1, (n 0))]), O 73 (.buildC [(1, (n 3763)), (1, (n 8))]), O 74 (.buildC [(1, (n 3764)), (1, (n 0))]), O 75 (.buildC [(1, (n 4352)), (1, (n 9))]), O 76 (.buildC [(1, (n 4448)), (1, (n 10))]), O 77 (.buildC [(1, (n 4520)), (1, (n 11))]), O 78 (.buildC [(1, (n 4608)), (1, (n 0))]), O 79 (.buildC [(1, (n 6158)), (1, (n 3))]), O 80 (.buildC [(1, (n 6159)), (1, (n 0))]), O 81 (.buildC [(1, (n 6832)), (1, (n 4))]), O 82 (.buildC [(1, (n 6863)), (1, (n 0))]), O 83 (.buildC [(1, (n 7616)), (1, (n 4))]), O 84 (.buildC [(1, (n 7680)), (1, (n 0))]), O 85 (.buildC [(1, (n 8203)), (1, (n 3))]), O 86 (.buildC [(1, (n 8204)), (1, (n 4))]), O 87 (.buildC [(1, (n 8205)), (1, (n 5))]), O 88 (.buildC [(1, (n 8206)), (1, (n 3))]), O 89 (.buildC [(1, (n 8208)), (1, (n 0))]), O 90 (.buildC [(1, (n 8232)), (1, (n 3))]), O 91 (.buildC [(1, (n 8239)), (1, (n 0))]), O 92 (.buildC [(1, (n 8288)), (1, (n 3))]), O 93 (.buildC [(1, (n 8304)), (1, (n 0))]), O 94 (.buildC [(1, (n 8400)), (1, (n 4))]), O 95 (.buildC [(1, (n 8433)), (1, (n 0))]), O 96 (.buildC [(1, (n 12330)), (1, (n 4))]), O 97 (.buildC [(1, (n 12336)), (1, (n 0))]), O 98 (.buildC [(1, (n 12441)), (1, (n 4))]), O 99 (.buildC [(1, (n 12443)), (1, (n 0))]), O 100 (.buildC [(1, (n 42607)), (1, (n 4))]), O 101 (.buildC [(1, (n 42611)), (1, (n 0))]), O 102 (.buildC [(1, (n 43360)), (1, (n 9))]), O 103 (.buildC [(1, (n 43389)), (1, (n 0))]), O 104 (.buildC [(1, (n 55216)), (1, (n 10))]), O 105 (.buildC [(1, (n 55239)), (1, (n 0))]), O 106 (.buildC [(1, (n 55243)), (1, (n 11))]), O 107 (.buildC [(1, (n 55292)), (1, (n 0))]), O 108 (.buildC [(1, (n 64286)), (1, (n 4))]), O 109 (.buildC [(1, (n 64287)), (1, (n 0))]), O 110 (.buildC [(1, (n 65024)), (1, (n 4))]), O 111 (.buildC [(1, (n 65040)), (1, (n 0))]), O 112 (.buildC [(1, (n 65056)), (1, (n 4))]), O 113 (.buildC [(1, (n 65072)), (1, (n 0))]), O 114 (.buildC [(1, (n 65279)), (1, (n 3))]), O 115 (.buildC [(1, (n 65280)), (1, (n 0))]), O 116 (.buildC [(1, (n 65438)), (1, (n 4))]), O 117 (.buildC [(1, (n 65440)), (1, (n 0))]), O 118 (.buildC [(1, (n 65520)), (1, (n 3))]), O 119 (.buildC [(1, (n 65532)), (1, (n 0))]), O 120 (.buildC [(1, (n 127462)), (1, (n 6))]), O 121 (.buildC [(1, (n 127488)), (1, (n 0))]), O 122 (.buildC [(1, (n 127995)), (1, (n 4))]), O 123 (.buildC [(1, (n 128000)), (1, (n 0))]), O 124 (.buildC [(1, (n 917504)), (1, (n 3))]), O 125 (.buildC [(1, (n 917536)), (1, (n 4))]), O 126 (.buildC [(1, (n 917632)), (1, (n 3))]), O 127 (.buildC [(1, (n 917760)), (1, (n 4))]), O 128 (.buildC [(1, (n 918000)), (1, (n 0))]), O 129 (.buildC [(2, (t 1)), (2, (t 2)), (2, (t 3)), (2, (t 4)), (2, (t 5)), (2, (t 6)), (2, (t 7)), (2, (t 8)), (2, (t 9)), (2, (t 10)), (2, (t 11)), (2, (t 12)), (2, (t 13)), (2, (t 14)), (2, (t 15)), (2, (t 16)), (2, (t 17)), (2, (t 18)), (2, (t 19)), (2, (t 20)), (2, (t 21)), (2, (t 22)), (2, (t 23)), (2, (t 24)), (2, (t 25)), (2, (t 26)), (2, (t 27)), (2, (t 28)), (2, (t 29)), (2, (t 30)), (2, (t 31)), (2, (t 32)), (2, (t 33)), (2, (t 34)), (2, (t 35)), (2, (t 36)), (2, (t 37)), (2, (t 38)), (2, (t 39)), (2, (t 40)), (2, (t 41)), (2, (t 42)), (2, (t 43)), (2, (t 44)), (2, (t 45)), (2, (t 46)), (2, (t 47)), (2, (t 48)), (2, (t 49)), (2, (t 50)), (2, (t 51)), (2, (t 52)), (2, (t 53)), (2, (t 54)), (2, (t 55)), (2, (t 56)), (2, (t 57)), (2, (t 58)), (2, (t 59)), (2, (t 60)), (2, (t 61)), (2, (t 62)), (2, (t 63)), (2, (t 64)), (2, (t 65)), (2, (t 66)), (2, (t 67)), (2, (t 68)), (2, (t 69)), (2, (t 70)), (2, (t 71)), (2, (t 72)), (2, (t 73)), (2, (t 74)), (2, (t 75)), (2, (t 76)), (2, (t 77)), (2, (t 78)), (2, (t 79)), (2, (t 80)), (2, (t 81)), (2, (t 82)), (2, (t 83)), (2, (t 84)), (2, (t 85)), (2, (t 86)), (2, (t 87)), (2, (t 88)), (2, (t 89)), (2, (t 90)), (2, (t 91)), (2, (t 92)), (2, (t 93)), (2, (t 94)), (2, (t 95)), (2, (t 96)), (2, (t 97)), (2, (t 98)), (2, (t 99)), (2, (t 100)), (2, (t 101)), (2, (t 102)), (2, (t 103)), (2, (t 104)), (2, (t 105)), (2, (t 106)), (2, (t 107)), (2, (t 108)), (2, (t 109)), (2, (t 110)), (2, (t 111)), (2, (t 112)), (2, (t 113)), (2, (t 114)), (2, (t 115)), (2, (t 116)), (2, (t 117)), (2, (t 118)), (2, (t 119)), (2, (t 120)), (2, (t 121)), (2, (t 122)), (2, (t 123)), (2, (t 124)), (2, (t 125)), (2, (t 126)), (2, (t 127)), (2, (t 128))]), N (.store 256 (t 0) (t 129))])
 .ret))⟩
def f_slices_BinarySearchFunc_Lgcb_step_gcb_step_int : VFn := ⟨3, [.tmp 6, .tmp 7], (sq (.ops [O 6 (.mv (n 0)), O 7 (.mv (kb false))])
 (sq (.ops [mv 12 0, O 13 (.lenSl (t 12)), mv 8 13])
 (sq (.ops [mv 14 8, O 9 (.mv (n 0)), mv 10 14])
 (sq (.block 0 (.loop [0, 1, 2, 8, 9, 10] (sq (sq (.ops [mv 15 9, mv 16 10, add 17 .lss (t 15) (t 16)])
 (.cond (t 17) .skip (.exit 0)))
 (.block 1 (sq (.ops [mv 18 9, mv 19 10, add 20 .add (t 18) (t 19), O 21 (.toInt .u64 (t 20)), add 22 .shr (t 21) (.const (.int .u64 (.ofNat 1))), O 23 (.toInt .i64 (t 22)), mv 11 23])
 (sq (.ops [mv 24 2, mv 25 0, mv 26 11, O 27 (.idxSl 2 (t 25) (t 26)), O 28 (.load (some 2) (t 27)), mv 29 1, O 30 (.call (t 24) [(t 28), (t 29)]), add 31 .lss (t 30) (n 0)])
 (.cond (t 31) (.ops [mv 32 11, add 33 .add (t 32) (n 1), mv 9 33]) (.ops [mv 34 11, mv 10 34]))))))))
 (sq (.ops [mv 35 9, mv 36 9, mv 37 8, add 38 .lss (t 36) (t 37), mv 39 38, G 40 (.mv (t 2)) 39 true, G 41 (.mv (t 0)) 39 true, G 42 (.mv (t 9)) 39 true, G 43 (.idxSl 2 (t 41) (t 42)) 39 true, G 44 (.load (some 2) (t 43)) 39 true, G 45 (.mv (t 1)) 39 true, G 46 (.call (t 40) [(t 44), (t 45)]) 39 true, G 47 (.bin .eql (t 46) (n 0)) 39 true, O 48 (.pick (t 39) (t 47) (kb false)), mv 6 35, mv 7 48])
 .ret)))))⟩
def f_gcb_Of_1 : VFn := ⟨2, [.tmp 4], (sq (.ops [O 2 (.box (t 0)), O 4 (.mv (n 0))])
 (sq (.ops [fa 5 0 2, ld 6 5, mv 7 1, add 8 .sub (t 6) (t 7), mv 4 8])
 .ret))⟩
def f_gcb_kind_of : VFn := ⟨2, [.tmp 4], (sq (.ops [O 4 (.mv (n 0))])
 (sq (.block 0 (sq (.ops [mv 6 1, add 7 .lss (t 6) (n 44032), mv 8 7, G 9 (.mv (t 1)) 8 false, G 10 (.bin .gtr (t 9) (n 55203)) 8 false, O 11 (.pick (t 8) (kb true) (t 10)), mv 5 11])
 (.cond (t 5) (sq (.ops [mv 12 0, mv 4 12])
 .ret) (sq (.ops [mv 14 1, add 15 .sub (t 14) (n 44032), add 16 .rem (t 15) (n 28), add 17 .eql (t 16) (n 0), mv 13 17])
 (.cond (t 13) (sq (.ops [O 4 (.mv (n 12))])
 .ret) .skip)))))
 (sq (.ops [O 4 (.mv (n 13))])
 .ret)))⟩
def f_cols_narrow : VFn := ⟨0, [.cell 0 (some 90)], (sq (.ops [O 0 (.alloc [z, z, z, z, z, z, z, z, z, z, z, z, z, z, z, z, z, z, z, z, z, z, z, z, z, z, z, z, z, z, z, z, z, z, z, z, z, z, z, z, z, z, z, z, z, z, z, z, z, z, z, z, z, z, z, z, z, z, z, z, z, z, z, z, z, z, z, z, z, z, z, z, z, z, z, z, z, z, z, z, z, z, z, z, z, z, z, z, z, z])])
 (sq (.ops [O 1 (.buildC [(1, (n 0)), (1, (n 32)), (1, (n 127)), (1, (n 160)), (1, (n 173)), (1, (n 174)), (1, (n 768)), (1, (n 880)), (1, (n 1155)), (1, (n 1162)), (1, (n 1425)), (1, (n 1470)), (1, (n 1471)), (1, (n 1472)), (1, (n 1473)), (1, (n 1475)), (1, (n 1476)), (1, (n 1478)), (1, (n 1479)), (1, (n 1480)), (1, (n 1536)), (1, (n 1542)), (1, (n 1552)), (1, (n 1563)), (1, (n 1564)), (1, (n 1565)), (1, (n 1611)), (1, (n 1632)), (1, (n 1648)), (1, (n 1649)), (1, (n 1750)), (1, (n 1758)), (1, (n 1759)), (1, (n 1765)), (1, (n 1767)), (1, (n 1769)), (1, (n 1770)), (1, (n 1774)), (1, (n 2274)), (1, (n 2275)), (1, (n 2362)), (1, (n 2363)), (1, (n 2364)), (1, (n 2365)), (1, (n 2369)), (1, (n 2377)), (1, (n 2381)), (1, (n 2382)), (1, (n 3633)), (1, (n 3634)), (1, (n 3636)), (1, (n 3643)), (1, (n 3655)), (1, (n 3663)), (1, (n 4448)), (1, (n 4608)), (1, (n 6832)), (1, (n 6863)), (1, (n 7616)), (1, (n 7680)), (1, (n 8203)), (1, (n 8208)), (1, (n 8232)), (1, (n 8239)), (1, (n 8288)), (1, (n 8304)), (1, (n 8400)), (1, (n 8433)), (1, (n 12330)), (1, (n 12334)), (1, (n 12441)), (1, (n 12443)), (1, (n 42607)), (1, (n 42611)), (1, (n 55216)), (1, (n 55292)), (1, (n 64286)), (1, (n 64287)), (1, (n 65024)), (1, (n 65040)), (1, (n 65056)), (1, (n 65072)), (1, (n 65279)), (1, (n 65280)), (1, (n 65529)), (1, (n 65532)), (1, (n 917505)), (1, (n 917632)), (1, (n 917760)), (1, (n 918000))]), N (.store 90 (t 0) (t 1))])
 .ret))⟩
def f_cols_wide : VFn := ⟨0, [.cell 0 (some 184)], (sq (.ops [O 0 (.alloc [z, z, z, z, z, z, z, z, z, z, z, z, z, z, z, z, z, z, z, z, z, z, z, z, z, z, z, z, z, z, z, z, z, z, z, z, z, z, z, z, z, z, z, z, z, z, z, z, z, z, z, z, z, z, z, z, z, z, z, z, z, z, z, z, z, z, z, z, z, z, z, z, z, z, z, z, z, z, z, z, z, z, z, z, z, z, z, z, z, z, z, z, z, z, z, z, z, z, z, z, z, z, z, z, z, z, z, z, z, z, z, z, z, z, z, z, z, z, z, z, z, z, z, z, z, z, z, z, z, z, z, z, z, z, z, z, z, z, z, z, z, z, z, z, z, z, z, z, z, z, z, z, z, z, z, z, z, z, z, z, z, z, z, z, z, z, z, z, z, z, z, z, z, z, z, z, z, z, z, z, z, z, z, z])])
 (sq (.ops [O 1 (.buildC [(1, (n 4352)), (1, (n 4448)), (1, (n 8986)), (1, (n 8988)), (1, (n 9193)), (1, (n 9197)), (1, (n 9200)), (1, (n 9201)), (1, (n 9203)), (1, (n 9204)), (1, (n 9725)), (1, (n 9727)), (1, (n 9748)), (1, (n 9750)), (1, (n 9800)), (1, (n 9812)), (1, (n 9855)), (1, (n 9856)), (1, (n 9875)), (1, (n 9876)), (1, (n 9889)), (1, (n 9890)), (1, (n 9898)), (1, (n 9900)), (1, (n 9917)), (1, (n 9919)), (1, (n 9924)), (1, (n 9926)), (1, (n 9934)), (1, (n 9935)), (1, (n 9940)), (1, (n 9941)), (1, (n 9962)), (1, (n 9963)), (1, (n 9970)), (1, (n 9972)), (1, (n 9973)), (1, (n 9974)), (1, (n 9978)), (1, (n 9979)), (1, (n 9981)), (1, (n 9982)), (1, (n 9989)), (1, (n 9990)), (1, (n 9994)), (1, (n 9996)), (1, (n 10024)), (1, (n 10025)), (1, (n 10060)), (1, (n 10061)), (1, (n 10062)), (1, (n 10063)), (1, (n 10067)), (1, (n 10070)), (1, (n 10071)), (1, (n 10072)), (1, (n 10133)), (1, (n 10136)), (1, (n 10160)), (1, (n 10161)), (1, (n 10175)), (1, (n 10176)), (1, (n 11035)), (1, (n 11037)), (1, (n 11088)), (1, (n 11089)), (1, (n 11093)), (1, (n 11094)), (1, (n 11904)), (1, (n 11930)), (1, (n 11931)), (1, (n 12020)), (1, (n 12032)), (1, (n 12246)), (1, (n 12272)), (1, (n 12330)), (1, (n 12334)), (1, (n 12351)), (1, (n 12353)), (1, (n 12439)), (1, (n 12443)), (1, (n 12544)), (1, (n 12549)), (1, (n 12592)), (1, (n 12593)), (1, (n 12687)), (1, (n 12688)), (1, (n 12772)), (1, (n 12784)), (1, (n 12831)), (1, (n 12832)), (1, (n 12872)), (1, (n 12880)), (1, (n 19904)), (1, (n 19968)), (1, (n 42125)), (1, (n 42128)), (1, (n 42183)), (1, (n 43360)), (1, (n 43389)), (1, (n 44032)), (1, (n 55204)), (1, (n 63744)), (1, (n 64256)), (1, (n 65040)), (1, (n 65050)), (1, (n 65072)), (1, (n 65107)), (1, (n 65108)), (1, (n 65127)), (1, (n 65128)), (1, (n 65132)), (1, (n 65281)), (1, (n 65377)), (1, (n 65504)), (1, (n 65511)), (1, (n 126980)), (1, (n 126981)), (1, (n 127183)), (1, (n 127184)), (1, (n 127374)), (1, (n 127375)), (1, (n 127377)), (1, (n 127387)), (1, (n 127462)), (1, (n 127491)), (1, (n 127744)), (1, (n 127777)), (1, (n 127789)), (1, (n 127798)), (1, (n 127799)), (1, (n 127869)), (1, (n 127870)), (1, (n 127892)), (1, (n 127904)), (1, (n 127947)), (1, (n 127951)), (1, (n 127956)), (1, (n 127968)), (1, (n 127985)), (1, (n 127988)), (1, (n 127989)), (1, (n 127992)), (1, (n 128063)), (1, (n 128064)), (1, (n 128065)), (1, (n 128066)), (1, (n 128253)), (1, (n 128255)), (1, (n 128318)), (1, (n 128331)), (1, (n 128335)), (1, (n 128336)), (1, (n 128360)), (1, (n 128378)), (1, (n 128379)), (1, (n 128405)), (1, (n 128407)), (1, (n 128420)), (1, (n 128421)), (1, (n 128507)), (1, (n 128592)), (1, (n 128640)), (1, (n 128710)), (1, (n 128716)), (1, (n 128717)), (1, (n 128720)), (1, (n 128723)), (1, (n 128747)), (1, (n 128749)), (1, (n 128756)), (1, (n 128765)), (1, (n 129292)), (1, (n 129339)), (1, (n 129340)), (1, (n 129350)), (1, (n 129351)), (1, (n 129536)), (1, (n 129648)), (1, (n 129792)), (1, (n 131072)), (1, (n 196606)), (1, (n 196608)), (1, (n 262142))]), N (.store 184 (t 0) (t 1))])
 .ret))⟩
def f_cols_within : VFn := ⟨2, [.tmp 4], (sq (.ops [O 4 (.mv (kb false))])
 (sq (.ops [mv 8 0, mv 9 1, call 10 k_slices_BinarySearchFunc_Lint_int_int [(t 8), (t 9), (fu k_cols_within_1)], mv 7 10, O 11 (.extract (t 7) 0), O 12 (.extract (t 7) 1), mv 5 11, mv 6 12])
 (sq (.ops [mv 13 5, add 14 .rem (t 13) (n 2), add 15 .eql (t 14) (n 1), mv 4 15])
 .ret)))⟩
def f_gcb_edges : VFn := ⟨0, [.cell 0 (some 154)], (sq (.ops [O 0 (.alloc [z, z, z, z, z, z, z, z, z, z, z, z, z, z, z, z, z, z, z, z, z, z, z, z, z, z, z, z, z, z, z, z, z, z, z, z, z, z, z, z, z, z, z, z, z, z, z, z, z, z, z, z, z, z, z, z, z, z, z, z, z, z, z, z, z, z, z, z, z, z, z, z, z, z, z, z, z, z, z, z, z, z, z, z, z, z, z, z, z, z, z, z, z, z, z, z, z, z, z, z, z, z, z, z, z, z, z, z, z, z, z, z, z, z, z, z, z, z, z, z, z, z, z, z, z, z, z, z, z, z, z, z, z, z, z, z, z, z, z, z, z, z, z, z, z, z, z, z, z, z, z, z, z, z])])
 (sq (.ops [O 1 (.buildC [(1, (n 169)), (1, (n 170)), (1, (n 174)), (1, (n 175)), (1, (n 8252)), (1, (n 8253)), (1, (n 8265)), (1, (n 8266)), (1, (n 8482)), (1, (n 8483)), (1, (n 8505)), (1, (n 8506)), (1, (n 8596)), (1, (n 8602)), (1, (n 8617)), (1, (n 8619)), (1, (n 8986)), (1, (n 8988)), (1, (n 9000)), (1, (n 9001)), (1, (n 9167)), (1, (n 9168)), (1, (n 9193)), (1, (n 9204)), (1, (n 9208)), (1, (n 9211)), (1, (n 9410)), (1, (n 9411)), (1, (n 9642)), (1, (n 9644)), (1, (n 9654)), (1, (n 9655)), (1, (n 9664)), (1, (n 9665)), (1, (n 9723)), (1, (n 9727)), (1, (n 9728)), (1, (n 9734)), (1, (n 9735)), (1, (n 9747)), (1, (n 9748)), (1, (n 9862)), (1, (n 9872)), (1, (n 9990)), (1, (n 9992)), (1, (n 10003)), (1, (n 10004)), (1, (n 10005)), (1, (n 10006)), (1, (n 10007)), (1, (n 10013)), (1, (n 10014)), (1, (n 10017)), (1, (n 10018)), (1, (n 10024)), (1, (n 10025)), (1, (n 10035)), (1, (n 10037)), (1, (n 10052)), (1, (n 10053)), (1, (n 10055)), (1, (n 10056)), (1, (n 10060)), (1, (n 10061)), (1, (n 10062)), (1, (n 10063)), (1, (n 10067)), (1, (n 10070)), (1, (n 10071)), (1, (n 10072)), (1, (n 10083)), (1, (n 10088)), (1, (n 10133)), (1, (n 10136)), (1, (n 10145)), (1, (n 10146)), (1, (n 10160)), (1, (n 10161)), (1, (n 10175)), (1, (n 10176)), (1, (n 10548)), (1, (n 10550)), (1, (n 11013)), (1, (n 11016)), (1, (n 11035)), (1, (n 11037)), (1, (n 11088)), (1, (n 11089)), (1, (n 11093)), (1, (n 11094)), (1, (n 12336)), (1, (n 12337)), (1, (n 12349)), (1, (n 12350)), (1, (n 12951)), (1, (n 12952)), (1, (n 12953)), (1, (n 12954)), (1, (n 126976)), (1, (n 127232)), (1, (n 127245)), (1, (n 127248)), (1, (n 127279)), (1, (n 127280)), (1, (n 127340)), (1, (n 127346)), (1, (n 127358)), (1, (n 127360)), (1, (n 127374)), (1, (n 127375)), (1, (n 127377)), (1, (n 127387)), (1, (n 127405)), (1, (n 127462)), (1, (n 127489)), (1, (n 127504)), (1, (n 127514)), (1, (n 127515)), (1, (n 127535)), (1, (n 127536)), (1, (n 127538)), (1, (n 127547)), (1, (n 127548)), (1, (n 127552)), (1, (n 127561)), (1, (n 127995)), (1, (n 128000)), (1, (n 128318)), (1, (n 128326)), (1, (n 128592)), (1, (n 128640)), (1, (n 128768)), (1, (n 128884)), (1, (n 128896)), (1, (n 128981)), (1, (n 129024)), (1, (n 129036)), (1, (n 129040)), (1, (n 129096)), (1, (n 129104)), (1, (n 129114)), (1, (n 129120)), (1, (n 129160)), (1, (n 129168)), (1, (n 129198)), (1, (n 129280)), (1, (n 129292)), (1, (n 129339)), (1, (n 129340)), (1, (n 129350)), (1, (n 129351)), (1, (n 129792)), (1, (n 130048)), (1, (n 131070))]), N (.store 154 (t 0) (t 1))])
 .ret))⟩
def f_seqs_kept : VFn := ⟨1, [.tmp 2], (sq (.ops [O 1 (.box (t 0)), O 2 (.mv (.const .nilFunc))])
 (sq (.ops [O 3 (.mkFunc (.func k_seqs_kept_1) [] [(t 1)]), mv 2 3])
 .ret))⟩
def f_weak_seq_marks : VFn := ⟨1, [], (sq (.ops [O 1 (.box (t 0))])
 (sq (.ops [fa 4 0 1, ld 5 4, O 6 (.lenSl (t 5)), O 7 (.mv (n 0))])
 (.block 0 (.loop [1, 5, 6, 7] (sq (.ops [add 8 .lss (t 7) (t 6)])
 (sq (.cond (t 8) .skip (.exit 0))
 (sq (.block 1 (sq (.ops [mv 9 7, O 10 (.idxSl 1 (t 5) (t 7)), ld 11 10, mv 2 9, mv 3 11])
 (sq (sq (.ops [mv 12 3, add 13 .neq (t 12) (n 8)])
 (.cond (t 13) (.exit 1) .skip))
 (sq (.draw [A (fa 14 0 1), B (ld 15 14), A (mv 16 2), B (O 17 (.load (some 2) (t 1))), A (mv 18 2), A (add 19 .sub (t 18) (n 1)), B (call 20 k_weak_seq_at [(t 17), (t 19)]), A (O 21 (.idxSl 1 (t 15) (t 16))), C (N (.store 1 (t 21) (t 20)))])
 (sq (.ops [mv 22 2, add 23 .gtr (t 22) (n 0), mv 24 23, G 25 (.fieldAddr 0 (t 1)) 24 true, G 26 (.load none (t 25)) 24 true, G 27 (.mv (t 2)) 24 true, G 28 (.idxSl 1 (t 26) (t 27)) 24 true, G 29 (.load none (t 28)) 24 true, G 30 (.bin .geq (t 29) (n 19)) 24 true, O 31 (.pick (t 24) (t 30) (kb false)), mv 32 31, G 33 (.fieldAddr 0 (t 1)) 32 true, G 34 (.load none (t 33)) 32 true, G 35 (.mv (t 2)) 32 true, G 36 (.idxSl 1 (t 34) (t 35)) 32 true, G 37 (.load none (t 36)) 32 true, G 38 (.bin .leq (t 37) (n 22)) 32 true, O 39 (.pick (t 32) (t 38) (kb false))])
 (.cond (t 39) (.ops [fa 40 0 1, ld 41 40, mv 42 2, O 43 (.idxSl 1 (t 41) (t 42)), N (.store 1 (t 43) (n 13))]) .skip))))))
 (.ops [add 44 .add (t 7) (n 1), mv 7 44]))))))))⟩
def f_weak_Weak_1 : VFn := ⟨1, [], (.ops [O 1 (.load (some 2) (t 0)), call 2 k_weak_seq_after [(t 1), (n 2), (n 6)]])⟩
def f_weak_seq_after : VFn := ⟨3, [], (sq (.ops [O 3 (.box (t 0))])
 (sq (.ops [fa 9 1 3, ld 10 9, mv 6 10])
 (sq (.ops [fa 11 0 3, ld 12 11, O 13 (.lenSl (t 12)), O 14 (.mv (n 0))])
 (.block 0 (.loop [1, 2, 3, 6, 12, 13, 14] (sq (.ops [add 15 .lss (t 14) (t 13)])
 (sq (.cond (t 15) .skip (.exit 0))
 (sq (.block 1 (sq (.ops [mv 16 14, O 17 (.idxSl 1 (t 12) (t 14)), ld 18 17, mv 7 16, mv 8 18])
 (sq (.ops [mv 19 8])
 (.block 2 (sq (sq (.ops [add 21 .eql (t 19) (n 0), mv 20 21])
 (.cond (t 20) .skip (sq (.ops [add 22 .eql (t 19) (n 1), mv 20 22])
 (.cond (t 20) .skip (.ops [add 23 .eql (t 19) (n 2), mv 20 23])))))
 (.cond (t 20) (.ops [mv 24 8, mv 6 24]) (sq (.ops [add 26 .eql (t 19) (n 3), mv 25 26])
 (.cond (t 25) (sq (.ops [mv 27 6, mv 28 1, add 29 .eql (t 27) (t 28)])
 (.cond (t 29) (.ops [fa 30 0 3, ld 31 30, mv 32 7, mv 33 2, O 34 (.idxSl 1 (t 31) (t 32)), N (.store 1 (t 34) (t 33))]) .skip)) .skip))))))))
 (.ops [add 35 .add (t 14) (n 1), mv 14 35])))))))))⟩
def f_weak_Weak_2 : VFn := ⟨1, [], (.ops [O 1 (.load (some 2) (t 0)), O 2 (.bsliceC 1 1 [(1, (n 2))]), call 3 k_weak_seq_turn [(t 1), (n 1), (t 2)]])⟩
def f_weak_seq_turn : VFn := ⟨3, [], (sq (.ops [O 3 (.box (t 0))])
 (sq (.ops [fa 8 0 3, ld 9 8, O 10 (.lenSl (t 9)), O 11 (.mv (n 0))])
 (.block 0 (.loop [1, 2, 3, 9, 10, 11] (sq (.ops [add 12 .lss (t 11) (t 10)])
 (sq (.cond (t 12) .skip (.exit 0))
 (sq (.block 1 (sq (.ops [mv 13 11, O 14 (.idxSl 1 (t 9) (t 11)), ld 15 14, mv 6 13, mv 7 15])
 (sq (.ops [mv 16 2, mv 17 7, call 18 k_slices_Contains_Lint_int [(t 16), (t 17)]])
 (.cond (t 18) (.ops [fa 19 0 3, ld 20 19, mv 21 6, mv 22 1, O 23 (.idxSl 1 (t 20) (t 21)), N (.store 1 (t 23) (t 22))]) .skip))))
 (.ops [add 24 .add (t 11) (n 1), mv 11 24]))))))))⟩
def f_weak_seq_between : VFn := ⟨1, [], (sq (.ops [O 1 (.box (t 0))])
 (sq (.ops [fa 6 0 1, ld 7 6, O 8 (.lenSl (t 7)), O 9 (.mv (n 0))])
 (.block 0 (.loop [1, 7, 8, 9] (sq (.ops [add 10 .lss (t 9) (t 8)])
 (sq (.cond (t 10) .skip (.exit 0))
 (sq (.block 1 (sq (.ops [mv 11 9, O 12 (.idxSl 1 (t 7) (t 9)), ld 13 12, mv 2 11, mv 3 13])
 (sq (.draw [B (O 14 (.load (some 2) (t 1))), A (mv 15 2), A (add 16 .sub (t 15) (n 1)), B (call 17 k_weak_seq_at [(t 14), (t 16)]), B (O 18 (.load (some 2) (t 1))), A (mv 19 2), A (add 20 .add (t 19) (n 1)), C (call 21 k_weak_seq_at [(t 18), (t 20)]), A (mv 4 17), A (mv 5 21)])
 (sq (.ops [mv 22 2, add 23 .gtr (t 22) (n 0), mv 24 23, G 25 (.mv (t 4)) 24 true, G 26 (.mv (t 5)) 24 true, G 27 (.bin .eql (t 25) (t 26)) 24 true, O 28 (.pick (t 24) (t 27) (kb false)), mv 29 28, G 30 (.mv (t 3)) 29 true, G 31 (.bin .eql (t 30) (n 4)) 29 true, G 32 (.mv (t 31)) 29 true, G 33 (.mv (t 4)) 32 true, G 34 (.bin .eql (t 33) (n 3)) 32 true, G 35 (.pick (t 32) (t 34) (kb false)) 29 true, G 36 (.mv (t 35)) 29 true, G 37 (.mv (t 3)) 36 false, G 38 (.bin .eql (t 37) (n 7)) 36 false, G 39 (.mv (t 38)) 36 false, G 40 (.mv (t 4)) 39 true, G 41 (.bin .eql (t 40) (n 3)) 39 true, G 42 (.mv (t 41)) 39 true, G 43 (.mv (t 4)) 42 false, G 44 (.bin .eql (t 43) (n 6)) 42 false, G 45 (.pick (t 42) (kb true) (t 44)) 39 true, G 46 (.pick (t 39) (t 45) (kb false)) 36 false, G 47 (.pick (t 36) (kb true) (t 46)) 29 true, O 48 (.pick (t 29) (t 47) (kb false))])
 (.cond (t 48) (.ops [fa 49 0 1, ld 50 49, mv 51 2, mv 52 4, O 53 (.idxSl 1 (t 50) (t 51)), N (.store 1 (t 53) (t 52))]) .skip)))))
 (.ops [add 54 .add (t 9) (n 1), mv 9 54]))))))))⟩
def f_weak_seq_beside : VFn := ⟨1, [], (sq (.ops [O 1 (.box (t 0))])
 (sq (.ops [O 2 (.mv (n 0))])
 (.block 0 (.loop [1, 2] (sq (sq (.ops [mv 5 2, fa 6 0 1, ld 7 6, O 8 (.lenSl (t 7)), add 9 .lss (t 5) (t 8)])
 (.cond (t 9) .skip (.exit 0)))
 (sq (.block 1 (sq (.ops [mv 12 2, mv 3 12])
 (sq (.block 2 (.loop [1, 2, 3] (sq (sq (.ops [O 13 (.load (some 2) (t 1)), mv 14 2, call 15 k_weak_seq_at [(t 13), (t 14)], add 16 .eql (t 15) (n 5)])
 (.cond (t 16) .skip (.exit 2)))
 (.block 3 (.ops [mv 17 2, add 18 .add (t 17) (n 1), mv 2 18])))))
 (sq (.ops [mv 19 3, add 20 .gtr (t 19) (n 0), mv 21 20, G 22 (.load (some 2) (t 1)) 21 true, G 23 (.mv (t 3)) 21 true, G 24 (.bin .sub (t 23) (n 1)) 21 true, G 25 (.call (fu k_weak_seq_at) [(t 22), (t 24)]) 21 true, G 26 (.bin .eql (t 25) (n 3)) 21 true, O 27 (.pick (t 21) (t 26) (kb false)), mv 28 27, G 29 (.load (some 2) (t 1)) 28 false, G 30 (.mv (t 2)) 28 false, G 31 (.call (fu k_weak_seq_at) [(t 29), (t 30)]) 28 false, G 32 (.bin .eql (t 31) (n 3)) 28 false, O 33 (.pick (t 28) (kb true) (t 32))])
 (.cond (t 33) (sq (.ops [mv 34 3, mv 4 34])
 (.block 4 (.loop [1, 2, 4] (sq (sq (.ops [mv 35 4, mv 36 2, add 37 .lss (t 35) (t 36)])
 (.cond (t 37) .skip (.exit 4)))
 (sq (.block 5 (.ops [fa 40 0 1, ld 41 40, mv 42 4, O 43 (.idxSl 1 (t 41) (t 42)), N (.store 1 (t 43) (n 3))]))
 (.ops [mv 38 4, add 39 .add (t 38) (n 1), mv 4 39])))))) .skip)))))
 (.ops [mv 10 2, add 11 .add (t 10) (n 1), mv 2 11])))))))⟩
def f_weak_Weak_3 : VFn := ⟨1, [], (.ops [O 1 (.load (some 2) (t 0)), O 2 (.bsliceC 1 3 [(1, (n 4)), (1, (n 5)), (1, (n 7))]), call 3 k_weak_seq_turn [(t 1), (n 13), (t 2)]])⟩
def f_weak_Weak_4 : VFn := ⟨1, [], (.ops [O 1 (.load (some 2) (t 0)), call 2 k_weak_seq_after [(t 1), (n 0), (n 0)]])⟩
def f_pairs_Find : VFn := ⟨2, [.tmp 4], (sq (.ops [O 3 (.box (t 1)), O 4 (.mv (.const (.slice none 0 0)))])
 (.scope (sq (sq (.ops [mv 13 0, O 14 (.lenSl (t 13)), ld 15 3, O 16 (.lenSl (t 15)), add 17 .neq (t 14) (t 16)])
 (.cond (t 17) (sq (.ops [O 4 (.mv (.const (.slice none 0 0)))])
 .ret) .skip))
 (sq (.ops [O 5 (.alloc [.sn])])
 (sq (.ops [O 6 (.alloc [.sn])])
 (sq (.label 0)
 (sq (sq (.ops [ld 18 3, O 19 (.lenSl (t 18)), O 20 (.mv (n 0))])
 (.block 0 (.loop [0, 3, 5, 6, 18, 19, 20, 57, 58] (sq (.ops [add 21 .lss (t 20) (t 19)])
 (sq (.cond (t 21) .skip (.exit 0))
 (sq (.block 1 (sq (.ops [mv 22 20, O 23 (.idxSl 1 (t 18) (t 20)), ld 24 23, O 7 (.alloc [z]), O 8 (.alloc [z]), N (.store 1 (t 7) (t 22)), N (.store 1 (t 8) (t 24))])
 (sq (.ops [ld 26 8, call 27 k_mirror_Pair [(t 26)], mv 25 27, O 28 (.extract (t 25) 0), O 29 (.extract (t 25) 1), mv 9 28, mv 10 29])
 (sq (.block 2 (sq (.ops [mv 31 0, ld 32 7, O 33 (.idxSl 1 (t 31) (t 32)), ld 34 33, add 35 .neq (t 34) (n 13), mv 36 35, G 37 (.mv (t 9)) 36 false, G 38 (.bin .eql (t 37) (n 0)) 36 false, O 39 (.pick (t 36) (kb true) (t 38)), mv 30 39])
 (.cond (t 30) (.exit 1) (sq (.ops [mv 41 9, add 42 .eql (t 41) (n 1), mv 43 42, G 44 (.load none (t 6)) 43 true, G 45 (.lenSl (t 44)) 43 true, G 46 (.bin .eql (t 45) (n 63)) 43 true, O 47 (.pick (t 43) (t 46) (kb false)), mv 40 47])
 (.cond (t 40) (.exit 0) (sq (.ops [mv 49 9, add 50 .eql (t 49) (n 1), mv 48 50])
 (.cond (t 48) (sq (.ops [ld 51 6, ld 52 7, O 53 (.bsliceC 1 1 [(1, (t 52))]), O 54 (.append false [z] 1 8 (t 51) (t 53)), N (.store 1 (t 6) (t 54))])
 (.exit 1)) .skip)))))))
 (sq (.ops [ld 55 6, call 56 k_slices_Backward_Lint_int [(t 55)]])
 (.block 3 (.rangeFunc (t 56) [57, 58] (sq (.ops [mv 11 57])
 (.ops [mv 12 58])) (.block 4 (sq (.draw [B (ld 59 3), A (mv 60 12), A (O 61 (.idxSl 1 (t 59) (t 60))), B (ld 62 61), B (ld 63 8), C (call 64 k_mirror_Meet [(t 62), (t 63)])])
 (.cond (t 64) (sq (.ops [ld 65 5, mv 66 12, ld 67 7, O 68 (.buildC [(1, (t 66)), (1, (t 67))]), O 69 (.bsliceC 2 1 [(2, (t 68))]), O 70 (.append false [z, z] 2 16 (t 65) (t 69)), N (.store 1 (t 5) (t 70))])
 (sq (.ops [ld 71 6, mv 72 11, O 73 (.slSl 1 (t 71) none (some (t 72)) none), N (.store 1 (t 6) (t 73))])
 (.exit 3))) .skip))))))))))
 (.ops [add 74 .add (t 20) (n 1), mv 20 74])))))))
 (sq (.ops [ld 75 5, call 76 k_slices_SortFunc_LPair_Pair [(t 75), (fu k_pairs_Find_1)]])
 (sq (.ops [ld 77 5, mv 4 77])
 .ret)))))))))⟩
def f_neutral_rises : VFn := ⟨2, [.tmp 4], (sq (.ops [O 4 (.mv (n 0))])
 (sq (.ops [mv 6 1, add 7 .and (t 6) (n 1), add 8 .eql (t 7) (n 1), mv 5 8])
 (sq (.block 0 (sq (sq (.ops [mv 10 0, add 11 .eql (t 10) (n 1), mv 12 11, G 13 (.mv (t 5)) 12 true, G 14 (.un .not (t 13)) 12 true, O 15 (.pick (t 12) (t 14) (kb false)), mv 9 15])
 (.cond (t 9) .skip (.ops [mv 16 0, add 17 .eql (t 16) (n 0), mv 18 17, G 19 (.mv (t 5)) 18 true, O 20 (.pick (t 18) (t 19) (kb false)), mv 9 20])))
 (.cond (t 9) (sq (.ops [O 4 (.mv (n 1))])
 .ret) (sq (.ops [mv 22 0, add 23 .neq (t 22) (n 3), mv 24 23, G 25 (.mv (t 0)) 24 true, G 26 (.bin .neq (t 25) (n 6)) 24 true, O 27 (.pick (t 24) (t 26) (kb false)), mv 21 27])
 (.cond (t 21) (sq (.ops [O 4 (.mv (n 0))])
 .ret) (sq (.ops [mv 29 5, mv 28 29])
 (.cond (t 28) (sq (.ops [O 4 (.mv (n 1))])
 .ret) .skip)))))))
 (sq (.ops [O 4 (.mv (n 2))])
 .ret))))⟩
def f_neutral_Settle_1 : VFn := ⟨6, [], (sq (.ops [ld 9 2, call 10 k_neutral_way [(t 9)], mv 8 10])
 (sq (sq (.ops [ld 11 3, mv 12 1, add 13 .eql (t 11) (t 12)])
 (.cond (t 13) (.ops [mv 14 1, mv 8 14]) .skip))
 (.block 0 (.loop [0, 4, 5, 8] (sq (sq (.ops [ld 15 4, mv 16 0, add 17 .lss (t 15) (t 16)])
 (.cond (t 17) .skip (.exit 0)))
 (sq (.block 1 (.ops [ld 20 5, ld 21 4, mv 22 8, O 23 (.idxSl 1 (t 20) (t 21)), N (.store 1 (t 23) (t 22))]))
 (.ops [ld 18 4, add 19 .add (t 18) (n 1), N (.store 1 (t 4) (t 19))])))))))⟩
def f_neutral_way : VFn := ⟨1, [.tmp 2], (sq (.ops [O 2 (.mv (n 0))])
 (sq (sq (.ops [mv 3 0, add 4 .and (t 3) (n 1), add 5 .eql (t 4) (n 1)])
 (.cond (t 5) (sq (.ops [O 2 (.mv (n 1))])
 .ret) .skip))
 (sq (.ops [O 2 (.mv (n 0))])
 .ret)))⟩
def f_neutral_letter : VFn := ⟨1, [.tmp 2, .tmp 3], (sq (.ops [O 2 (.mv (n 0)), O 3 (.mv (kb false))])
 (sq (sq (.ops [mv 4 0])
 (.block 0 (sq (.block 2 (sq (.block 1 (sq (sq (sq (sq (.ops [add 6 .eql (t 4) (n 3), mv 5 6])
 (.cond (t 5) .skip (.ops [add 7 .eql (t 4) (n 6), mv 5 7])))
 (.cond (t 5) (.exit 1) .skip))
 (sq (sq (.ops [add 9 .eql (t 4) (n 0), mv 8 9])
 (.cond (t 8) .skip (.ops [add 10 .eql (t 4) (n 1), mv 8 10])))
 (.cond (t 8) (.exit 2) .skip)))
 (.exit 0)))
 (.ops [O 0 (.mv (n 1))])))
 (sq (sq (.ops [mv 11 0, mv 2 11, O 3 (.mv (kb true))])
 .ret)
 (.exit 0)))))
 (sq (.ops [O 2 (.mv (n 0)), O 3 (.mv (kb false))])
 .ret)))⟩
def f_slices_Backward_LRune_Rune_1 : VFn := ⟨2, [], (sq (.ops [ld 4 1, O 5 (.lenSl (t 4)), add 6 .sub (t 5) (n 1), mv 3 6])
 (.block 0 (.loop [0, 1, 3] (sq (sq (.ops [mv 7 3, add 8 .geq (t 7) (n 0)])
 (.cond (t 8) .skip (.exit 0)))
 (sq (.block 1 (sq (.ops [mv 11 0, mv 12 3, ld 13 1, mv 14 3, O 15 (.idxSl 3 (t 13) (t 14)), O 16 (.load (some 3) (t 15)), O 17 (.call (t 11) [(t 12), (t 16)]), O 18 (.un .not (t 17))])
 (.cond (t 18) .ret .skip)))
 (.ops [mv 9 3, add 10 .sub (t 9) (n 1), mv 3 10]))))))⟩
def f_mirror_find : VFn := ⟨1, [.tmp 2, .tmp 3, .tmp 4], (sq (.ops [O 2 (.mv (n 0)), O 3 (.mv (n 0)), O 4 (.mv (kb false))])
 (sq (.ops [call 10 k_mirror_rows [], O 5 (.alloc [z, z, z, (.b false), z, z, z, (.b false), z, z, z, (.b false), z, z, z, (.b false), z, z, z, (.b false), z, z, z, (.b false), z, z, z, (.b false), z, z, z, (.b false), z, z, z, (.b false), z, z, z, (.b false), z, z, z, (.b false), z, z, z, (.b false), z, z, z, (.b false), z, z, z, (.b false), z, z, z, (.b false), z, z, z, (.b false), z, z, z, (.b false), z, z, z, (.b false), z, z, z, (.b false), z, z, z, (.b false), z, z, z, (.b false), z, z, z, (.b false), z, z, z, (.b false), z, z, z, (.b false), z, z, z, (.b false), z, z, z, (.b false), z, z, z, (.b false), z, z, z, (.b false), z, z, z, (.b false), z, z, z, (.b false), z, z, z, (.b false), z, z, z, (.b false), z, z, z, (.b false), z, z, z, (.b false), z, z, z, (.b false), z, z, z, (.b false), z, z, z, (.b false), z, z, z, (.b false)]), N (.store 152 (t 5) (t 10))])
 (sq (.ops [O 12 (.slArr 38 4 (t 5) none none none), mv 13 0, call 14 k_slices_BinarySearchFunc_Lmirror_row_mirror_row_int [(t 12), (t 13), (fu k_mirror_find_1)], mv 11 14, O 15 (.extract (t 11) 0), O 16 (.extract (t 11) 1), mv 6 15, mv 7 16])
 (sq (sq (.ops [mv 17 7, O 18 (.un .not (t 17))])
 (.cond (t 18) (sq (.ops [O 2 (.mv (n 0)), O 3 (.mv (n 0)), O 4 (.mv (kb false))])
 .ret) .skip))
 (sq (.ops [mv 19 6, O 20 (.idxArr 38 4 (t 5) (t 19)), O 21 (.load (some 4) (t 20)), O 8 (.alloc [z, z, z, (.b false)]), N (.store 4 (t 8) (t 21))])
 (sq (sq (.ops [mv 22 0, fa 23 0 8, fa 24 0 23, ld 25 24, add 26 .sub (t 22) (t 25), mv 9 26])
 (.block 0 (sq (.ops [fa 28 2 8, ld 29 28, add 30 .gtr (t 29) (n 1), mv 31 30, G 32 (.mv (t 9)) 31 true, G 33 (.bin .neq (t 32) (n 0)) 31 true, O 34 (.pick (t 31) (t 33) (kb false)), mv 35 34, G 36 (.mv (t 0)) 35 true, G 37 (.fieldAddr 0 (t 8)) 35 true, G 38 (.fieldAddr 1 (t 37)) 35 true, G 39 (.load none (t 38)) 35 true, G 40 (.bin .neq (t 36) (t 39)) 35 true, O 41 (.pick (t 35) (t 40) (kb false)), mv 42 41, G 43 (.fieldAddr 0 (t 8)) 42 true, G 44 (.fieldAddr 1 (t 43)) 42 true, G 45 (.load none (t 44)) 42 true, G 46 (.fieldAddr 0 (t 8)) 42 true, G 47 (.fieldAddr 0 (t 46)) 42 true, G 48 (.load none (t 47)) 42 true, G 49 (.bin .sub (t 45) (t 48)) 42 true, G 50 (.fieldAddr 2 (t 8)) 42 true, G 51 (.load none (t 50)) 42 true, G 52 (.bin .eql (t 49) (t 51)) 42 true, O 53 (.pick (t 42) (t 52) (kb false)), mv 27 53])
 (.cond (t 27) (sq (.ops [O 2 (.mv (n 0)), O 3 (.mv (n 0)), O 4 (.mv (kb false))])
 .ret) (sq (.ops [mv 55 9, fa 56 2 8, ld 57 56, add 58 .quo (t 55) (t 57), add 59 .rem (t 58) (n 2), add 60 .eql (t 59) (n 0), mv 54 60])
 (.cond (t 54) (sq (.draw [A (mv 61 0), A (fa 62 2 8), B (ld 63 62), A (add 64 .add (t 61) (t 63)), A (fa 65 3 8), B (ld 66 65), A (O 2 (.mv (n 1))), A (mv 3 64), A (mv 4 66)])
 .ret) .skip))))))
 (sq (.draw [A (mv 67 0), A (fa 68 2 8), B (ld 69 68), A (add 70 .sub (t 67) (t 69)), A (fa 71 3 8), B (ld 72 71), A (O 2 (.mv (n 2))), A (mv 3 70), A (mv 4 72)])
 .ret)))))))⟩
def f_slices_BinarySearchFunc_Lint_int_int : VFn := ⟨3, [.tmp 6, .tmp 7], (sq (.ops [O 6 (.mv (n 0)), O 7 (.mv (kb false))])
 (sq (.ops [mv 12 0, O 13 (.lenSl (t 12)), mv 8 13])
 (sq (.ops [mv 14 8, O 9 (.mv (n 0)), mv 10 14])
 (sq (.block 0 (.loop [0, 1, 2, 8, 9, 10] (sq (sq (.ops [mv 15 9, mv 16 10, add 17 .lss (t 15) (t 16)])
 (.cond (t 17) .skip (.exit 0)))
 (.block 1 (sq (.ops [mv 18 9, mv 19 10, add 20 .add (t 18) (t 19), O 21 (.toInt .u64 (t 20)), add 22 .shr (t 21) (.const (.int .u64 (.ofNat 1))), O 23 (.toInt .i64 (t 22)), mv 11 23])
 (sq (.ops [mv 24 2, mv 25 0, mv 26 11, O 27 (.idxSl 1 (t 25) (t 26)), ld 28 27, mv 29 1, O 30 (.call (t 24) [(t 28), (t 29)]), add 31 .lss (t 30) (n 0)])
 (.cond (t 31) (.ops [mv 32 11, add 33 .add (t 32) (n 1), mv 9 33]) (.ops [mv 34 11, mv 10 34]))))))))
 (sq (.ops [mv 35 9, mv 36 9, mv 37 8, add 38 .lss (t 36) (t 37), mv 39 38, G 40 (.mv (t 2)) 39 true, G 41 (.mv (t 0)) 39 true, G 42 (.mv (t 9)) 39 true, G 43 (.idxSl 1 (t 41) (t 42)) 39 true, G 44 (.load none (t 43)) 39 true, G 45 (.mv (t 1)) 39 true, G 46 (.call (t 40) [(t 44), (t 45)]) 39 true, G 47 (.bin .eql (t 46) (n 0)) 39 true, O 48 (.pick (t 39) (t 47) (kb false)), mv 6 35, mv 7 48])
 .ret)))))⟩
def f_cols_within_1 : VFn := ⟨2, [.tmp 4], (sq (.ops [O 4 (.mv (n 0))])
 (sq (sq (.ops [mv 5 0, mv 6 1, add 7 .leq (t 5) (t 6)])
 (.cond (t 7) (sq (.ops [O 4 (.mv (.const (.int .i64 (.negSucc 0))))])
 .ret) .skip))
 (sq (.ops [O 4 (.mv (n 1))])
 .ret)))⟩
def f_seqs_kept_1 : VFn := ⟨2, [], (sq (.ops [ld 5 1, O 6 (.lenSl (t 5)), O 7 (.mv (n 0))])
 (.block 0 (.loop [0, 5, 6, 7] (sq (.ops [add 8 .lss (t 7) (t 6)])
 (sq (.cond (t 8) .skip (.exit 0))
 (sq (.block 1 (sq (.ops [mv 9 7, O 10 (.idxSl 1 (t 5) (t 7)), ld 11 10, mv 3 9, mv 4 11])
 (sq (.ops [mv 12 4, add 13 .geq (t 12) (n 0), mv 14 13, G 15 (.mv (t 0)) 14 true, G 16 (.mv (t 3)) 14 true, G 17 (.mv (t 4)) 14 true, G 18 (.call (t 15) [(t 16), (t 17)]) 14 true, G 19 (.un .not (t 18)) 14 true, O 20 (.pick (t 14) (t 19) (kb false))])
 (.cond (t 20) .ret .skip))))
 (.ops [add 21 .add (t 7) (n 1), mv 7 21])))))))⟩
def f_weak_seq_at : VFn := ⟨2, [.tmp 4], (sq (.ops [O 2 (.box (t 0)), O 4 (.mv (n 0))])
 (sq (.block 0 (sq (.ops [mv 6 1, add 7 .lss (t 6) (n 0), mv 5 7])
 (.cond (t 5) (sq (.ops [fa 8 1 2, ld 9 8, mv 4 9])
 .ret) (sq (.ops [mv 11 1, fa 12 0 2, ld 13 12, O 14 (.lenSl (t 13)), add 15 .geq (t 11) (t 14), mv 10 15])
 (.cond (t 10) (sq (.ops [O 4 (.mv (.const (.int .i64 (.negSucc 0))))])
 .ret) .skip)))))
 (sq (.ops [fa 16 0 2, ld 17 16, mv 18 1, O 19 (.idxSl 1 (t 17) (t 18)), ld 20 19, mv 4 20])
 .ret)))⟩
def f_slices_Contains_Lint_int : VFn := ⟨2, [.tmp 4], (sq (.ops [O 4 (.mv (kb false))])
 (sq (.ops [mv 5 0, mv 6 1, call 7 k_slices_Index_Lint_int [(t 5), (t 6)], add 8 .geq (t 7) (n 0), mv 4 8])
 .ret))⟩
def f_mirror_Pair : VFn := ⟨1, [.tmp 2, .tmp 3], (sq (.ops [O 2 (.mv (n 0)), O 3 (.mv (n 0))])
 (sq (.ops [mv 6 0, call 7 k_mirror_find [(t 6)], mv 5 7, O 8 (.extract (t 5) 0), O 9 (.extract (t 5) 1), O 10 (.extract (t 5) 2), mv 2 8, mv 3 9, mv 4 10])
 (sq (sq (.ops [mv 11 4, O 12 (.un .not (t 11))])
 (.cond (t 12) (sq (.ops [O 2 (.mv (n 0)), O 3 (.mv (n 0))])
 .ret) .skip))
 (sq (.ops [mv 13 2, mv 14 3, mv 2 13, mv 3 14])
 .ret))))⟩
def f_slices_SortFunc_LPair_Pair : VFn := ⟨2, [], (sq (.ops [mv 5 0, O 6 (.lenSl (t 5)), mv 4 6])
 (.ops [mv 7 0, mv 8 4, mv 9 4, O 10 (.toInt .u64 (t 9)), call 11 k_math_bits_Len [(t 10)], mv 12 1, call 13 k_slices_pdqsortCmpFunc_Pair [(t 7), (n 0), (t 8), (t 11), (t 12)]]))⟩
def f_mirror_rows : VFn := ⟨0, [.cell 0 (some 152)], (sq (.ops [O 0 (.alloc [z, z, z, (.b false), z, z, z, (.b false), z, z, z, (.b false), z, z, z, (.b false), z, z, z, (.b false), z, z, z, (.b false), z, z, z, (.b false), z, z, z, (.b false), z, z, z, (.b false), z, z, z, (.b false), z, z, z, (.b false), z, z, z, (.b false), z, z, z, (.b false), z, z, z, (.b false), z, z, z, (.b false), z, z, z, (.b false), z, z, z, (.b false), z, z, z, (.b false), z, z, z, (.b false), z, z, z, (.b false), z, z, z, (.b false), z, z, z, (.b false), z, z, z, (.b false), z, z, z, (.b false), z, z, z, (.b false), z, z, z, (.b false), z, z, z, (.b false), z, z, z, (.b false), z, z, z, (.b false), z, z, z, (.b false), z, z, z, (.b false), z, z, z, (.b false), z, z, z, (.b false), z, z, z, (.b false), z, z, z, (.b false), z, z, z, (.b false), z, z, z, (.b false), z, z, z, (.b false)])])
 (sq (.ops [O 1 (.buildC [(1, (n 40)), (1, (n 41))]), O 2 (.buildC [(2, (t 1)), (1, (n 1)), (1, (kb true))]), O 3 (.buildC [(1, (n 60)), (1, (n 62))]), O 4 (.buildC [(2, (t 3)), (1, (n 2)), (1, (kb false))]), O 5 (.buildC [(1, (n 91)), (1, (n 93))]), O 6 (.buildC [(2, (t 5)), (1, (n 2)), (1, (kb true))]), O 7 (.buildC [(1, (n 123)), (1, (n 125))]), O 8 (.buildC [(2, (t 7)), (1, (n 2)), (1, (kb true))]), O 9 (.buildC [(1, (n 171)), (1, (n 187))]), O 10 (.buildC [(2, (t 9)), (1, (n 16)), (1, (kb false))]), O 11 (.buildC [(1, (n 3898)), (1, (n 3901))]), O 12 (.buildC [(2, (t 11)), (1, (n 1)), (1, (kb true))]), O 13 (.buildC [(1, (n 5787)), (1, (n 5788))]), O 14 (.buildC [(2, (t 13)), (1, (n 1)), (1, (kb true))]), O 15 (.buildC [(1, (n 8249)), (1, (n 8250))]), O 16 (.buildC [(2, (t 15)), (1, (n 1)), (1, (kb false))]), O 17 (.buildC [(1, (n 8261)), (1, (n 8262))]), O 18 (.buildC [(2, (t 17)), (1, (n 1)), (1, (kb true))]), O 19 (.buildC [(1, (n 8317)), (1, (n 8318))]), O 20 (.buildC [(2, (t 19)), (1, (n 1)), (1, (kb true))]), O 21 (.buildC [(1, (n 8333)), (1, (n 8334))]), O 22 (.buildC [(2, (t 21)), (1, (n 1)), (1, (kb true))]), O 23 (.buildC [(1, (n 8712)), (1, (n 8717))]), O 24 (.buildC [(2, (t 23)), (1, (n 3)), (1, (kb false))]), O 25 (.buildC [(1, (n 8764)), (1, (n 8765))]), O 26 (.buildC [(2, (t 25)), (1, (n 1)), (1, (kb false))]), O 27 (.buildC [(1, (n 8804)), (1, (n 8811))]), O 28 (.buildC [(2, (t 27)), (1, (n 1)), (1, (kb false))]), O 29 (.buildC [(1, (n 8814)), (1, (n 8841))]), O 30 (.buildC [(2, (t 29)), (1, (n 1)), (1, (kb false))]), O 31 (.buildC [(1, (n 8847)), (1, (n 8850))]), O 32 (.buildC [(2, (t 31)), (1, (n 1)), (1, (kb false))]), O 33 (.buildC [(1, (n 8866)), (1, (n 8867))]), O 34 (.buildC [(2, (t 33)), (1, (n 1)), (1, (kb false))]), O 35 (.buildC [(1, (n 8882)), (1, (n 8885))]), O 36 (.buildC [(2, (t 35)), (1, (n 1)), (1, (kb false))]), O 37 (.buildC [(1, (n 8912)), (1, (n 8913))]), O 38 (.buildC [(2, (t 37)), (1, (n 1)), (1, (kb false))]), O 39 (.buildC [(1, (n 8918)), (1, (n 8941))]), O 40 (.buildC [(2, (t 39)), (1, (n 1)), (1, (kb false))]), O 41 (.buildC [(1, (n 8968)), (1, (n 8971))]), O 42 (.buildC [(2, (t 41)), (1, (n 1)), (1, (kb true))]), O 43 (.buildC [(1, (n 9001)), (1, (n 9002))]), O 44 (.buildC [(2, (t 43)), (1, (n 1)), (1, (kb true))]), O 45 (.buildC [(1, (n 10088)), (1, (n 10101))]), O 46 (.buildC [(2, (t 45)), (1, (n 1)), (1, (kb true))]), O 47 (.buildC [(1, (n 10181)), (1, (n 10182))]), O 48 (.buildC [(2, (t 47)), (1, (n 1)), (1, (kb true))]), O 49 (.buildC [(1, (n 10214)), (1, (n 10223))]), O 50 (.buildC [(2, (t 49)), (1, (n 1)), (1, (kb true))]), O 51 (.buildC [(1, (n 10627)), (1, (n 10636))]), O 52 (.buildC [(2, (t 51)), (1, (n 1)), (1, (kb true))]), O 53 (.buildC [(1, (n 10641)), (1, (n 10648))]), O 54 (.buildC [(2, (t 53)), (1, (n 1)), (1, (kb true))]), O 55 (.buildC [(1, (n 10712)), (1, (n 10715))]), O 56 (.buildC [(2, (t 55)), (1, (n 1)), (1, (kb true))]), O 57 (.buildC [(1, (n 10748)), (1, (n 10749))]), O 58 (.buildC [(2, (t 57)), (1, (n 1)), (1, (kb true))]), O 59 (.buildC [(1, (n 11810)), (1, (n 11817))]), O 60 (.buildC [(2, (t 59)), (1, (n 1)), (1, (kb true))]), O 61 (.buildC [(1, (n 12296)), (1, (n 12305))]), O 62 (.buildC [(2, (t 61)), (1, (n 1)), (1, (kb true))]), O 63 (.buildC [(1, (n 12308)), (1, (n 12315))]), O 64 (.buildC [(2, (t 63)), (1, (n 1)), (1, (kb true))]), O 65 (.buildC [(1, (n 65113)), (1, (n 65118))]), O 66 (.buildC [(2, (t 65)), (1, (n 1)), (1, (kb true))]), O 67 (.buildC [(1, (n 65288)), (1, (n 65289))]), O 68 (.buildC [(2, (t 67)), (1, (n 1)), (1, (kb true))]), O 69 (.buildC [(1, (n 65339)), (1, (n 65341))]), O 70 (.buildC [(2, (t 69)), (1, (n 2)), (1, (kb true))]), O 71 (.buildC [(1, (n 65371)), (1, (n 65373))]), O 72 (.buildC [(2, (t 71)), (1, (n 2)), (1, (kb true))]), O 73 (.buildC [(1, (n 65375)), (1, (n 65376))]), O 74 (.buildC [(2, (t 73)), (1, (n 1)), (1, (kb true))]), O 75 (.buildC [(1, (n 65378)), (1, (n 65379))]), O 76 (.buildC [(2, (t 75)), (1, (n 1)), (1, (kb true))]), O 77 (.buildC [(4, (t 2)), (4, (t 4)), (4, (t 6)), (4, (t 8)), (4, (t 10)), (4, (t 12)), (4, (t 14)), (4, (t 16)), (4, (t 18)), (4, (t 20)), (4, (t 22)), (4, (t 24)), (4, (t 26)), (4, (t 28)), (4, (t 30)), (4, (t 32)), (4, (t 34)), (4, (t 36)), (4, (t 38)), (4, (t 40)), (4, (t 42)), (4, (t 44)), (4, (t 46)), (4, (t 48)), (4, (t 50)), (4, (t 52)), (4, (t 54)), (4, (t 56)), (4, (t 58)), (4, (t 60)), (4, (t 62)), (4, (t 64)), (4, (t 66)), (4, (t 68)), (4, (t 70)), (4, (t 72)), (4, (t 74)), (4, (t 76))]), N (.store 152 (t 0) (t 77))])
 .ret))⟩
def f_slices_BinarySearchFunc_Lmirror_row_mirror_row_int : VFn := ⟨3, [.tmp 6, .tmp 7], (sq (.ops [O 6 (.mv (n 0)), O 7 (.mv (kb false))])
 (sq (.ops [mv 12 0, O 13 (.lenSl (t 12)), mv 8 13])
 (sq (.ops [mv 14 8, O 9 (.mv (n 0)), mv 10 14])
 (sq (.block 0 (.loop [0, 1, 2, 8, 9, 10] (sq (sq (.ops [mv 15 9, mv 16 10, add 17 .lss (t 15) (t 16)])
 (.cond (t 17) .skip (.exit 0)))
 (.block 1 (sq (.ops [mv 18 9, mv 19 10, add 20 .add (t 18) (t 19), O 21 (.toInt .u64 (t 20)), add 22 .shr (t 21) (.const (.int .u64 (.ofNat 1))), O 23 (.toInt .i64 (t 22)), mv 11 23])
 (sq (.ops [mv 24 2, mv 25 0, mv 26 11, O 27 (.idxSl 4 (t 25) (t 26)), O 28 (.load (some 4) (t 27)), mv 29 1, O 30 (.call (t 24) [(t 28), (t 29)]), add 31 .lss (t 30) (n 0)])
 (.cond (t 31) (.ops [mv 32 11, add 33 .add (t 32) (n 1), mv 9 33]) (.ops [mv 34 11, mv 10 34]))))))))
 (sq (.ops [mv 35 9, mv 36 9, mv 37 8, add 38 .lss (t 36) (t 37), mv 39 38, G 40 (.mv (t 2)) 39 true, G 41 (.mv (t 0)) 39 true, G 42 (.mv (t 9)) 39 true, G 43 (.idxSl 4 (t 41) (t 42)) 39 true, G 44 (.load (some 4) (t 43)) 39 true, G 45 (.mv (t 1)) 39 true, G 46 (.call (t 40) [(t 44), (t 45)]) 39 true, G 47 (.bin .eql (t 46) (n 0)) 39 true, O 48 (.pick (t 39) (t 47) (kb false)), mv 6 35, mv 7 48])
 .ret)))))⟩
def f_mirror_find_1 : VFn := ⟨2, [.tmp 4], (sq (.ops [O 2 (.box (t 0)), O 4 (.mv (n 0))])
 (sq (.block 0 (sq (.ops [fa 6 0 2, fa 7 0 6, ld 8 7, mv 9 1, add 10 .gtr (t 8) (t 9), mv 5 10])
 (.cond (t 5) (sq (.ops [O 4 (.mv (n 1))])
 .ret) (sq (.ops [fa 12 0 2, fa 13 1 12, ld 14 13, mv 15 1, add 16 .lss (t 14) (t 15), mv 11 16])
 (.cond (t 11) (sq (.ops [O 4 (.mv (.const (.int .i64 (.negSucc 0))))])
 .ret) .skip)))))
 (sq (.ops [O 4 (.mv (n 0))])
 .ret)))⟩
def f_slices_Index_Lint_int : VFn := ⟨2, [.tmp 4], (sq (.ops [O 4 (.mv (n 0))])
 (sq (sq (.ops [mv 6 0, O 7 (.lenSl (t 6)), O 8 (.mv (n 0))])
 (.block 0 (.loop [0, 1, 7, 8] (sq (.ops [add 9 .lss (t 8) (t 7)])
 (sq (.cond (t 9) .skip (.exit 0))
 (sq (.block 1 (sq (.ops [mv 10 8, mv 5 10])
 (sq (.ops [mv 11 1, mv 12 0, mv 13 5, O 14 (.idxSl 1 (t 12) (t 13)), ld 15 14, add 16 .eql (t 11) (t 15)])
 (.cond (t 16) (sq (.ops [mv 17 5, mv 4 17])
 .ret) .skip))))
 (.ops [add 18 .add (t 8) (n 1), mv 8 18])))))))
 (sq (.ops [O 4 (.mv (.const (.int .i64 (.negSucc 0))))])
 .ret)))⟩
def f_slices_pdqsortCmpFunc_Pair : VFn := ⟨5, [], (sq (.ops [O 10 (.mv (kb true))])
 (sq (.ops [O 11 (.mv (kb true))])
 (.block 0 (.loop [0, 1, 2, 3, 4, 10, 11] (.block 1 (sq (.ops [mv 21 2, mv 22 1, add 23 .sub (t 21) (t 22), mv 12 23])
 (sq (sq (.ops [mv 24 12, add 25 .leq (t 24) (n 12)])
 (.cond (t 25) (sq (.ops [mv 26 0, mv 27 1, mv 28 2, mv 29 4, call 30 k_slices_insertionSortCmpFunc_Pair [(t 26), (t 27), (t 28), (t 29)]])
 .ret) .skip))
 (sq (sq (.ops [mv 31 3, add 32 .eql (t 31) (n 0)])
 (.cond (t 32) (sq (.ops [mv 33 0, mv 34 1, mv 35 2, mv 36 4, call 37 k_slices_heapSortCmpFunc_Pair [(t 33), (t 34), (t 35), (t 36)]])
 .ret) .skip))
 (sq (sq (.ops [mv 38 10, O 39 (.un .not (t 38))])
 (.cond (t 39) (sq (.ops [mv 40 0, mv 41 1, mv 42 2, mv 43 4, call 44 k_slices_breakPatternsCmpFunc_Pair [(t 40), (t 41), (t 42), (t 43)]])
 (.ops [mv 45 3, add 46 .sub (t 45) (n 1), mv 3 46])) .skip))
 (sq (.ops [mv 48 0, mv 49 1, mv 50 2, mv 51 4, call 52 k_slices_choosePivotCmpFunc_Pair [(t 48), (t 49), (t 50), (t 51)], mv 47 52, O 53 (.extract (t 47) 0), O 54 (.extract (t 47) 1), mv 13 53, mv 14 54])
 (sq (sq (.ops [mv 55 14, add 56 .eql (t 55) (n 2)])
 (.cond (t 56) (sq (.ops [mv 57 0, mv 58 1, mv 59 2, mv 60 4, call 61 k_slices_reverseRangeCmpFunc_Pair [(t 57), (t 58), (t 59), (t 60)]])
 (sq (.ops [mv 62 2, add 63 .sub (t 62) (n 1), mv 64 13, mv 65 1, add 66 .sub (t 64) (t 65), add 67 .sub (t 63) (t 66), mv 13 67])
 (.ops [O 14 (.mv (n 1))]))) .skip))
 (sq (sq (.ops [mv 68 10, mv 69 68, G 70 (.mv (t 11)) 69 true, O 71 (.pick (t 69) (t 70) (kb false)), mv 72 71, G 73 (.mv (t 14)) 72 true, G 74 (.bin .eql (t 73) (n 1)) 72 true, O 75 (.pick (t 72) (t 74) (kb false))])
 (.cond (t 75) (sq (.ops [mv 76 0, mv 77 1, mv 78 2, mv 79 4, call 80 k_slices_partialInsertionSortCmpFunc_Pair [(t 76), (t 77), (t 78), (t 79)]])
 (.cond (t 80) .ret .skip)) .skip))
 (sq (sq (.draw [A (mv 81 1), A (add 82 .gtr (t 81) (n 0)), A (mv 83 82), A (G 84 (.mv (t 4)) 83 true), A (G 85 (.mv (t 0)) 83 true), A (G 86 (.mv (t 1)) 83 true), A (G 87 (.bin .sub (t 86) (n 1)) 83 true), A (G 88 (.idxSl 2 (t 85) (t 87)) 83 true), B (G 89 (.load (some 2) (t 88)) 83 true), A (G 90 (.mv (t 0)) 83 true), A (G 91 (.mv (t 13)) 83 true), A (G 92 (.idxSl 2 (t 90) (t 91)) 83 true), B (G 93 (.load (some 2) (t 92)) 83 true), C (G 94 (.call (t 84) [(t 89), (t 93)]) 83 true), A (G 95 (.bin .lss (t 94) (n 0)) 83 true), A (G 96 (.un .not (t 95)) 83 true), A (O 97 (.pick (t 83) (t 96) (kb false)))])
 (.cond (t 97) (sq (.ops [mv 98 0, mv 99 1, mv 100 2, mv 101 13, mv 102 4, call 103 k_slices_partitionEqualCmpFunc_Pair [(t 98), (t 99), (t 100), (t 101), (t 102)], mv 15 103])
 (sq (.ops [mv 104 15, mv 1 104])
 (.exit 1))) .skip))
 (sq (.ops [mv 106 0, mv 107 1, mv 108 2, mv 109 13, mv 110 4, call 111 k_slices_partitionCmpFunc_Pair [(t 106), (t 107), (t 108), (t 109), (t 110)], mv 105 111, O 112 (.extract (t 105) 0), O 113 (.extract (t 105) 1), mv 16 112, mv 17 113])
 (sq (.ops [mv 114 17, mv 11 114])
 (sq (.ops [mv 115 16, mv 116 1, add 117 .sub (t 115) (t 116), mv 118 2, mv 119 16, add 120 .sub (t 118) (t 119), mv 18 117, mv 19 120])
 (sq (.ops [mv 121 12, add 122 .quo (t 121) (n 8), mv 20 122])
 (sq (.ops [mv 123 18, mv 124 19, add 125 .lss (t 123) (t 124)])
 (.cond (t 125) (sq (.ops [mv 126 18, mv 127 20, add 128 .geq (t 126) (t 127), mv 10 128])
 (sq (.ops [mv 129 0, mv 130 1, mv 131 16, mv 132 3, mv 133 4, call 134 k_slices_pdqsortCmpFunc_Pair [(t 129), (t 130), (t 131), (t 132), (t 133)]])
 (.ops [mv 135 16, add 136 .add (t 135) (n 1), mv 1 136]))) (sq (.ops [mv 137 19, mv 138 20, add 139 .geq (t 137) (t 138), mv 10 139])
 (sq (.ops [mv 140 0, mv 141 16, add 142 .add (t 141) (n 1), mv 143 2, mv 144 3, mv 145 4, call 146 k_slices_pdqsortCmpFunc_Pair [(t 140), (t 142), (t 143), (t 144), (t 145)]])
 (.ops [mv 147 16, mv 2 147]))))))))))))))))))))))⟩
def f_slices_insertionSortCmpFunc_Pair : VFn := ⟨4, [], (sq (.ops [mv 10 1, add 11 .add (t 10) (n 1), mv 8 11])
 (.block 0 (.loop [0, 1, 2, 3, 8] (sq (sq (.ops [mv 12 8, mv 13 2, add 14 .lss (t 12) (t 13)])
 (.cond (t 14) .skip (.exit 0)))
 (sq (.block 1 (sq (.ops [mv 17 8, mv 9 17])
 (.block 2 (.loop [0, 1, 2, 3, 8, 9] (sq (sq (.draw [A (mv 18 9), A (mv 19 1), A (add 20 .gtr (t 18) (t 19)), A (mv 21 20), A (G 22 (.mv (t 3)) 21 true), A (G 23 (.mv (t 0)) 21 true), A (G 24 (.mv (t 9)) 21 true), A (G 25 (.idxSl 2 (t 23) (t 24)) 21 true), B (G 26 (.load (some 2) (t 25)) 21 true), A (G 27 (.mv (t 0)) 21 true), A (G 28 (.mv (t 9)) 21 true), A (G 29 (.bin .sub (t 28) (n 1)) 21 true), A (G 30 (.idxSl 2 (t 27) (t 29)) 21 true), B (G 31 (.load (some 2) (t 30)) 21 true), C (G 32 (.call (t 22) [(t 26), (t 31)]) 21 true), A (G 33 (.bin .lss (t 32) (n 0)) 21 true), A (O 34 (.pick (t 21) (t 33) (kb false)))])
 (.cond (t 34) .skip (.exit 2)))
 (sq (.block 3 (.draw [A (mv 37 0), A (mv 38 9), A (mv 39 0), A (mv 40 9), A (add 41 .sub (t 40) (n 1)), A (mv 42 0), A (mv 43 9), A (add 44 .sub (t 43) (n 1)), A (O 45 (.idxSl 2 (t 42) (t 44))), B (O 46 (.load (some 2) (t 45))), A (mv 47 0), A (mv 48 9), A (O 49 (.idxSl 2 (t 47) (t 48))), B (O 50 (.load (some 2) (t 49))), A (O 51 (.idxSl 2 (t 37) (t 38))), C (N (.store 2 (t 51) (t 46))), A (O 52 (.idxSl 2 (t 39) (t 41))), C (N (.store 2 (t 52) (t 50)))]))
 (.ops [mv 35 9, add 36 .sub (t 35) (n 1), mv 9 36])))))))
 (.ops [mv 15 8, add 16 .add (t 15) (n 1), mv 8 16]))))))⟩

def tab : Tr VFn := (.node (.node (.node (.node (.node (.node (.node .nil (some f_sheet_order_2) (.node .nil (some f_clip_look_may) .nil)) (some f_sheet_order) (.node (.node (.node .nil (some f_weak_seq_beside) .nil) (some f_base_Paragraphs) .nil) (some f_p_edit_editor_set) (.node .nil (some f_slices_BinarySearchFunc_Lclass_span_class_span_int) .nil))) (some f_p_view_View_Now) (.node (.node (.node (.node .nil (some f_gcb_kind_of) .nil) (some f_slices_BinarySearchFunc_LCell_Cell_Cell) .nil) (some f_slices_ContainsFunc_Lint_int) .nil) (some f_ref21_Around) (.node (.node (.node .nil (some f_mirror_find) .nil) (some f_math_bits_Len) .nil) (some f_cmp_Less_int) (.node .nil (some f_seqs_way) .nil)))) (some f_ref25_May) (.node (.node (.node (.node .nil (some f_sheet_Get_1) .nil) (some f_view_far) (.node (.node .nil (some f_slices_pdqsortCmpFunc_Pair) .nil) (some f_slices_Grow_LSlot_Slot) .nil)) (some f_sheet_Meet) (.node (.node (.node .nil (some f_neutral_Settle_1) .nil) (some f_place_begin) .nil) none (.node .nil (some f_p_level_walk_last) .nil))) none (.node (.node .nil (some f_edge_spot_arm) .nil) (some f_p_grid_screen_slot) (.node (.node .nil (some f_cluster_seen_then) .nil) (some f_p_edit_editor_lay) (.node .nil (some f_neutral_Settle) .nil))))) none (.node (.node (.node (.node .nil (some f_sheet_around_1) (.node .nil (some f_place_laid_seen) .nil)) (some f_sheet_one) (.node (.node .nil (some f_wrap_Lines) .nil) none (.node .nil (some f_gcb_Pict) .nil))) (some f_ref21_Check) (.node (.node (.node (.node .nil (some f_gcb_edges) .nil) (some f_slices_Insert_LCell_Cell) .nil) (some f_ref21_in) .nil) (some f_slices_Clone_Lint_int) (.node (.node (.node .nil (some f_slices_BinarySearchFunc_Lint_int_int) .nil) (some f_class_Of) .nil) (some f_sheet_Get) (.node .nil (some f_weak_Weak) .nil)))) (some f_p_view_View_Do) (.node (.node (.node .nil (some f_p_grid_screen_border) .nil) (some f_ref21_Limits) (.node (.node .nil (some f_math_bits_Mul) .nil) none (.node .nil (some f_p_level_walk_seen) .nil))) (some f_p_view_View_none) (.node (.node (.node (.node .nil (some f_weak_seq_after) .nil) none .nil) (some f_slices_BinarySearch_Lint_int) .nil) (some f_sheet_rise_Cell) (.node (.node .nil (some f_seqs_Sequences) .nil) none (.node .nil (some f_wrap_Fits) .nil)))))) none (.node (.node (.node (.node (.node .nil (some f_slices_IndexFunc_LRect_Rect) (.node (.node .nil (some f_slices_BinarySearchFunc_Lmirror_row_mirror_row_int) .nil) (some f_place_has) .nil)) (some f_sheet_Check_1) (.node (.node (.node .nil (some f_weak_Weak_4) .nil) (some f_cell_Level) .nil) none (.node .nil (some f_gcb_Of) .nil))) (some f_ref21_Own) (.node (.node (.node (.node .nil (some f_cols_wide) .nil) none .nil) (some f_slices_Min_Lint_int) .nil) (some f_view_now_sized) (.node .nil (some f_axis_Corner) (.node .nil (some f_seqs_goes) .nil)))) none (.node (.node (.node (.node .nil (some f_cell_lines) .nil) none (.node .nil (some f_math_bits_Mul64) .nil)) (some f_sheet_corner) (.node (.node (.node .nil (some f_neutral_letter) .nil) (some f_slices_Concat_LSlot_Slot) .nil) none .nil)) (some f_law27_row) (.node (.node (.node (.node .nil (some f_weak_seq_marks) .nil) none .nil) (some f_edge_Glyph) .nil) (some f_sheet_over) (.node (.node (.node .nil (some f_slices_Contains_Lint_int) .nil) (some f_class_All) .nil) none .nil)))) (some f_ref25_Own) (.node (.node (.node (.node (.node .nil (some f_cmp_isNaN_int) .nil) (some f_ref21_Styled) (.node .nil (some f_bidi_Shown) .nil)) (some f_sheet_Check_2) (.node (.node .nil (some f_clip_look_clipped) .nil) none (.node .nil (some f_base_Match) .nil))) (some f_ref21_Rects) (.node (.node .nil (some f_axis_point) .nil) (some f_slices_Clone_LRect_Rect) (.node (.node .nil (some f_cluster_seen_joins) .nil) (some f_cmp_Compare_int) (.node .nil (some f_pairs_Brackets) .nil)))) (some f_p_view_View_Left) (.node (.node (.node (.node (.node .nil (some f_slices_BinarySearchFunc_Lgcb_step_gcb_step_int) .nil) (some f_cell_side) .nil) (some f_sheet_Region) .nil) (some f_ref21_there) (.node .nil (some f_edge_signs) (.node .nil (some f_level_Removed) .nil))) (some f_grid_Render) (.node (.node (.node (.node .nil (some f_weak_seq_turn) .nil) none .nil) (some f_slices_IndexFunc_Lint_int) .nil) (some f_sheet_order_1) (.node (.node (.node .nil (some f_slices_SortFunc_LPair_Pair) .nil) (some f_wrap_Shown) .nil) none (.node .nil (some f_bidi_blank) .nil))))))) none (.node (.node (.node (.node (.node (.node .nil (some f_slices_IndexFunc_LCell_Cell) (.node (.node .nil (some f_mirror_rows) .nil) (some f_clip_look_fits) .nil)) (some f_slices_ContainsFunc_LCell_Cell) (.node (.node (.node .nil (some f_weak_Weak_3) .nil) (some f_cluster_Of) .nil) none (.node .nil (some f_class_span_side) .nil))) (some f_p_view_View_Screen) (.node (.node (.node (.node .nil (some f_cols_narrow) .nil) none .nil) (some f_sheet_over_1) .nil) (some f_view_now_scrolled) (.node .nil (some f_slices_isNaN_int) (.node .nil (some f_seqs_beside) .nil)))) (some f_ref21_Same) (.node (.node (.node (.node .nil (some f_cell_may) .nil) (some f_edit_Do) (.node (.node .nil (some f_slices_insertionSortCmpFunc_Pair) .nil) none .nil)) (some f_sheet_spot) (.node (.node (.node .nil (some f_neutral_way) .nil) (some f_place_laid_text) .nil) none .nil)) (some f_view_New) (.node .nil (some f_sheet_limits_1) (.node (.node (.node .nil (some f_weak_seq_at) .nil) none .nil) none (.node .nil (some f_wrap_Break) .nil))))) (some f_law27_ViewNobody) (.node (.node (.node (.node (.node .nil (some f_edge_spot_region) .nil) (some f_ref21_ahead) (.node (.node .nil (some f_slices_Index_Lint_int) .nil) (some f_bidi_Order) .nil)) (some f_slices_ContainsFunc_LRect_Rect) (.node (.node .nil (some f_clip_made) .nil) none (.node .nil (some f_cluster_behind) .nil))) (some f_ref21_numbers) (.node (.node .nil (some f_p_edit_editor_does) (.node .nil (some f_math_bits_Len64) .nil)) (some f_slices_Clone_LCell_Cell) (.node (.node (.node .nil (some f_cols_within_1) .nil) (some f_cluster_see) .nil) (some f_cell_Layout) (.node .nil (some f_bidi_part_of) .nil)))) (some f_p_view_View_Back) (.node (.node (.node (.node (.node .nil (some f_gcb_steps) .nil) (some f_place_Slots) .nil) (some f_axis_Find) .nil) (some f_ref21_Order) .nil) (some f_sheet_Own) (.node (.node (.node (.node .nil (some f_weak_Weak_2) .nil) none .nil) (some f_p_grid_screen_layout) .nil) (some f_sheet_rise_Rect) (.node (.node .nil (some f_bidi_part_levels) .nil) none (.node .nil (some f_slices_Backward_LRune_Rune) .nil)))))) none (.node (.node (.node (.node (.node .nil (some f_sheet_share) (.node (.node .nil (some f_mirror_find_1) .nil) (some f_bidi_Line) .nil)) (some f_sheet_has) (.node (.node (.node .nil (some f_pairs_Find) .nil) (some f_bidi_Resolve) .nil) none (.node .nil (some f_cols_Of) .nil))) (some f_sheet_Check) (.node (.node (.node (.node .nil (some f_cols_within) .nil) none .nil) (some f_sheet_ahead) .nil) (some f_view_now_edited) (.node .nil (some f_axis_Size) (.node .nil (some f_seqs_behind) .nil)))) (some f_law27_awake) (.node (.node (.node (.node .nil (some f_clip_Clip) .nil) (some f_edge_Arms) .nil) (some f_sheet_around) (.node (.node .nil (some f_place_pads) .nil) (some f_edge_spot_parts) .nil)) (some f_view_does) (.node (.node (.node (.node .nil (some f_weak_Weak_1) .nil) none .nil) (some f_axis_Starts) .nil) (some f_sheet_sizes) (.node (.node (.node .nil (some f_mirror_Pair) .nil) (some f_level_Explicit) .nil) none .nil)))) (some f_grid_May) (.node (.node (.node (.node (.node .nil (some f_axis_within) .nil) (some f_ref21_Covers) .nil) (some f_sheet_Check_3) (.node (.node (.node .nil (some f_neutral_rises) .nil) none .nil) none (.node .nil (some f_base_opens) .nil))) none (.node (.node (.node (.node .nil (some f_seqs_kept) .nil) none .nil) (some f_edge_ways) .nil) (some f_axis_Back) (.node (.node (.node .nil (some f_seqs_kept_1) .nil) (some f_cluster_first) .nil) (some f_p_edit_editor_here) (.node .nil (some f_neutral_Levels) .nil)))) (some f_ref27_Same) (.node (.node (.node (.node (.node .nil (some f_gcb_Of_1) .nil) (some f_slices_Repeat_LSlot_Slot) .nil) (some f_p_grid_screen_inside) .nil) (some f_ref21_Meet) (.node (.node (.node .nil (some f_slices_Backward_LRune_Rune_1) .nil) none .nil) (some f_axis_cut) (.node .nil (some f_seqs_runs) .nil))) (some f_sheet_limits) (.node (.node (.node (.node .nil (some f_weak_seq_between) .nil) (some f_runes_Split) .nil) (some f_slices_Compare_Lint_int) (.node .nil (some f_class_spans) .nil)) (some f_sheet_styled) (.node .nil none (.node .nil (some f_bidi_turn) .nil))))))))
end VE
