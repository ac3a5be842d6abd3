/- What functions of the program answer. -/
import Derived.Test.YtchccpmjhajcaaaGreatFns
import Derived.Test.YtchccpmjhajcaaaGreatVg
import Derived.Test.YtchccpmjhajcaaaGreatVh
set_option linter.unusedVariables false
set_option linter.unusedSimpArgs false
set_option linter.unusedSectionVars false
namespace VE
open Go

/-! ## The sheet: what is said of it -/

structure Cell where
  row : Int
  col : Int
  text : List UInt8
  align : Int
  wrap : Int
  dir : Int
instance : El Cell where
  sz := 6
  ag := some 6
  cells c := [.i .i64 c.row, .i .i64 c.col, .s c.text, .i .i64 c.align, .i .i64 c.wrap, .i .i64 c.dir]
  val c := .ag [.i .i64 c.row, .i .i64 c.col, .s c.text, .i .i64 c.align, .i .i64 c.wrap, .i .i64 c.dir]
  sz_eq := rfl
  len _ := rfl
  val_eq _ := rfl
  val_cells _ := rfl
  ok1 _ := rfl
abbrev cellV' (c : Cell) : V := .ag [.i .i64 c.row, .i .i64 c.col, .s c.text, .i .i64 c.align, .i .i64 c.wrap, .i .i64 c.dir]

structure Rect where
  row : Int
  col : Int
  rows : Int
  cols : Int
instance : El Rect where
  sz := 4
  ag := some 4
  cells r := [.i .i64 r.row, .i .i64 r.col, .i .i64 r.rows, .i .i64 r.cols]
  val r := .ag [.i .i64 r.row, .i .i64 r.col, .i .i64 r.rows, .i .i64 r.cols]
  sz_eq := rfl
  len _ := rfl
  val_eq _ := rfl
  val_cells _ := rfl
  ok1 _ := rfl
abbrev rectV (r : Rect) : V := .ag [.i .i64 r.row, .i .i64 r.col, .i .i64 r.rows, .i .i64 r.cols]

structure Sheet where
  right : Int
  widths : List Int
  heights : List Int
  cells : List Cell
  merges : List Rect

structure RdSh (s : St) (vw vh vc vm : V) (sh : Sheet) : Prop where
  w : RdS s vw sh.widths
  h : RdS s vh sh.heights
  c : RdS s vc sh.cells
  m : RdS s vm sh.merges
theorem RdSh.le {s s' : St} {vw vh vc vm : V} {sh : Sheet} (H : RdSh s vw vh vc vm sh) (h : s.Le s') : RdSh s' vw vh vc vm sh := ⟨H.w.le h, H.h.le h, H.c.le h, H.m.le h⟩
abbrev shV (sh : Sheet) (vw vh vc vm : V) : V := .ag [.i .i64 sh.right, vw, vh, vc, vm]

/-! ### Small functions -/

theorem isNaN_ok (lo : Nat) (s : St) (a : Int) (K : V → St → Prop) : CallW lo k_cmp_isNaN_int [.i .i64 a] s K = K (.b false) s := by
  refine CallW_eq (CallK_of T_cmp_isNaN_int rfl ?_) K
  simp [f_cmp_isNaN_int]

def cmpS (a b : Int) : Int := if a < b then -1 else if b < a then 1 else 0

theorem cmp_ok (lo : Nat) (s : St) (a b : Int) (K : V → St → Prop) : CallW lo k_cmp_Compare_int [.i .i64 a, .i .i64 b] s K = K (.i .i64 (cmpS a b)) s := by
  refine CallW_eq (CallK_of T_cmp_Compare_int rfl ?_) K
  simp [f_cmp_Compare_int, isNaN_ok]
  refine TestK_dec (fun h => ?_) (fun h => ?_) <;> simp [cmpS, h]
  refine TestK_dec (fun h => ?_) (fun h => ?_) <;> simp [h]

def shareS (a m b n : Int) : Bool := if m < 1 ∨ n < 1 then false else if b < a then decide (IntKind.u64.wrap (IntKind.u64.wrap a - IntKind.u64.wrap b) < IntKind.u64.wrap n) else decide (IntKind.u64.wrap (IntKind.u64.wrap b - IntKind.u64.wrap a) < IntKind.u64.wrap m)

theorem share_ok (lo : Nat) (s : St) (a m b n : Int) (K : V → St → Prop) : CallW lo k_sheet_share [.i .i64 a, .i .i64 m, .i .i64 b, .i .i64 n] s K = K (.b (shareS a m b n)) s := by
  refine CallW_eq (CallK_of T_sheet_share rfl ?_) K
  simp [f_sheet_share]
  refine GK_dec (fun h => ?_) (fun h => ?_) <;> simp [h, shareS]
  refine TestK_dec (fun h1 => ?_) (fun h1 => ?_) <;> simp [h1]
  refine TestK_dec (fun h2 => ?_) (fun h2 => ?_) <;> simp [h2]

theorem one_ok (lo : Nat) (s : St) (hlo : lo ≤ s.next) (a b : Int) : CallW lo k_sheet_one [.i .i64 a, .i .i64 b] s (Ret s (rectV ⟨a, b, 1, 1⟩)) := by
  refine CallK_of T_sheet_one rfl ?_
  simp [f_sheet_one, hlo]

theorem spot_ok (lo : Nat) (s : St) (hlo : lo ≤ s.next) (c : Cell) : CallW lo k_sheet_spot [cellV' c] s (Ret s (.ag [.i .i64 c.row, .i .i64 c.col])) := by
  refine CallK_of T_sheet_spot rfl ?_
  simp (maxDischargeDepth := 9) [f_sheet_spot, Nat.le_succ_of_le hlo]

theorem corner_ok (lo : Nat) (s : St) (hlo : lo ≤ s.next) (c : Rect) : CallW lo k_sheet_corner [rectV c] s (Ret s (.ag [.i .i64 c.row, .i .i64 c.col])) := by
  refine CallK_of T_sheet_corner rfl ?_
  simp (maxDischargeDepth := 9) [f_sheet_corner, Nat.le_succ_of_le hlo]

def meetS (a b : Rect) : Bool := shareS a.row a.rows b.row b.rows && shareS a.col a.cols b.col b.cols

theorem meet_ok (lo : Nat) (s : St) (a b : Rect) : CallW lo k_sheet_Meet [rectV a, rectV b] s (Ret s (.b (meetS a b))) := by
  refine CallK_of T_sheet_Meet rfl ?_
  simp [f_sheet_Meet, share_ok]
  refine GK_ite (fun h => ?_) (fun h => ?_) <;> simp [h, share_ok, meetS]

def styledS (a w d : Int) : Bool := decide (0 ≤ a) && decide (a ≤ 4) && decide (0 ≤ w) && decide (w ≤ 1) && decide (0 ≤ d) && decide (d ≤ 3)

theorem styled_ok (lo : Nat) (s : St) (a w d : Int) : CallW lo k_sheet_styled [.ag [.i .i64 a, .i .i64 w, .i .i64 d]] s (Ret s (.b (styledS a w d))) := by
  refine CallK_of T_sheet_styled rfl ?_
  simp [f_sheet_styled]
  repeat (refine GK_dec (fun h => ?_) (fun h => ?_) <;> simp [h, styledS])

def hasS (sh : Sheet) (r : Rect) : Bool :=
  decide (0 ≤ r.row) && decide (0 ≤ r.col) && decide (r.rows ≤ sh.heights.length) && decide (r.cols ≤ sh.widths.length) && decide (r.row ≤ IntKind.i64.wrap (sh.heights.length - r.rows)) && decide (r.col ≤ IntKind.i64.wrap (sh.widths.length - r.cols))

theorem has_ok (lo : Nat) (s : St) {vw vh vc vm : V} {sh : Sheet} (H : RdSh s vw vh vc vm sh) (r : Rect) : CallW lo k_sheet_has [shV sh vw vh vc vm, rectV r] s (Ret s (.b (hasS sh r))) := by
  refine CallK_of T_sheet_has rfl ?_
  simp [f_sheet_has, H.w.len, H.h.len]
  repeat (refine GK_dec (fun h => ?_) (fun h => ?_) <;> simp [h, hasS])

/-! ### The first of some -/

def idxP (α : Type) [El α] (k : Nat) : Prop := ∀ (lo : Nat) (s : St), lo ≤ s.next → ∀ {v : V} {l : List α}, RdS s v l → ∀ (f : V) (p : α → Bool),
    (∀ x ∈ l, ∀ lo' s', s.Le s' → lo' ≤ s'.next → CallV lo' f [El.val x] s' (Ret s' (.b (p x)))) →
    CallW lo k [v, f] s (Ret s (.i .i64 (idxS p l)))

theorem idx_int : idxP Int k_slices_IndexFunc_Lint_int := by
  intro lo s hlo v l H f p hf
  have hb := H.bound
  refine CallK_of T_slices_IndexFunc_Lint_int rfl ?_
  simp [f_slices_IndexFunc_Lint_int, H.len]
  refine LoopW_cnt l.length (fun i => (((Tr.nil.set 8 (some (.i .i64 i))).set 7 (some (.i .i64 l.length))).set 1 (some f)).set 0 (some v)) (fun i s' => s.Le s' ∧ ∀ k (_ : k < i) (_ : k < l.length), p l[k] = false) ?_ (by simp) ⟨.refl _, by omega⟩
  rintro i s1 hi ⟨hle, hp⟩
  simp
  by_cases h : i < l.length
  · obtain ⟨id, off, lb, ex, rfl, hid, _, hat⟩ := (H.le hle).el i h
    simp [El.sz, El.cells] at hat
    simp [El.sz, h, hat]
    refine LK_of ((hf l[i] (List.getElem_mem h) _ s1 hle (Nat.le_trans hlo hle.next)).mono ?_)
    rintro _ s2 ⟨rfl, hle2⟩
    simp
    refine TestK_ite (fun hc => ?_) (fun hc => ?_) <;> simp
    · exact ⟨(idxS_at hp h hc).symm, hle.trans hle2⟩
    · rw [wr64 (by omega) (by omega)]
      refine ⟨rfl, hle.trans hle2, ?_⟩
      intro k h1 h2
      rcases Nat.lt_succ_iff_lt_or_eq.1 h1 with h3 | rfl
      · exact hp k h3 h2
      · exact hc
  · simp [h]
    exact ⟨(idxS_none (fun k hk => hp k (by omega) hk)).symm, hle⟩

theorem idx_Cell : idxP Cell k_slices_IndexFunc_LCell_Cell := by
  intro lo s hlo v l H f p hf
  have hb := H.bound
  refine CallK_of T_slices_IndexFunc_LCell_Cell rfl ?_
  simp [f_slices_IndexFunc_LCell_Cell, H.len]
  refine LoopW_cnt l.length (fun i => (((Tr.nil.set 8 (some (.i .i64 i))).set 7 (some (.i .i64 l.length))).set 1 (some f)).set 0 (some v)) (fun i s' => s.Le s' ∧ ∀ k (_ : k < i) (_ : k < l.length), p l[k] = false) ?_ (by simp) ⟨.refl _, by omega⟩
  rintro i s1 hi ⟨hle, hp⟩
  simp
  by_cases h : i < l.length
  · obtain ⟨id, off, lb, ex, rfl, hid, _, hat⟩ := (H.le hle).el i h
    simp [El.sz, El.cells] at hat
    simp [El.sz, h, hat]
    refine LK_of ((hf l[i] (List.getElem_mem h) _ s1 hle (Nat.le_trans hlo hle.next)).mono ?_)
    rintro _ s2 ⟨rfl, hle2⟩
    simp
    refine TestK_ite (fun hc => ?_) (fun hc => ?_) <;> simp
    · exact ⟨(idxS_at hp h hc).symm, hle.trans hle2⟩
    · rw [wr64 (by omega) (by omega)]
      refine ⟨rfl, hle.trans hle2, ?_⟩
      intro k h1 h2
      rcases Nat.lt_succ_iff_lt_or_eq.1 h1 with h3 | rfl
      · exact hp k h3 h2
      · exact hc
  · simp [h]
    exact ⟨(idxS_none (fun k hk => hp k (by omega) hk)).symm, hle⟩

theorem idx_Rect : idxP Rect k_slices_IndexFunc_LRect_Rect := by
  intro lo s hlo v l H f p hf
  have hb := H.bound
  refine CallK_of T_slices_IndexFunc_LRect_Rect rfl ?_
  simp [f_slices_IndexFunc_LRect_Rect, H.len]
  refine LoopW_cnt l.length (fun i => (((Tr.nil.set 8 (some (.i .i64 i))).set 7 (some (.i .i64 l.length))).set 1 (some f)).set 0 (some v)) (fun i s' => s.Le s' ∧ ∀ k (_ : k < i) (_ : k < l.length), p l[k] = false) ?_ (by simp) ⟨.refl _, by omega⟩
  rintro i s1 hi ⟨hle, hp⟩
  simp
  by_cases h : i < l.length
  · obtain ⟨id, off, lb, ex, rfl, hid, _, hat⟩ := (H.le hle).el i h
    simp [El.sz, El.cells] at hat
    simp [El.sz, h, hat]
    refine LK_of ((hf l[i] (List.getElem_mem h) _ s1 hle (Nat.le_trans hlo hle.next)).mono ?_)
    rintro _ s2 ⟨rfl, hle2⟩
    simp
    refine TestK_ite (fun hc => ?_) (fun hc => ?_) <;> simp
    · exact ⟨(idxS_at hp h hc).symm, hle.trans hle2⟩
    · rw [wr64 (by omega) (by omega)]
      refine ⟨rfl, hle.trans hle2, ?_⟩
      intro k h1 h2
      rcases Nat.lt_succ_iff_lt_or_eq.1 h1 with h3 | rfl
      · exact hp k h3 h2
      · exact hc
  · simp [h]
    exact ⟨(idxS_none (fun k hk => hp k (by omega) hk)).symm, hle⟩

def anyP (α : Type) [El α] (k : Nat) : Prop := ∀ (lo : Nat) (s : St), lo ≤ s.next → ∀ {v : V} {l : List α}, RdS s v l → ∀ (f : V) (p : α → Bool),
    (∀ x ∈ l, ∀ lo' s', s.Le s' → lo' ≤ s'.next → CallV lo' f [El.val x] s' (Ret s' (.b (p x)))) →
    CallW lo k [v, f] s (Ret s (.b (l.any p)))

theorem any_int : anyP Int k_slices_ContainsFunc_Lint_int := by
  intro lo s hlo v l H f p hf
  refine CallK_of T_slices_ContainsFunc_Lint_int rfl ?_
  simp [f_slices_ContainsFunc_Lint_int]
  refine (idx_int lo s hlo H f p hf).mono ?_
  rintro _ s1 ⟨rfl, hle⟩
  simp [idxS_any, hle]
theorem any_Cell : anyP Cell k_slices_ContainsFunc_LCell_Cell := by
  intro lo s hlo v l H f p hf
  refine CallK_of T_slices_ContainsFunc_LCell_Cell rfl ?_
  simp [f_slices_ContainsFunc_LCell_Cell]
  refine (idx_Cell lo s hlo H f p hf).mono ?_
  rintro _ s1 ⟨rfl, hle⟩
  simp [idxS_any, hle]
theorem any_Rect : anyP Rect k_slices_ContainsFunc_LRect_Rect := by
  intro lo s hlo v l H f p hf
  refine CallK_of T_slices_ContainsFunc_LRect_Rect rfl ?_
  simp [f_slices_ContainsFunc_LRect_Rect]
  refine (idx_Rect lo s hlo H f p hf).mono ?_
  rintro _ s1 ⟨rfl, hle⟩
  simp [idxS_any, hle]
end VE

namespace VE
open Go

/-! ### Limits -/

theorem over_1_ok (lo : Nat) (s : St) (b : Nat) (m n : Int) (h : s.rd b 0 1 = some [.i .i64 m]) (K : V → St → Prop) : CallW lo k_sheet_over_1 [.i .i64 n, .p b 0] s K = K (.b (decide (m < n))) s := by
  refine CallW_eq (CallK_of T_sheet_over_1 rfl ?_) K
  simp [f_sheet_over_1, h]

def overS (l : List Int) (many most : Int) : Bool := decide (many < (l.length : Int)) || l.any fun n => decide (most < n)

theorem over_ok (lo : Nat) (s : St) (hlo : lo ≤ s.next) {v : V} {l : List Int} (H : RdS s v l) (many most : Int) : CallW lo k_sheet_over [v, .i .i64 many, .i .i64 most] s (Ret s (.b (overS l many most))) := by
  refine CallK_of T_sheet_over rfl ?_
  simp [f_sheet_over, H.len]
  refine GK_dec (fun h => ?_) (fun h => ?_) <;> simp [h, overS]
  refine (any_int lo (s.alloc _) (by simp; omega) (H.le (by simp)) _ (fun n => decide (most < n)) ?_).use fun s1 hle => ?_
  · intro x _ lo' s' hle hlo'
    have := hle.rd (id := s.next) (by simp) 0 1
    simp at this
    simp [CallV_fn, El.val, over_1_ok _ _ _ _ _ this]
  · simp [hle.unbox]

theorem limits_1_ok (lo : Nat) (s : St) (c : Cell) : CallW lo k_sheet_limits_1 [cellV' c] s (Ret s (.b (decide (1024 < (c.text.length : Int))))) := by
  refine CallK_of T_sheet_limits_1 rfl ?_
  simp [f_sheet_limits_1]

def limitsS (sh : Sheet) : Bool := !(sh.cells.any fun c => decide (1024 < (c.text.length : Int))) && (!overS sh.widths 16 60 && (!overS sh.heights 24 12 && decide ((sh.merges.length : Int) ≤ 12)))

theorem limits_ok (lo : Nat) (s : St) (hlo : lo ≤ s.next) {vw vh vc vm : V} {sh : Sheet} (H : RdSh s vw vh vc vm sh) : CallW lo k_sheet_limits [shV sh vw vh vc vm] s (Ret s (.b (limitsS sh))) := by
  refine CallK_of T_sheet_limits rfl ?_
  simp [f_sheet_limits]
  have H1 := H.le (s' := s.alloc (.cells [.i .i64 sh.right, vw, vh, vc, vm])) (by simp)
  refine (any_Cell lo _ (by simp; omega) H1.c (.fn (.func k_sheet_limits_1) [] []) (fun c => decide (1024 < (c.text.length : Int))) (fun x _ lo' s' _ _ => limits_1_ok lo' s' x)).useB (fun s1 hle h1 => ?_) (fun s1 hle h1 => ?_) <;> simp [hle.box, limitsS, h1, hle.unbox]
  have hn := hle.lt
  refine (over_ok _ _ (by omega) (H.le hle.unbox).w _ _).useB (fun s2 hle2 h2 => ?_) (fun s2 hle2 h2 => ?_) <;> simp [(hle.trans hle2).box, h2, (hle.trans hle2).unbox]
  have hle := hle.trans hle2
  have hn := hle.lt
  refine (over_ok _ _ (by omega) (H.le hle.unbox).h _ _).useB (fun s2 hle2 h2 => ?_) (fun s2 hle2 h2 => ?_) <;> simp [(hle.trans hle2).box, h2, (hle.trans hle2).unbox, H.m.len]

/-! ### Order -/

theorem min_ok (lo : Nat) (s : St) {v : V} {a : Int} {l : List Int} (H : RdS s v (a :: l)) (K : V → St → Prop) : CallW lo k_slices_Min_Lint_int [v] s K = K (.i .i64 (l.foldl min a)) s := by
  have hb := H.bound
  simp at hb
  refine CallW_eq (CallK_of T_slices_Min_Lint_int rfl ?_) K
  obtain ⟨id, off, lb, ex, rfl, hid, _, hat⟩ := H.el 0 (by simp)
  simp [El.sz, El.cells] at hat
  have e : ¬ ((l.length : Int) + 1 < 1) := by omega
  have e2 : (0 : Int) < l.length + 1 := by omega
  simp [f_slices_Min_Lint_int, El.sz, hat, e, e2]
  refine LoopW_cnt l.length (fun i => ((Tr.nil.set 4 (some (.i .i64 (i + 1)))).set 3 (some (.i .i64 ((l.take i).foldl min a)))).set 0 (some (.sl id off (l.length + 1) lb 1 ex))) (fun _ s' => s' = s) ?_ (by simp) rfl
  rintro i s1 hi rfl
  simp
  by_cases h : i < l.length
  · obtain ⟨id', off', lb', ex', he, _, _, hat2⟩ := H.el (i + 1) (by simpa using h)
    injection he with e5 e6
    rw [← e5, ← e6] at hat2
    have e3 : ((i : Int) + 1).toNat = i + 1 := by omega
    have e4 : (0 : Int) ≤ i + 1 := by omega
    simp [El.sz, El.cells] at hat2
    simp [h, hat2, e3, e4]
    rw [wr64 (by omega) (by omega), List.take_succ_eq_append_getElem h, List.foldl_append]
    simp
  · have : i = l.length := by omega
    subst this
    refine TestK_dec (fun h => absurd h (by omega)) (fun _ => ?_)
    simp

theorem foldl_min (l : List Int) (a : Int) : decide (1 ≤ l.foldl min a) = (a :: l).all fun n => decide (1 ≤ n) := by
  induction l generalizing a with
  | nil => simp; rfl
  | cons b l ih =>
    rw [List.foldl_cons, ih]
    simp only [List.all_cons, ← Bool.and_assoc]
    congr 1
    rw [Bool.eq_iff_iff]; simp; omega

def sizesS (l : List Int) : Bool := decide (0 < l.length) && l.all fun n => decide (1 ≤ n)

theorem sizes_ok (lo : Nat) (s : St) {v : V} {l : List Int} (H : RdS s v l) (K : V → St → Prop) : CallW lo k_sheet_sizes [v] s K = K (.b (sizesS l)) s := by
  refine CallW_eq (CallK_of T_sheet_sizes rfl ?_) K
  cases l with
  | nil => simp [f_sheet_sizes, H.len, sizesS]
  | cons a l =>
    have e : (0 : Int) < l.length + 1 := by omega
    simp [f_sheet_sizes, H.len, e, min_ok lo s H, foldl_min, sizesS]

def ahS (a b c d : Int) : Bool := decide (a < c) || (decide (a = c) && decide (b < d))

theorem compare_ok (lo : Nat) (s : St) {x y : Nat} {a b c d : Int} (hx : s.rd x 0 2 = some [.i .i64 a, .i .i64 b]) (hy : s.rd y 0 2 = some [.i .i64 c, .i .i64 d]) (K : V → St → Prop) :
    CallW lo k_slices_Compare_Lint_int [.sl x 0 2 2 1 true, .sl y 0 2 2 1 true] s K = K (.i .i64 (if cmpS a c ≠ 0 then cmpS a c else cmpS b d)) s := by
  refine CallW_eq (CallK_of T_slices_Compare_Lint_int rfl ?_) K
  have x0 := rd_sub hx 0 1 (by omega)
  have x1 := rd_sub hx 1 1 (by omega)
  have y0 := rd_sub hy 0 1 (by omega)
  have y1 := rd_sub hy 1 1 (by omega)
  simp at x0 x1 y0 y1
  simp [f_slices_Compare_Lint_int]
  refine LoopW_K ?_
  simp [x0, y0, cmp_ok]
  refine TestK_ite (fun h => ?_) (fun h => ?_) <;> simp at h <;> simp [h]
  refine LoopW_K ?_
  simp [x1, y1, cmp_ok]
  refine TestK_ite (fun h => ?_) (fun h => ?_) <;> simp at h <;> simp [h]
  refine LoopW_K ?_
  simp

theorem ahead_ok (lo : Nat) (s : St) (a b c d : Int) : CallW lo k_sheet_ahead [.ag [.i .i64 a, .i .i64 b], .ag [.i .i64 c, .i .i64 d]] s (Ret s (.b (ahS a b c d))) := by
  refine CallK_of T_sheet_ahead rfl ?_
  simp [f_sheet_ahead]
  rw [compare_ok lo _ (a := a) (b := b) (c := c) (d := d) (by simp) (by simp)]
  simp [cmpS, ahS]
  by_cases h1 : a < c <;> by_cases h2 : c < a <;> by_cases h3 : b < d <;> by_cases h4 : d < b <;> simp [h1, h2, h3, h4] <;> omega
end VE

namespace VE
open Go

def riseP {α : Type} (w : α → Int × Int) (l : List α) : Prop := ∀ i (h : i + 1 < l.length), ahS (w l[i]).1 (w l[i]).2 (w l[i + 1]).1 (w l[i + 1]).2 = true
noncomputable def riseS {α : Type} (w : α → Int × Int) (l : List α) : Bool := @decide (riseP w l) (Classical.propDecidable _)
theorem riseS_true {α : Type} {w : α → Int × Int} {l : List α} (h : riseP w l) : riseS w l = true := by unfold riseS; exact @decide_eq_true _ (Classical.propDecidable _) h
theorem riseS_false {α : Type} {w : α → Int × Int} {l : List α} (h : ¬riseP w l) : riseS w l = false := by unfold riseS; exact @decide_eq_false _ (Classical.propDecidable _) h
theorem riseS_iff {α : Type} {w : α → Int × Int} {l : List α} : riseS w l = true ↔ riseP w l := by
  constructor
  · intro h
    by_cases hp : riseP w l
    · exact hp
    · rw [riseS_false hp] at h; simp at h
  · exact riseS_true

def risP (α : Type) [El α] (k : Nat) : Prop := ∀ (lo : Nat) (s : St), lo ≤ s.next → ∀ {v : V} {l : List α}, RdS s v l → ∀ (f : V) (w : α → Int × Int),
    (∀ x ∈ l, ∀ lo' s', s.Le s' → lo' ≤ s'.next → CallV lo' f [El.val x] s' (Ret s' (.ag [.i .i64 (w x).1, .i .i64 (w x).2]))) →
    CallW lo k [v, f] s (Ret s (.b (riseS w l)))

theorem CallV.use {lo : Nat} {f : V} {args : List V} {s : St} {v : V} {K : V → St → Prop} (h : CallV lo f args s (Ret s v)) (hk : ∀ s', s.Le s' → K v s') : CallV lo f args s K :=
  h.mono fun _ s' ⟨e, hl⟩ => by subst e; exact hk s' hl

theorem rise_Cell : risP Cell k_sheet_rise_Cell := by
  intro lo s hlo v l H f w hf
  have hb := H.bound
  refine CallK_of T_sheet_rise_Cell rfl ?_
  simp [f_sheet_rise_Cell]
  refine LoopW_cnt (l.length - 1) (fun i => ((Tr.nil.set 5 (some (.i .i64 (i + 1)))).set 1 (some f)).set 0 (some v)) (fun i s' => s.Le s' ∧ ∀ k (_ : k < i) (h : k + 1 < l.length), ahS (w l[k]).1 (w l[k]).2 (w l[k + 1]).1 (w l[k + 1]).2 = true) ?_ (by simp) ⟨.refl _, by omega⟩
  rintro i s1 hi ⟨hle, hp⟩
  simp [H.len]
  refine TestK_dec (fun h => ?_) (fun h => ?_) <;> simp
  · have h : i + 1 < l.length := by omega
    obtain ⟨id, off, lb, ex, rfl, hid, _, hat⟩ := (H.le hle).el i (by omega)
    obtain ⟨id', off', lb', ex', he, _, _, hat2⟩ := (H.le hle).el (i + 1) h
    injection he with e5 e6
    rw [← e5, ← e6] at hat2
    have e3 : ((i : Int) + 1).toNat = i + 1 := by omega
    have e4 : (0 : Int) ≤ i + 1 := by omega
    have e7 : (i : Int) + 1 < l.length := by omega
    have e8 : (i : Int) + 1 - 1 = i := by omega
    have e9 : (i : Int) < l.length := by omega
    have hn := hle.next
    simp [El.sz, El.cells] at hat hat2
    simp [El.sz, hat, wr64_nat, e8, e9, show i ≤ 9223372036854775807 by omega, show (0 : Int) ≤ i by omega]
    refine LK_of ((hf l[i] (List.getElem_mem _) _ s1 hle (Nat.le_refl _)).use fun s2 hle2 => ?_)
    have hat3 := (hle2.rd hid (off + (i + 1) * 6) 6).trans hat2
    simp [El.sz, e3, e4, e7, hat3]
    refine LK_of ((hf l[i + 1] (List.getElem_mem _) _ s2 (hle.trans hle2) (by have := hle2.next; omega)).use fun s3 hle3 => ?_)
    simp
    refine (ahead_ok _ _ _ _ _ _).useB (fun s4 hle4 h1 => ?_) (fun s4 hle4 h1 => ?_) <;> simp
    · refine ⟨by omega, by rw [wr64 (by omega) (by omega)], ((hle.trans hle2).trans hle3).trans hle4, ?_⟩
      intro k hk hk2
      rcases Nat.lt_succ_iff_lt_or_eq.1 hk with h3 | rfl
      · exact hp k h3 hk2
      · exact h1
    · exact ⟨(riseS_false fun hr => by have := hr i h; rw [h1] at this; simp at this), ((hle.trans hle2).trans hle3).trans hle4⟩
  · exact ⟨riseS_true fun k hk => hp k (by omega) hk, hle⟩
theorem rise_Rect : risP Rect k_sheet_rise_Rect := by
  intro lo s hlo v l H f w hf
  have hb := H.bound
  refine CallK_of T_sheet_rise_Rect rfl ?_
  simp [f_sheet_rise_Rect]
  refine LoopW_cnt (l.length - 1) (fun i => ((Tr.nil.set 5 (some (.i .i64 (i + 1)))).set 1 (some f)).set 0 (some v)) (fun i s' => s.Le s' ∧ ∀ k (_ : k < i) (h : k + 1 < l.length), ahS (w l[k]).1 (w l[k]).2 (w l[k + 1]).1 (w l[k + 1]).2 = true) ?_ (by simp) ⟨.refl _, by omega⟩
  rintro i s1 hi ⟨hle, hp⟩
  simp [H.len]
  refine TestK_dec (fun h => ?_) (fun h => ?_) <;> simp
  · have h : i + 1 < l.length := by omega
    obtain ⟨id, off, lb, ex, rfl, hid, _, hat⟩ := (H.le hle).el i (by omega)
    obtain ⟨id', off', lb', ex', he, _, _, hat2⟩ := (H.le hle).el (i + 1) h
    injection he with e5 e6
    rw [← e5, ← e6] at hat2
    have e3 : ((i : Int) + 1).toNat = i + 1 := by omega
    have e4 : (0 : Int) ≤ i + 1 := by omega
    have e7 : (i : Int) + 1 < l.length := by omega
    have e8 : (i : Int) + 1 - 1 = i := by omega
    have e9 : (i : Int) < l.length := by omega
    have hn := hle.next
    simp [El.sz, El.cells] at hat hat2
    simp [El.sz, hat, wr64_nat, e8, e9, show i ≤ 9223372036854775807 by omega, show (0 : Int) ≤ i by omega]
    refine LK_of ((hf l[i] (List.getElem_mem _) _ s1 hle (Nat.le_refl _)).use fun s2 hle2 => ?_)
    have hat3 := (hle2.rd hid (off + (i + 1) * 4) 4).trans hat2
    simp [El.sz, e3, e4, e7, hat3]
    refine LK_of ((hf l[i + 1] (List.getElem_mem _) _ s2 (hle.trans hle2) (by have := hle2.next; omega)).use fun s3 hle3 => ?_)
    simp
    refine (ahead_ok _ _ _ _ _ _).useB (fun s4 hle4 h1 => ?_) (fun s4 hle4 h1 => ?_) <;> simp
    · refine ⟨by omega, by rw [wr64 (by omega) (by omega)], ((hle.trans hle2).trans hle3).trans hle4, ?_⟩
      intro k hk hk2
      rcases Nat.lt_succ_iff_lt_or_eq.1 hk with h3 | rfl
      · exact hp k h3 hk2
      · exact h1
    · exact ⟨(riseS_false fun hr => by have := hr i h; rw [h1] at this; simp at this), ((hle.trans hle2).trans hle3).trans hle4⟩
  · exact ⟨riseS_true fun k hk => hp k (by omega) hk, hle⟩

def emptyS (c : Cell) : Bool := !styledS c.align c.wrap c.dir || (decide (c.text = []) && (decide (c.align = 0) && (decide (c.wrap = 0) && decide (c.dir = 0))))

theorem order_1_ok (lo : Nat) (s : St) (c : Cell) : CallW lo k_sheet_order_1 [cellV' c] s (Ret s (.b (emptyS c))) := by
  refine CallK_of T_sheet_order_1 rfl ?_
  simp [f_sheet_order_1]
  refine (styled_ok _ _ _ _ _).useB (fun s1 hle h1 => ?_) (fun s1 hle h1 => ?_) <;> simp [h1, emptyS, hle.box, hle.unbox]
  refine GK_dec (fun h => ?_) (fun h => ?_) <;> simp [h, hle.box, hle.unbox]

def smallS (r : Rect) : Bool := decide (r.rows < 1) || (decide (r.cols < 1) || (decide (r.rows = 1) && decide (r.cols = 1)))

theorem order_2_ok (lo : Nat) (s : St) (r : Rect) : CallW lo k_sheet_order_2 [rectV r] s (Ret s (.b (smallS r))) := by
  refine CallK_of T_sheet_order_2 rfl ?_
  simp [f_sheet_order_2]
  refine GK_dec (fun h => ?_) (fun h => ?_) <;> simp [h, smallS]
  refine GK_dec (fun h => ?_) (fun h => ?_) <;> simp [h]
  refine GK_dec (fun h => ?_) (fun h => ?_) <;> simp [h]

def cw (c : Cell) : Int × Int := (c.row, c.col)
def rw_ (r : Rect) : Int × Int := (r.row, r.col)

noncomputable def orderS (sh : Sheet) : Bool :=
  !decide (sh.right < 0) && (!decide (1 < sh.right) && (sizesS sh.widths && (sizesS sh.heights && (riseS cw sh.cells && (riseS rw_ sh.merges && (!sh.cells.any emptyS && !sh.merges.any smallS))))))

theorem order_ok (lo : Nat) (s : St) (hlo : lo ≤ s.next) {vw vh vc vm : V} {sh : Sheet} (H : RdSh s vw vh vc vm sh) : CallW lo k_sheet_order [shV sh vw vh vc vm] s (Ret s (.b (orderS sh))) := by
  refine CallK_of T_sheet_order rfl ?_
  have H1 := H.le (s' := s.alloc (.cells [.i .i64 sh.right, vw, vh, vc, vm])) (by simp)
  simp [f_sheet_order]
  refine GK_dec (fun h => ?_) (fun h => ?_) <;> simp [h, orderS]
  refine GK_dec (fun h => ?_) (fun h => ?_) <;> simp [h, sizes_ok _ _ H1.w]
  cases hw : sizesS sh.widths <;> simp [hw, sizes_ok _ _ H1.h]
  cases hh : sizesS sh.heights <;> simp [hh]
  refine (rise_Cell _ _ (by simp; omega) H1.c (.fn (.func k_sheet_spot) [] []) cw (fun x _ lo' s' _ h => spot_ok lo' s' h x)).useB (fun s1 hle h1 => ?_) (fun s1 hle h1 => ?_) <;> simp [h1, hle.box, hle.unbox]
  have hn := hle.lt
  refine (rise_Rect _ _ (by omega) (H1.le hle).m (.fn (.func k_sheet_corner) [] []) rw_ (fun x _ lo' s' _ h => corner_ok lo' s' h x)).useB (fun s2 hle2 h2 => ?_) (fun s2 hle2 h2 => ?_) <;> simp [h2, (hle.trans hle2).box, (hle.trans hle2).unbox]
  have hle := hle.trans hle2
  have hn := hle.lt
  refine (any_Cell _ _ (by omega) (H1.le hle).c (.fn (.func k_sheet_order_1) [] []) emptyS (fun x _ lo' s' _ _ => order_1_ok lo' s' x)).use fun s3 hle3 => ?_
  have hle := hle.trans hle3
  have hn := hle.lt
  simp [hle.box]
  refine (any_Rect _ _ (by omega) (H1.le hle).m (.fn (.func k_sheet_order_2) [] []) smallS (fun x _ lo' s' _ _ => order_2_ok lo' s' x)).use fun s4 hle4 => ?_
  have hle := hle.trans hle4
  cases h3 : (sh.cells.any emptyS) <;> cases h4 : (sh.merges.any smallS) <;> simp [h3, h4, hle.unbox]
end VE

namespace VE
open Go

abbrev shCells (sh : Sheet) (vw vh vc vm : V) : List V := [.i .i64 sh.right, vw, vh, vc, vm]

theorem Check_1_ok (lo : Nat) (s : St) (hlo : lo ≤ s.next) {vw vh vc vm : V} {sh : Sheet} (H : RdSh s vw vh vc vm sh) (b : Nat) (hb : b < s.next) (hr : s.rd b 0 5 = some (shCells sh vw vh vc vm)) (c : Cell) :
    CallW lo k_sheet_Check_1 [cellV' c, .p b 0] s (Ret s (.b (!hasS sh ⟨c.row, c.col, 1, 1⟩))) := by
  refine CallK_of T_sheet_Check_1 rfl ?_
  simp [f_sheet_Check_1, Nat.ne_of_lt hb, hr]
  refine (one_ok _ _ (by simp) _ _).use fun s1 hle => ?_
  try simp
  refine (has_ok _ _ (H.le hle.unbox) _).use fun s2 hle2 => ?_
  simp [(hle.trans hle2).unbox]

theorem Check_2_ok (lo : Nat) (s : St) {vw vh vc vm : V} {sh : Sheet} (H : RdSh s vw vh vc vm sh) (b : Nat) (hb : b < s.next) (hr : s.rd b 0 5 = some (shCells sh vw vh vc vm)) (r : Rect) :
    CallW lo k_sheet_Check_2 [rectV r, .p b 0] s (Ret s (.b (!hasS sh r))) := by
  refine CallK_of T_sheet_Check_2 rfl ?_
  simp [f_sheet_Check_2, Nat.ne_of_lt hb, hr]
  refine (has_ok _ _ (H.le (by simp)) _).use fun s2 hle2 => ?_
  simp [hle2.unbox]

theorem Check_3_ok (lo : Nat) (s : St) (b : Nat) (hb : b < s.next) (q r : Rect) (hr : s.rd b 0 4 = some (El.cells q)) :
    CallW lo k_sheet_Check_3 [rectV r, .p b 0] s (Ret s (.b (meetS r q))) := by
  refine CallK_of T_sheet_Check_3 rfl ?_
  simp [f_sheet_Check_3, Nat.ne_of_lt hb, hr, El.cells]
  refine (meet_ok _ _ _ _).use fun s2 hle2 => ?_
  simp [hle2.unbox]

theorem around_1_ok (lo : Nat) (s : St) (hlo : lo ≤ s.next) (x y : Nat) (hx : x < s.next) (hy : y < s.next) (row col : Int) (r : Rect) (hr : s.rd x 0 1 = some [.i .i64 row]) (hc : s.rd y 0 1 = some [.i .i64 col]) :
    CallW lo k_sheet_around_1 [rectV r, .p x 0, .p y 0] s (Ret s (.b (meetS r ⟨row, col, 1, 1⟩))) := by
  refine CallK_of T_sheet_around_1 rfl ?_
  simp [f_sheet_around_1, Nat.ne_of_lt hx, Nat.ne_of_lt hy, hr, hc]
  refine (one_ok _ _ (by simp) _ _).use fun s1 hle => ?_
  try simp
  refine (meet_ok _ _ _ _).use fun s2 hle2 => ?_
  simp [(hle.trans hle2).unbox]

def aroundS (sh : Sheet) (row col : Int) : Rect := (sh.merges.find? fun r => meetS r ⟨row, col, 1, 1⟩).getD ⟨row, col, 1, 1⟩

theorem idxS_find {α : Type} (p : α → Bool) (l : List α) : (idxS p l = -1 ∧ l.find? p = none) ∨ ∃ i, ∃ h : i < l.length, idxS p l = (i : Nat) ∧ l.find? p = some l[i] := by
  unfold idxS
  cases h : l.findIdx? p with
  | none =>
    left
    refine ⟨rfl, ?_⟩
    have := List.findIdx?_eq_none_iff.1 h
    rw [List.find?_eq_none]; intro x hx; simp [this x hx]
  | some i =>
    right
    obtain ⟨h1, h2, h3⟩ := List.findIdx?_eq_some_iff_getElem.1 h
    refine ⟨i, h1, rfl, ?_⟩
    rw [List.find?_eq_some_iff_getElem]
    exact ⟨h2, i, h1, rfl, fun j hj => by have := h3 j hj; simpa using this⟩

theorem around_ok (lo : Nat) (s : St) (hlo : lo ≤ s.next) {vw vh vc vm : V} {sh : Sheet} (H : RdSh s vw vh vc vm sh) (row col : Int) :
    CallW lo k_sheet_around [shV sh vw vh vc vm, .i .i64 row, .i .i64 col] s (Ret s (rectV (aroundS sh row col))) := by
  refine CallK_of T_sheet_around rfl ?_
  simp [f_sheet_around]
  refine (idx_Rect _ _ ?_ (H.m.le ?_) (.fn (.func k_sheet_around_1) [] [.p (s.next + 1) 0, .p (s.next + 1 + 1) 0]) (fun r => meetS r ⟨row, col, 1, 1⟩) ?_).use fun s1 hle => ?_
  · simp; omega
  · simp (maxDischargeDepth := 9)
  · intro x _ lo' s' hle hlo'
    have h1 := hle.rd (id := s.next + 1) (by simp) 0 1
    have h2 := hle.rd (id := s.next + 1 + 1) (by simp) 0 1
    have hn := hle.next
    try simp at h1 h2 hn
    exact around_1_ok _ _ hlo' _ _ (by omega) (by omega) _ _ _ h1 h2
  · have h0 := fun off n => hle.rd (id := s.next) (by simp) off n
    have h1 := hle.rd (id := s.next + 1) (by simp) 0 1
    have h2 := hle.rd (id := s.next + 1 + 1) (by simp) 0 1
    have h3 := hle.cellsAt (id := s.next + 1 + 1 + 1) (by simp)
    have hn := hle.next
    simp at h0 h1 h2 h3 hn
    have hls : s.Le s1 := hle.unbox.unbox.unbox.unbox
    rcases idxS_find (fun r => meetS r ⟨row, col, 1, 1⟩) sh.merges with ⟨e1, e2⟩ | ⟨i, hi, e1, e2⟩
    · simp [e1, h1, h2]
      refine (one_ok _ _ (by omega) _ _).use fun s2 hle2 => ?_
      have h4 := hle2.cellsAt (id := s.next + 1 + 1 + 1) (by omega)
      rw [h3] at h4
      simp [h4, aroundS, e2]
      exact ⟨by omega, St.Le.put (hls.trans hle2) _ (by omega)⟩
    · obtain ⟨id, off, lb, ex, rfl, hid, _, hat⟩ := (H.m.le hls).el i hi
      simp [El.sz, El.cells] at hat
      have e3 : ¬ ((i : Int) < 0) := by omega
      simp [e1, e3, h0, El.sz, hat, h3, hi, aroundS, e2]
      exact ⟨by omega, St.Le.put hls _ (by omega)⟩
end VE

namespace VE
open Go

def ovAt (l : List Rect) (i : Nat) : Bool := match l[i]? with | some r => (l.take i).any (fun q => meetS q r) | none => false
def overlapS (l : List Rect) : Bool := (List.range l.length).any (ovAt l)
def underAt (sh : Sheet) (c : Cell) : Bool := !(decide (c.row = (aroundS sh c.row c.col).row) && decide (c.col = (aroundS sh c.row c.col).col))

def outC (sh : Sheet) : Bool := sh.cells.any fun c => !hasS sh ⟨c.row, c.col, 1, 1⟩
def outM (sh : Sheet) : Bool := sh.merges.any fun r => !hasS sh r
def underS (sh : Sheet) : Bool := sh.cells.any (underAt sh)
noncomputable def checkS (sh : Sheet) : Int :=
  if limitsS sh = false then 3 else if orderS sh = false then 1 else if outC sh = true then 4 else if outM sh = true then 4
  else if overlapS sh.merges = true then 5 else if underS sh = true then 6 else 0

theorem any_range {p : Nat → Bool} {n : Nat} (h : ∀ k < n, p k = false) : (List.range n).any p = false := by
  rw [List.any_eq_false]; intro x hx; simp [h x (List.mem_range.1 hx)]
theorem any_range_true {p : Nat → Bool} {n k : Nat} (hk : k < n) (h : p k = true) : (List.range n).any p = true := by
  rw [List.any_eq_true]; exact ⟨k, List.mem_range.2 hk, h⟩
theorem any_idx {α : Type} {p : α → Bool} {l : List α} (h : ∀ k (hk : k < l.length), p l[k] = false) : l.any p = false := by
  rw [List.any_eq_false]; intro x hx; obtain ⟨k, hk, rfl⟩ := List.getElem_of_mem hx; simp [h k hk]
theorem any_idx_true {α : Type} {p : α → Bool} {l : List α} {k : Nat} (hk : k < l.length) (h : p l[k] = true) : l.any p = true := by
  rw [List.any_eq_true]; exact ⟨_, List.getElem_mem hk, h⟩

set_option maxRecDepth 4000 in
theorem Check_ok (lo : Nat) (s : St) (hlo : lo ≤ s.next) {vw vh vc vm : V} {sh : Sheet} (H : RdSh s vw vh vc vm sh) :
    CallW lo k_sheet_Check [shV sh vw vh vc vm] s (Ret s (.i .i64 (checkS sh))) := by
  refine CallK_of T_sheet_Check rfl ?_
  have H1 := H.le (s' := s.alloc (.cells [.i .i64 sh.right, vw, vh, vc, vm])) (by simp)
  simp [f_sheet_Check]
  refine (limits_ok _ _ (by simp; omega) H1).useB (fun s1 hle h1 => ?_) (fun s1 hle h1 => ?_) <;> simp [h1, hle.box, hle.unbox, checkS]
  have hn := hle.lt
  refine (order_ok _ _ (by omega) (H1.le hle)).useB (fun s2 hle2 h2 => ?_) (fun s2 hle2 h2 => ?_) <;> simp [h2, (hle.trans hle2).box, (hle.trans hle2).unbox]
  replace hle := hle.trans hle2; clear hle2
  have hn := hle.lt
  refine CallW.useB (p := outC sh) (any_Cell _ _ (by omega) (H1.le hle).c (.fn (.func k_sheet_Check_1) [] [.p s.next 0]) (fun c => !hasS sh ⟨c.row, c.col, 1, 1⟩) ?_) (fun s3 hle3 h3 => ?_) (fun s3 hle3 h3 => ?_)
  · intro x _ lo' s' hl hlo'
    have hh := hle.trans hl
    have := hh.box 0 5
    simp at this
    exact Check_1_ok _ _ hlo' (H.le hh.unbox) _ (by have := hh.lt; omega) this _
  · simp [h3, (hle.trans hle3).unbox]
  replace hle := hle.trans hle3; clear hle3
  have hn := hle.lt
  simp [h3, hle.box]
  refine CallW.useB (p := outM sh) (any_Rect _ _ (by omega) (H1.le hle).m (.fn (.func k_sheet_Check_2) [] [.p s.next 0]) (fun r => !hasS sh r) ?_) (fun s4 hle4 h4 => ?_) (fun s4 hle4 h4 => ?_)
  · intro x _ lo' s' hl hlo'
    have hh := hle.trans hl
    have := hh.box 0 5
    simp at this
    exact Check_2_ok _ _ (H.le hh.unbox) _ (by have := hh.lt; omega) this _
  · simp [h4, (hle.trans hle4).unbox]
  replace hle := hle.trans hle4; clear hle4
  have hn := hle.lt
  have hbm := H.m.bound
  have hbc := H.c.bound
  simp [h4, hle.box, H.m.len]
  refine LoopW_cnt sh.merges.length (fun i => (((Tr.nil.set 30 (some (.i .i64 i))).set 29 (some (.i .i64 sh.merges.length))).set 28 (some vm)).set 1 (some (.p s.next 0)))
    (fun i s' => (s.alloc (.cells [.i .i64 sh.right, vw, vh, vc, vm])).Le s' ∧ ∀ k (_ : k < i), ovAt sh.merges k = false) ?_ (by simp) ⟨hle, by omega⟩
  rintro i s5 hi ⟨hle, hp⟩
  simp
  have hn := hle.lt
  by_cases h : i < sh.merges.length
  · have Hm := (H1.le hle).m
    obtain ⟨id, off, lb, ex, rfl, hid, hlb, hat⟩ := Hm.el i h
    simp [El.sz, El.cells] at hat
    have e1 : (i : Int) ≤ lb := by omega
    simp [h, hat, El.sz, Nat.ne_of_lt hn, show s5.next ≠ s.next by omega, show s.next ≠ s5.next by omega, hle.box]
    refine ⟨by omega, ?_⟩
    rw [slSlO_hi _ _ _ _ _ _ _ _ ⟨by omega, e1⟩]
    simp
    have Ht := Hm.take i hi
    have hle6 : s5.Le ((s5.alloc (.cells [z, z, z, z])).put s5.next (.cells [.i .i64 sh.merges[i].row, .i .i64 sh.merges[i].col, .i .i64 sh.merges[i].rows, .i .i64 sh.merges[i].cols])) := by simp
    refine CallW.useB (p := ovAt sh.merges i) (by
      have := any_Rect lo _ ?_ (Ht.le hle6) (.fn (.func k_sheet_Check_3) [] [.p s5.next 0]) (fun q => meetS q sh.merges[i]) ?_
      · rw [ovAt, List.getElem?_eq_getElem h]; exact this
      · simp; omega
      · intro x _ lo' s' hl hlo'
        have h5 := hl.rd (id := s5.next) (by simp) 0 4
        have h6 := hl.next
        simp at h5 h6
        exact Check_3_ok _ _ _ (by omega) _ _ h5) (fun s7 hle7 h7 => ?_) (fun s7 hle7 h7 => ?_)
    · have e0 : overlapS sh.merges = true := any_range_true h h7
      simp [e0, hle.unbox.trans (hle6.trans hle7)]
    · simp
      rw [wr64 (by omega) (by omega)]
      refine ⟨rfl, hle.trans (hle6.trans hle7), ?_⟩
      intro k hk
      rcases Nat.lt_succ_iff_lt_or_eq.1 hk with h3 | rfl
      · exact hp k h3
      · exact h7
  · have e0 : overlapS sh.merges = false := any_range fun k hk => hp k (by omega)
    simp [h, e0, hle.box, H.c.len]
    refine LoopW_cnt sh.cells.length (fun i => (((Tr.nil.set 45 (some (.i .i64 i))).set 44 (some (.i .i64 sh.cells.length))).set 43 (some vc)).set 1 (some (.p s.next 0)))
      (fun i s' => (s.alloc (.cells [.i .i64 sh.right, vw, vh, vc, vm])).Le s' ∧ ∀ k (_ : k < i) (hk : k < sh.cells.length), underAt sh sh.cells[k] = false) ?_ (by simp) ⟨hle, by omega⟩
    clear hp hi h hn hle i s5
    rintro i s5 hi ⟨hle, hp⟩
    simp
    have hn := hle.lt
    by_cases h : i < sh.cells.length
    · have Hc := (H1.le hle).c
      obtain ⟨id, off, lb, ex, rfl, hid, hlb, hat⟩ := Hc.el i h
      simp [El.sz, El.cells] at hat
      simp [h, hat, El.sz, Nat.ne_of_lt hn, show s5.next ≠ s.next by omega, show s.next ≠ s5.next by omega, hle.box]
      refine ⟨by omega, ?_⟩
      have hle6 : s5.Le ((s5.alloc (.cells [z, z, .s [], z, z, z])).put s5.next (.cells [.i .i64 sh.cells[i].row, .i .i64 sh.cells[i].col, .s sh.cells[i].text, .i .i64 sh.cells[i].align, .i .i64 sh.cells[i].wrap, .i .i64 sh.cells[i].dir])) := by simp
      refine (spot_ok _ _ (by simp) sh.cells[i]).use fun s7 hle7 => ?_
      have h8 := fun off n => hle7.rd (id := s5.next) (by simp) off n
      have h9 := hle7.next
      simp at h8 h9
      have hl7 := hle.trans (hle6.trans hle7)
      simp [hl7.box, h8]
      refine (around_ok _ _ (by omega) (H.le hl7.unbox) _ _).use fun s8 hle8 => ?_
      refine (corner_ok _ _ (by have := hle8.next; omega) _).use fun s9 hle9 => ?_
      simp
      have hl9 := hl7.trans (hle8.trans hle9)
      have e9 : underAt sh sh.cells[i] = !(decide (sh.cells[i].row = (aroundS sh sh.cells[i].row sh.cells[i].col).row) && decide (sh.cells[i].col = (aroundS sh sh.cells[i].row sh.cells[i].col).col)) := rfl
      refine TestK_ite (fun h7 => ?_) (fun h7 => ?_)
      · have e0 : underS sh = true := any_idx_true h (by rw [e9]; simpa using h7)
        simp [e0, hl9.unbox]
      · simp
        rw [wr64 (by omega) (by omega)]
        refine ⟨rfl, hl9, ?_⟩
        intro k hk hk2
        rcases Nat.lt_succ_iff_lt_or_eq.1 hk with h3 | rfl
        · exact hp k h3 hk2
        · rw [e9]; simpa using h7
    · have e1 : underS sh = false := any_idx fun k hk => hp k (by omega) hk
      simp [h, e1, hle.unbox]

def mayS (w h u v : Int) : Int := if w < 1 ∨ 160 < w ∨ h < 1 ∨ 80 < h ∨ min u v < 0 ∨ 65535 < max u v then 1 else 0
noncomputable def gMayS (sh : Sheet) (w h u v : Int) : Int := if checkS sh ≠ 0 then checkS sh else mayS w h u v

theorem grid_May_ok (lo : Nat) (s : St) (hlo : lo ≤ s.next) {vw vh vc vm : V} {sh : Sheet} (H : RdSh s vw vh vc vm sh) (w h u v : Int) :
    CallW lo k_grid_May [.ag [.i .i64 sh.right, vw, vh, vc, vm, .i .i64 w, .i .i64 h, .i .i64 u, .i .i64 v]] s (Ret s (.i .i64 (gMayS sh w h u v))) := by
  refine CallK_of T_grid_May rfl ?_
  simp [f_grid_May]
  refine (Check_ok _ _ (by simp; omega) (H.le (by simp))).use fun s1 hle => ?_
  simp
  refine TestK_ite (fun h1 => ?_) (fun h1 => ?_) <;> simp at h1 <;> simp [h1, gMayS, hle.unbox, hle.box]
  refine GK_dec (fun h => ?_) (fun h => ?_) <;> simp [h, mayS, hle.unbox, hle.box]
  refine GK_dec (fun h => ?_) (fun h => ?_) <;> simp [h, hle.unbox, hle.box]
  refine GK_dec (fun h => ?_) (fun h => ?_) <;> simp [h, hle.unbox, hle.box]
  refine GK_dec (fun h => ?_) (fun h => ?_) <;> simp [h, hle.unbox, hle.box]
  refine GK_dec (fun h => ?_) (fun h => ?_) <;> simp [h, hle.unbox, hle.box]
  refine TestK_dec (fun h => ?_) (fun h => ?_) <;> simp [h, hle.unbox, hle.box]
end VE

namespace VE
open Go

/-! ## The document's sheet -/

def I64 (n : Int) : Prop := -9223372036854775808 ≤ n ∧ n ≤ 9223372036854775807

def inS (x a m : Int) : Bool := if m < 1 ∨ x < a then false else if a < 0 then decide (x < IntKind.i64.wrap (a + m)) else decide (IntKind.i64.wrap (x - a) < m)

theorem wrapu64 (n : Int) : IntKind.u64.wrap n = n % 18446744073709551616 := by
  simp [IntKind.wrap, IntKind.bits, IntKind.signed]

theorem share_in {a m b n : Int} (ha : I64 a) (hm : I64 m) (hb : I64 b) (hn : I64 n) : shareS a m b n = (inS (max a b) a m && inS (max a b) b n) := by
  unfold I64 at ha hm hb hn
  unfold shareS inS
  simp only [wrapu64]
  by_cases h1 : m < 1
  · simp [h1]
  by_cases h2 : n < 1
  · simp [h2]
  by_cases h3 : b < a
  · rw [Int.max_eq_left (by omega)]
    simp only [h1, h2, h3, false_or, or_false, if_true, if_false]
    by_cases h4 : a < 0
    · have : b < 0 := by omega
      simp only [h4, this, if_true, show ¬ (a < a) by omega, show ¬ (a < b) by omega, if_false]
      rw [Bool.eq_iff_iff]; simp (disch := omega) only [wr64, Bool.and_eq_true, decide_eq_true_eq]; omega
    · by_cases h5 : b < 0
      · simp only [h4, h5, if_true, show ¬ (a < a) by omega, show ¬ (a < b) by omega, if_false]
        rw [Bool.eq_iff_iff]; simp (disch := omega) only [wr64, Bool.and_eq_true, decide_eq_true_eq]; omega
      · simp only [h4, h5, show ¬ (a < a) by omega, show ¬ (a < b) by omega, if_false]
        rw [Bool.eq_iff_iff]; simp (disch := omega) only [wr64, Bool.and_eq_true, decide_eq_true_eq]; omega
  · rw [Int.max_eq_right (by omega)]
    simp only [h1, h2, h3, false_or, or_false, if_true, if_false]
    by_cases h4 : b < 0
    · have : a < 0 := by omega
      simp only [h4, this, if_true, show ¬ (b < a) by omega, show ¬ (b < b) by omega, if_false]
      rw [Bool.eq_iff_iff]; simp (disch := omega) only [wr64, Bool.and_eq_true, decide_eq_true_eq]; omega
    · by_cases h5 : a < 0
      · simp only [h4, h5, if_true, show ¬ (b < a) by omega, show ¬ (b < b) by omega, if_false]
        rw [Bool.eq_iff_iff]; simp (disch := omega) only [wr64, Bool.and_eq_true, decide_eq_true_eq]; omega
      · simp only [h4, h5, show ¬ (b < a) by omega, show ¬ (b < b) by omega, if_false]
        rw [Bool.eq_iff_iff]; simp (disch := omega) only [wr64, Bool.and_eq_true, decide_eq_true_eq]; omega

theorem share_one {a m b : Int} (ha : I64 a) (hm : I64 m) (hb : I64 b) : shareS a m b 1 = inS b a m := by
  rw [share_in ha hm hb (by unfold I64; omega)]
  unfold I64 at ha hm hb
  by_cases h3 : b < a
  · have e : inS b a m = false := by unfold inS; simp [h3]
    have e2 : inS (max a b) b 1 = false := by
      rw [Int.max_eq_left (by omega)]; unfold inS
      have : ¬ (a < b) := by omega
      simp only [this, show ¬ ((1 : Int) < 1) by omega, or_self, if_false]
      split
      · rw [wr64 (by omega) (by omega)]; simp; omega
      · rw [wr64 (by omega) (by omega)]; simp; omega
    simp [e, e2]
  · rw [Int.max_eq_right (by omega)]
    have e2 : inS b b 1 = true := by
      unfold inS
      simp only [show ¬ ((1 : Int) < 1) by omega, show ¬ (b < b) by omega, or_self, if_false]
      split
      · rw [wr64 (by omega) (by omega)]; simp; omega
      · rw [wr64 (by omega) (by omega)]; simp
    simp [e2]

structure I64R (r : Rect) : Prop where
  a : I64 r.row
  b : I64 r.col
  c : I64 r.rows
  d : I64 r.cols

def coversS (r : Rect) (row col : Int) : Bool := inS row r.row r.rows && inS col r.col r.cols
theorem covers_meet {r : Rect} (h : I64R r) {row col : Int} (h1 : I64 row) (h2 : I64 col) : coversS r row col = meetS r ⟨row, col, 1, 1⟩ := by
  simp only [coversS, meetS, share_one h.a h.c h1, share_one h.b h.d h2]
theorem meet_covers {q r : Rect} (hq : I64R q) (hr : I64R r) : meetS q r = (coversS q (max q.row r.row) (max q.col r.col) && coversS r (max q.row r.row) (max q.col r.col)) := by
  simp only [coversS, meetS, share_in hq.a hq.c hr.a hr.c, share_in hq.b hq.d hr.b hr.d]
  rw [Bool.eq_iff_iff]; simp; constructor <;> (intro h; simp [h])
theorem meetS_comm {q r : Rect} (hq : I64R q) (hr : I64R r) : meetS q r = meetS r q := by
  rw [meet_covers hq hr, meet_covers hr hq, Bool.and_comm, Int.max_comm, Int.max_comm (a := q.col)]

theorem in_ok (lo : Nat) (s : St) (x a m : Int) (K : V → St → Prop) : CallW lo k_ref21_in [.i .i64 x, .i .i64 a, .i .i64 m] s K = K (.b (inS x a m)) s := by
  refine CallW_eq (CallK_of T_ref21_in rfl ?_) K
  simp [f_ref21_in]
  refine GK_dec (fun h => ?_) (fun h => ?_) <;> simp [h, inS]
  refine TestK_dec (fun h => ?_) (fun h => ?_) <;> simp [h]
  refine TestK_dec (fun h => ?_) (fun h => ?_) <;> simp [h]

theorem Covers_ok (lo : Nat) (s : St) (r : Rect) (row col : Int) : CallW lo k_ref21_Covers [rectV r, .i .i64 row, .i .i64 col] s (Ret s (.b (coversS r row col))) := by
  refine CallK_of T_ref21_Covers rfl ?_
  simp [f_ref21_Covers, in_ok]
  cases h : inS row r.row r.rows <;> simp [h, coversS, in_ok]

theorem Meet_ok (lo : Nat) (s : St) {a b : Rect} (ha : I64R a) (hb : I64R b) : CallW lo k_ref21_Meet [rectV a, rectV b] s (Ret s (.b (meetS a b))) := by
  refine CallK_of T_ref21_Meet rfl ?_
  rw [meet_covers ha hb]
  simp [f_ref21_Meet]
  refine (Covers_ok _ _ _ _ _).useB (fun s1 hle h => ?_) (fun s1 hle h => ?_)
  · have h1 := hle.rd (id := s.next) (by simp) 0 4
    have h2 := hle.rd (id := s.next + 1) (by simp) 0 4
    simp at h1 h2
    simp [h, h2]
    refine (Covers_ok _ _ _ _ _).use fun s2 hle2 => ?_
    simp [(hle.trans hle2).unbox.unbox]
  · simp [h, hle.unbox.unbox]

theorem there_ok (lo : Nat) (s : St) {vw vh vc vm : V} {sh : Sheet} (H : RdSh s vw vh vc vm sh) (r : Rect) : CallW lo k_ref21_there [shV sh vw vh vc vm, rectV r] s (Ret s (.b (hasS sh r))) := by
  refine CallK_of T_ref21_there rfl ?_
  simp [f_ref21_there]
  repeat (refine GK_dec (fun h => ?_) (fun h => ?_) <;> simp [h, hasS, H.w.len, H.h.len])

theorem Styled_ok (lo : Nat) (s : St) (a w d : Int) : CallW lo k_ref21_Styled [.ag [.i .i64 a, .i .i64 w, .i .i64 d]] s (Ret s (.b (styledS a w d))) := by
  refine CallK_of T_ref21_Styled rfl ?_
  simp [f_ref21_Styled]
  refine GK_dec (fun h => ?_) (fun h => ?_) <;> simp [h, styledS]
  refine GK_dec (fun h => ?_) (fun h => ?_)
  · have e : a ≤ 4 := by omega
    simp [h, e]
    by_cases h0 : w = 0
    · subst h0
      simp
      refine GK_dec (fun h => ?_) (fun h => ?_) <;> simp [h]
      constructor <;> intro <;> omega
    · simp [h0]
      by_cases h1 : w = 1
      · subst h1
        simp
        refine GK_dec (fun h => ?_) (fun h => ?_) <;> simp [h]
        constructor <;> intro <;> omega
      · have e0 : ¬ (0 ≤ w ∧ w ≤ 1) := by omega
        simp [h1]
        omega
  · have e : ¬ a ≤ 4 := by omega
    simp [h, e]

theorem Ahead_ok (lo : Nat) (s : St) (a b c d : Int) (K : V → St → Prop) : CallW lo k_ref21_ahead [.i .i64 a, .i .i64 b, .i .i64 c, .i .i64 d] s K = K (.b (ahS a b c d)) s := by
  refine CallW_eq (CallK_of T_ref21_ahead rfl ?_) K
  simp [f_ref21_ahead]
  refine GK_dec (fun h => ?_) (fun h => ?_) <;> simp [h, ahS]
  refine GK_dec (fun h => ?_) (fun h => ?_) <;> simp [h]
end VE

namespace VE
open Go

abbrev boxS (s : St) (sh : Sheet) (vw vh vc vm : V) : St := s.alloc (.cells [.i .i64 sh.right, vw, vh, vc, vm])

theorem limitsS_false {sh : Sheet} (h : (∃ x ∈ sh.widths, 60 < x) ∨ (∃ x ∈ sh.heights, 12 < x) ∨ (∃ c ∈ sh.cells, 1024 < (c.text.length : Int)) ∨ 16 < (sh.widths.length : Int) ∨ 24 < (sh.heights.length : Int) ∨ 12 < (sh.merges.length : Int)) : limitsS sh = false := by
  unfold limitsS overS
  rw [Bool.eq_false_iff]
  intro hh
  simp at hh
  obtain ⟨h1, ⟨h2, h3⟩, ⟨h4, h5⟩, h6⟩ := hh
  rcases h with ⟨x, hx, h⟩ | ⟨x, hx, h⟩ | ⟨x, hx, h⟩ | h | h | h
  · have := h3 x hx; omega
  · have := h5 x hx; omega
  · have := h1 x hx; omega
  · omega
  · omega
  · omega

theorem limitsS_true {sh : Sheet} (h1 : ∀ k (h : k < sh.widths.length), sh.widths[k] ≤ 60) (h2 : ∀ k (h : k < sh.heights.length), sh.heights[k] ≤ 12) (h3 : ∀ k (h : k < sh.cells.length), (sh.cells[k].text.length : Int) ≤ 1024)
    (h4 : (sh.widths.length : Int) ≤ 16) (h5 : (sh.heights.length : Int) ≤ 24) (h6 : (sh.merges.length : Int) ≤ 12) : limitsS sh = true := by
  unfold limitsS overS
  simp
  refine ⟨?_, ⟨by omega, ?_⟩, ⟨by omega, ?_⟩, by omega⟩
  · intro c hc; obtain ⟨k, hk, rfl⟩ := List.getElem_of_mem hc; have := h3 k hk; omega
  · intro c hc; obtain ⟨k, hk, rfl⟩ := List.getElem_of_mem hc; exact h1 k hk
  · intro c hc; obtain ⟨k, hk, rfl⟩ := List.getElem_of_mem hc; exact h2 k hk

set_option maxRecDepth 4000 in
theorem Limits_ok (lo : Nat) (s : St) {vw vh vc vm : V} {sh : Sheet} (H : RdSh s vw vh vc vm sh) : CallW lo k_ref21_Limits [shV sh vw vh vc vm] s (Ret s (.b (limitsS sh))) := by
  refine CallK_of T_ref21_Limits rfl ?_
  have hbw := H.w.bound
  have hbh := H.h.bound
  have hbc := H.c.bound
  simp [f_ref21_Limits, H.h.len]
  refine GK_dec (fun h1 => ?_) (fun h1 => ?_)
  · simp [h1]; exact limitsS_false (by simp [h1])
  simp [h1, H.w.len]
  refine GK_dec (fun h2 => ?_) (fun h2 => ?_)
  · simp [h2]; exact limitsS_false (by simp [h2])
  simp [h2, H.m.len]
  refine TestK_dec (fun h3 => ?_) (fun h3 => ?_)
  · simp; exact limitsS_false (by simp [h3])
  simp
  refine LoopW_cnt sh.heights.length (fun i => (Tr.nil.set 3 (some (.i .i64 i))).set 1 (some (.p s.next 0))) (fun i s' => s' = boxS s sh vw vh vc vm ∧ ∀ k (_ : k < i) (h : k < sh.heights.length), sh.heights[k] ≤ 12) ?_ (by simp) ⟨rfl, by omega⟩
  rintro i s1 hi ⟨rfl, hp⟩
  by_cases h : i < sh.heights.length
  · obtain ⟨id, off, lb, ex, rfl, hid, hlb, hat⟩ := H.h.el i h
    simp [El.sz, El.cells] at hat
    simp [h, hat, El.sz, Nat.ne_of_lt hid]
    refine TestK_dec (fun h4 => ?_) (fun h4 => ?_) <;> simp
    · exact limitsS_false (.inr (.inl ⟨_, List.getElem_mem h, h4⟩))
    · rw [wr64 (by omega) (by omega)]
      refine ⟨rfl, ?_⟩
      intro k hk hk2
      rcases Nat.lt_succ_iff_lt_or_eq.1 hk with h5 | rfl
      · exact hp k h5 hk2
      · omega
  have hp1 : ∀ k (h : k < sh.heights.length), sh.heights[k] ≤ 12 := fun k hk => hp k (by omega) hk
  clear hp
  simp [h, H.h.len]
  refine LoopW_cnt sh.widths.length (fun i => (Tr.nil.set 4 (some (.i .i64 i))).set 1 (some (.p s.next 0))) (fun i s' => s' = boxS s sh vw vh vc vm ∧ ∀ k (_ : k < i) (h : k < sh.widths.length), sh.widths[k] ≤ 60) ?_ (by simp) ⟨rfl, by omega⟩
  clear h hi i
  rintro i s1 hi ⟨rfl, hp⟩
  by_cases h : i < sh.widths.length
  · obtain ⟨id, off, lb, ex, rfl, hid, hlb, hat⟩ := H.w.el i h
    simp [El.sz, El.cells] at hat
    simp [h, hat, El.sz, Nat.ne_of_lt hid]
    refine TestK_dec (fun h4 => ?_) (fun h4 => ?_) <;> simp
    · exact limitsS_false (.inl ⟨_, List.getElem_mem h, h4⟩)
    · rw [wr64 (by omega) (by omega)]
      refine ⟨rfl, ?_⟩
      intro k hk hk2
      rcases Nat.lt_succ_iff_lt_or_eq.1 hk with h5 | rfl
      · exact hp k h5 hk2
      · omega
  have hp2 : ∀ k (h : k < sh.widths.length), sh.widths[k] ≤ 60 := fun k hk => hp k (by omega) hk
  clear hp
  simp [h, H.w.len]
  refine LoopW_cnt sh.cells.length (fun i => (Tr.nil.set 5 (some (.i .i64 i))).set 1 (some (.p s.next 0))) (fun i s' => s' = boxS s sh vw vh vc vm ∧ ∀ k (_ : k < i) (h : k < sh.cells.length), (sh.cells[k].text.length : Int) ≤ 1024) ?_ (by simp) ⟨rfl, by omega⟩
  clear h hi i
  rintro i s1 hi ⟨rfl, hp⟩
  by_cases h : i < sh.cells.length
  · obtain ⟨id, off, lb, ex, rfl, hid, hlb, hat⟩ := H.c.el i h
    have hat := rd_sub hat 2 1 (by simp [El.sz])
    simp [El.sz, El.cells] at hat
    simp [h, hat, El.sz, Nat.ne_of_lt hid]
    refine TestK_dec (fun h4 => ?_) (fun h4 => ?_) <;> simp
    · exact limitsS_false (.inr (.inr (.inl ⟨_, List.getElem_mem h, by omega⟩)))
    · rw [wr64 (by omega) (by omega)]
      refine ⟨rfl, ?_⟩
      intro k hk hk2
      rcases Nat.lt_succ_iff_lt_or_eq.1 hk with h5 | rfl
      · have := hp k h5 hk2; omega
      · omega
  have hp3 : ∀ k (h : k < sh.cells.length), (sh.cells[k].text.length : Int) ≤ 1024 := fun k hk => hp k (by omega) hk
  simp [h, H.c.len]
  exact limitsS_true hp2 hp1 hp3 (by omega) (by omega) (by omega)
end VE

namespace VE
open Go

theorem orderS_false {sh : Sheet} (h : (sh.right ≠ 0 ∧ sh.right ≠ 1) ∨ sh.widths.length = 0 ∨ sh.heights.length = 0 ∨ (∃ x ∈ sh.widths, x < 1) ∨ (∃ x ∈ sh.heights, x < 1) ∨ ¬riseP cw sh.cells ∨ (∃ c ∈ sh.cells, emptyS c = true) ∨ ¬riseP rw_ sh.merges ∨ (∃ r ∈ sh.merges, smallS r = true)) : orderS sh = false := by
  rw [Bool.eq_false_iff]
  intro hh
  unfold orderS sizesS at hh
  simp [riseS_iff] at hh
  obtain ⟨h1, h2, ⟨h3, h4⟩, ⟨h5, h6⟩, h7, h8, h9, h10⟩ := hh
  rcases h with h | h | h | ⟨x, hx, h⟩ | ⟨x, hx, h⟩ | h | ⟨x, hx, h⟩ | h | ⟨x, hx, h⟩
  · omega
  · omega
  · omega
  · have := h4 x hx; omega
  · have := h6 x hx; omega
  · exact h h7
  · have := h9 x hx; rw [h] at this; simp at this
  · exact h h8
  · have := h10 x hx; rw [h] at this; simp at this

theorem orderS_true {sh : Sheet} (h0 : sh.right = 0 ∨ sh.right = 1) (h1 : sh.widths.length ≠ 0) (h2 : sh.heights.length ≠ 0) (h3 : ∀ k (h : k < sh.widths.length), 1 ≤ sh.widths[k]) (h4 : ∀ k (h : k < sh.heights.length), 1 ≤ sh.heights[k])
    (h5 : riseP cw sh.cells) (h6 : ∀ k (h : k < sh.cells.length), emptyS sh.cells[k] = false) (h7 : riseP rw_ sh.merges) (h8 : ∀ k (h : k < sh.merges.length), smallS sh.merges[k] = false) : orderS sh = true := by
  unfold orderS sizesS
  simp [riseS_iff]
  refine ⟨by omega, by omega, ⟨by omega, ?_⟩, ⟨by omega, ?_⟩, h5, h7, ?_, ?_⟩
  · intro c hc; obtain ⟨k, hk, rfl⟩ := List.getElem_of_mem hc; exact h3 k hk
  · intro c hc; obtain ⟨k, hk, rfl⟩ := List.getElem_of_mem hc; exact h4 k hk
  · intro c hc; obtain ⟨k, hk, rfl⟩ := List.getElem_of_mem hc; exact h6 k hk
  · intro c hc; obtain ⟨k, hk, rfl⟩ := List.getElem_of_mem hc; exact h8 k hk

set_option maxRecDepth 10000 in
set_option maxHeartbeats 1000000 in
theorem Order_ok (lo : Nat) (s : St) (hlo : lo ≤ s.next) {vw vh vc vm : V} {sh : Sheet} (H : RdSh s vw vh vc vm sh) : CallW lo k_ref21_Order [shV sh vw vh vc vm] s (Ret s (.b (orderS sh))) := by
  refine CallK_of T_ref21_Order rfl ?_
  have hbw := H.w.bound
  have hbh := H.h.bound
  have hbc := H.c.bound
  have hbm := H.m.bound
  have H1 := H.le (s' := boxS s sh vw vh vc vm) (by simp)
  have h0 : (sh.right = 0 ∨ sh.right = 1) ∨ (sh.right ≠ 0 ∧ sh.right ≠ 1) := by omega
  rcases h0 with h0 | ⟨h0, h0'⟩
  rotate_left
  · simp [f_ref21_Order, h0, h0']
    exact orderS_false (.inl ⟨h0, h0'⟩)
  by_cases h1 : sh.widths.length = 0
  · rcases h0 with h0 | h0 <;> simp [f_ref21_Order, h0, H.w.len, h1] <;> exact orderS_false (.inr (.inl h1))
  by_cases h2 : sh.heights.length = 0
  · rcases h0 with h0 | h0 <;> simp [f_ref21_Order, h0, H.w.len, h1, H.h.len, h2] <;> exact orderS_false (.inr (.inr (.inl h2)))
  by_cases h00 : sh.right = 0
  case' pos => simp [f_ref21_Order, eq_true h00, H.w.len, h1, H.h.len, h2]
  case' neg =>
    have h01 : sh.right = 1 := by omega
    simp [f_ref21_Order, eq_false h00, eq_true h01, H.w.len, h1, H.h.len, h2]
    clear h01
  all_goals
    clear h00
    refine LoopW_cnt sh.widths.length (fun i => (Tr.nil.set 3 (some (.i .i64 i))).set 1 (some (.p s.next 0))) (fun i s' => (boxS s sh vw vh vc vm).Le s' ∧ ∀ k (_ : k < i) (h : k < sh.widths.length), 1 ≤ sh.widths[k]) ?_ (by simp) ⟨.refl _, by omega⟩
    rintro i s1 hi ⟨hle, hp⟩
    have hn := hle.lt
    by_cases h : i < sh.widths.length
    · obtain ⟨id, off, lb, ex, rfl, hid, hlb, hat⟩ := (H1.le hle).w.el i h
      simp [El.sz, El.cells] at hat
      simp [h, hat, El.sz, hle.box]
      refine TestK_dec (fun h4 => ?_) (fun h4 => ?_) <;> simp
      · exact ⟨orderS_false (.inr (.inr (.inr (.inl ⟨_, List.getElem_mem h, h4⟩)))), hle.unbox⟩
      · rw [wr64 (by omega) (by omega)]
        refine ⟨rfl, hle, ?_⟩
        intro k hk hk2
        rcases Nat.lt_succ_iff_lt_or_eq.1 hk with h5 | rfl
        · exact hp k h5 hk2
        · omega
    have g1 : ∀ k (h : k < sh.widths.length), 1 ≤ sh.widths[k] := fun k hk => hp k (by omega) hk
    clear hp
    simp [h, hle.box, H.w.len]
    clear h hi hn i
    refine LoopW_cnt sh.heights.length (fun i => (Tr.nil.set 4 (some (.i .i64 i))).set 1 (some (.p s.next 0))) (fun i s' => (boxS s sh vw vh vc vm).Le s' ∧ ∀ k (_ : k < i) (h : k < sh.heights.length), 1 ≤ sh.heights[k]) ?_ (by simp) ⟨hle, by omega⟩
    rintro i s1 hi ⟨hle, hp⟩
    have hn := hle.lt
    by_cases h : i < sh.heights.length
    · obtain ⟨id, off, lb, ex, rfl, hid, hlb, hat⟩ := (H1.le hle).h.el i h
      simp [El.sz, El.cells] at hat
      simp [h, hat, El.sz, hle.box]
      refine TestK_dec (fun h4 => ?_) (fun h4 => ?_) <;> simp
      · exact ⟨orderS_false (.inr (.inr (.inr (.inr (.inl ⟨_, List.getElem_mem h, h4⟩))))), hle.unbox⟩
      · rw [wr64 (by omega) (by omega)]
        refine ⟨rfl, hle, ?_⟩
        intro k hk hk2
        rcases Nat.lt_succ_iff_lt_or_eq.1 hk with h5 | rfl
        · exact hp k h5 hk2
        · omega
    have g2 : ∀ k (h : k < sh.heights.length), 1 ≤ sh.heights[k] := fun k hk => hp k (by omega) hk
    clear hp
    simp [h, hle.box, H.h.len]
    clear h hi hn i
    refine LoopW_cnt sh.cells.length (fun i => (Tr.nil.set 5 (some (.i .i64 i))).set 1 (some (.p s.next 0))) (fun i s' => (boxS s sh vw vh vc vm).Le s' ∧ ∀ k (_ : k < i) (h : k < sh.cells.length), emptyS sh.cells[k] = false ∧ ∀ (_ : 0 < k), ahS sh.cells[k - 1].row sh.cells[k - 1].col sh.cells[k].row sh.cells[k].col = true) ?_ (by simp) ⟨hle, by omega⟩
    rintro i s1 hi ⟨hle, hp⟩
    have hn := hle.lt
    by_cases h : i < sh.cells.length
    · obtain ⟨id, off, lb, ex, rfl, hid, hlb, hat0⟩ := (H1.le hle).c.el i h
      have hat := hat0
      have hle6 : s1.Le ((s1.alloc (.cells [z, z, .s [], z, z, z])).put s1.next (.cells [.i .i64 sh.cells[i].row, .i .i64 sh.cells[i].col, .s sh.cells[i].text, .i .i64 sh.cells[i].align, .i .i64 sh.cells[i].wrap, .i .i64 sh.cells[i].dir])) := by simp
      simp [El.sz, El.cells] at hat
      have hpre : (∀ (_ : 0 < i), ahS sh.cells[i - 1].row sh.cells[i - 1].col sh.cells[i].row sh.cells[i].col = true) ∨ ∃ (_ : 0 < i), ahS sh.cells[i - 1].row sh.cells[i - 1].col sh.cells[i].row sh.cells[i].col = false := by
        by_cases hz : 0 < i
        · by_cases ha : ahS sh.cells[i - 1].row sh.cells[i - 1].col sh.cells[i].row sh.cells[i].col = true
          · exact .inl fun _ => ha
          · exact .inr ⟨hz, by simpa using ha⟩
        · exact .inl fun h => absurd h hz
      rcases hpre with hpre | ⟨hz, hpre⟩
      rotate_left
      · -- it does not rise
        obtain ⟨i, rfl⟩ : ∃ j, i = j + 1 := ⟨i - 1, by omega⟩
        obtain ⟨id', off', lb', ex', he, _, _, hat2⟩ := (H1.le hle).c.el i (by omega)
        injection he with e5 e6
        rw [← e5, ← e6] at hat2
        have hat3 := rd_sub hat2 0 1 (by simp [El.sz])
        have hat4 := rd_sub hat2 1 1 (by simp [El.sz])
        simp [El.sz, El.cells] at hat3 hat4
        have e1 : ((i : Int) + 1).toNat = i + 1 := by omega
        have e2 : (0 : Int) ≤ i + 1 := by omega
        have e3 : (0 : Int) < i + 1 := by omega
        have e4 : (i : Int) + 1 < sh.cells.length := by omega
        have e7 : (i : Int) < sh.cells.length := by omega
        have e8 : i ≤ 9223372036854775807 := by omega
        simp at hpre
        simp [e1, e2, e3, e4, e7, hat, hat3, hat4, El.sz, hle.box, show s.next ≠ s1.next by omega, Nat.ne_of_lt hid, wr64_nat, e8, Ahead_ok, hpre]
        refine ⟨by omega, orderS_false (.inr (.inr (.inr (.inr (.inr (.inl fun hr => ?_)))))), hle.unbox.trans hle6⟩
        have := hr i (by omega)
        simp only [cw] at this
        rw [hpre] at this; simp at this
      -- it rises
      have hfin : ∀ s9, (boxS s sh vw vh (.sl id off sh.cells.length lb (El.sz Cell) ex) vm).Le s9 → emptyS sh.cells[i] = true → (orderS sh = false ∧ s.Le s9) := fun s9 hl he =>
        ⟨(orderS_false (.inr (.inr (.inr (.inr (.inr (.inr (.inl ⟨_, List.getElem_mem h, he⟩)))))))), hl.unbox⟩
      have hgo : emptyS sh.cells[i] = false → ∀ k (_ : k < i + 1) (h : k < sh.cells.length), emptyS sh.cells[k] = false ∧ ∀ (_ : 0 < k), ahS sh.cells[k - 1].row sh.cells[k - 1].col sh.cells[k].row sh.cells[k].col = true := by
        intro he k hk hk2
        rcases Nat.lt_succ_iff_lt_or_eq.1 hk with h5 | rfl
        · exact hp k h5 hk2
        · exact ⟨he, hpre⟩
      cases i with
      | zero =>
        simp at hat
        simp [h, hat, El.sz, hle.box, show s.next ≠ s1.next by omega]
        refine ⟨by omega, ?_⟩
        refine (Styled_ok _ _ _ _ _).useB (fun s2 hle2 h5 => ?_) (fun s2 hle2 h5 => ?_)
        · have h8 := fun off n => hle2.rd (id := s1.next) (by simp) off n
          simp at h8
          have hl2 := hle.trans (hle6.trans hle2)
          simp [h8]
          refine HK_dec (fun q1 => ?_) (fun q1 => ?_) <;> simp [q1, h8]
          · refine HK_dec (fun q2 => ?_) (fun q2 => ?_) <;> simp [q2, h8]
            · refine HK_dec (fun q3 => ?_) (fun q3 => ?_) <;> simp [q3, h8]
              · refine TestK_dec (fun q4 => ?_) (fun q4 => ?_) <;> simp
                · exact hfin _ hl2 (by simp [emptyS, q1, q2, q3, q4])
                · exact ⟨hl2, fun _ => by simp [emptyS, h5, q4]⟩
              · exact ⟨hl2, fun _ => by simp [emptyS, h5, q3]⟩
            · exact ⟨hl2, fun _ => by simp [emptyS, h5, q2]⟩
          · exact ⟨hl2, fun _ => by simp [emptyS, h5, q1]⟩
        · have hl2 := hle.trans (hle6.trans hle2)
          simp
          exact hfin _ hl2 (by simp [emptyS, h5])
      | succ i =>
        obtain ⟨id', off', lb', ex', he, _, _, hat2⟩ := (H1.le hle).c.el i (by omega)
        injection he with e5 e6
        rw [← e5, ← e6] at hat2
        have hat3 := rd_sub hat2 0 1 (by simp [El.sz])
        have hat4 := rd_sub hat2 1 1 (by simp [El.sz])
        simp [El.sz, El.cells] at hat3 hat4
        have e1 : ((i : Int) + 1).toNat = i + 1 := by omega
        have e2 : (0 : Int) ≤ i + 1 := by omega
        have e3 : (0 : Int) < i + 1 := by omega
        have e4 : (i : Int) + 1 < sh.cells.length := by omega
        have e7 : (i : Int) < sh.cells.length := by omega
        have e8 : i ≤ 9223372036854775807 := by omega
        simp at hpre
        simp [e1, e2, e3, e4, e7, hat, hat3, hat4, El.sz, hle.box, show s.next ≠ s1.next by omega, Nat.ne_of_lt hid, wr64_nat, e8, Ahead_ok, hpre]
        refine ⟨by omega, ?_⟩
        refine (Styled_ok _ _ _ _ _).useB (fun s2 hle2 h5 => ?_) (fun s2 hle2 h5 => ?_)
        · have h8 := fun off n => hle2.rd (id := s1.next) (by simp) off n
          simp at h8
          have hl2 := hle.trans (hle6.trans hle2)
          simp [h8]
          refine HK_dec (fun q1 => ?_) (fun q1 => ?_) <;> simp [q1, h8]
          · refine HK_dec (fun q2 => ?_) (fun q2 => ?_) <;> simp [q2, h8]
            · refine HK_dec (fun q3 => ?_) (fun q3 => ?_) <;> simp [q3, h8]
              · refine TestK_dec (fun q4 => ?_) (fun q4 => ?_) <;> simp
                · exact hfin _ hl2 (by simp [emptyS, q1, q2, q3, q4])
                · rw [wr64 (by omega) (by omega)]; exact ⟨h, rfl, hl2, hgo (by simp [emptyS, h5, q4])⟩
              · rw [wr64 (by omega) (by omega)]; exact ⟨h, rfl, hl2, hgo (by simp [emptyS, h5, q3])⟩
            · rw [wr64 (by omega) (by omega)]; exact ⟨h, rfl, hl2, hgo (by simp [emptyS, h5, q2])⟩
          · rw [wr64 (by omega) (by omega)]; exact ⟨h, rfl, hl2, hgo (by simp [emptyS, h5, q1])⟩
        · have hl2 := hle.trans (hle6.trans hle2)
          simp
          exact hfin _ hl2 (by simp [emptyS, h5])
    have g3 : ∀ k (h : k < sh.cells.length), emptyS sh.cells[k] = false := fun k hk => (hp k (by omega) hk).1
    have g4 : riseP cw sh.cells := fun k hk => (hp (k + 1) (by omega) hk).2 (by omega)
    clear hp
    simp [h, hle.box, H.c.len]
    clear h hi hn i
    refine LoopW_cnt sh.merges.length (fun i => (Tr.nil.set 7 (some (.i .i64 i))).set 1 (some (.p s.next 0))) (fun i s' => (boxS s sh vw vh vc vm).Le s' ∧ ∀ k (_ : k < i) (h : k < sh.merges.length), smallS sh.merges[k] = false ∧ ∀ (_ : 0 < k), ahS sh.merges[k - 1].row sh.merges[k - 1].col sh.merges[k].row sh.merges[k].col = true) ?_ (by simp) ⟨hle, by omega⟩
    rintro i s1 hi ⟨hle, hp⟩
    have hn := hle.lt
    by_cases h : i < sh.merges.length
    · obtain ⟨id, off, lb, ex, rfl, hid, hlb, hat0⟩ := (H1.le hle).m.el i h
      have hat := hat0
      have hle6 : s1.Le ((s1.alloc (.cells [z, z, z, z])).put s1.next (.cells [.i .i64 sh.merges[i].row, .i .i64 sh.merges[i].col, .i .i64 sh.merges[i].rows, .i .i64 sh.merges[i].cols])) := by simp
      simp [El.sz, El.cells] at hat
      have hpre : (∀ (_ : 0 < i), ahS sh.merges[i - 1].row sh.merges[i - 1].col sh.merges[i].row sh.merges[i].col = true) ∨ ∃ (_ : 0 < i), ahS sh.merges[i - 1].row sh.merges[i - 1].col sh.merges[i].row sh.merges[i].col = false := by
        by_cases hz : 0 < i
        · by_cases ha : ahS sh.merges[i - 1].row sh.merges[i - 1].col sh.merges[i].row sh.merges[i].col = true
          · exact .inl fun _ => ha
          · exact .inr ⟨hz, by simpa using ha⟩
        · exact .inl fun h => absurd h hz
      rcases hpre with hpre | ⟨hz, hpre⟩
      rotate_left
      · -- it does not rise
        obtain ⟨i, rfl⟩ : ∃ j, i = j + 1 := ⟨i - 1, by omega⟩
        obtain ⟨id', off', lb', ex', he, _, _, hat2⟩ := (H1.le hle).m.el i (by omega)
        injection he with e5 e6
        rw [← e5, ← e6] at hat2
        have hat3 := rd_sub hat2 0 1 (by simp [El.sz])
        have hat4 := rd_sub hat2 1 1 (by simp [El.sz])
        simp [El.sz, El.cells] at hat3 hat4
        have e1 : ((i : Int) + 1).toNat = i + 1 := by omega
        have e2 : (0 : Int) ≤ i + 1 := by omega
        have e3 : (0 : Int) < i + 1 := by omega
        have e4 : (i : Int) + 1 < sh.merges.length := by omega
        have e7 : (i : Int) < sh.merges.length := by omega
        have e8 : i ≤ 9223372036854775807 := by omega
        simp at hpre
        simp [e1, e2, e3, e4, e7, hat, hat3, hat4, El.sz, hle.box, show s.next ≠ s1.next by omega, Nat.ne_of_lt hid, wr64_nat, e8, Ahead_ok, hpre]
        refine ⟨by omega, orderS_false (.inr (.inr (.inr (.inr (.inr (.inr (.inr (.inl fun hr => ?_)))))))), hle.unbox.trans hle6⟩
        have := hr i (by omega)
        simp only [rw_] at this
        rw [hpre] at this; simp at this
      -- it rises
      have hfin : ∀ s9, (boxS s sh vw vh vc (.sl id off sh.merges.length lb (El.sz Rect) ex)).Le s9 → smallS sh.merges[i] = true → (orderS sh = false ∧ s.Le s9) := fun s9 hl he =>
        ⟨(orderS_false (.inr (.inr (.inr (.inr (.inr (.inr (.inr (.inr ⟨_, List.getElem_mem h, he⟩))))))))), hl.unbox⟩
      have hgo : smallS sh.merges[i] = false → ∀ k (_ : k < i + 1) (h : k < sh.merges.length), smallS sh.merges[k] = false ∧ ∀ (_ : 0 < k), ahS sh.merges[k - 1].row sh.merges[k - 1].col sh.merges[k].row sh.merges[k].col = true := by
        intro he k hk hk2
        rcases Nat.lt_succ_iff_lt_or_eq.1 hk with h5 | rfl
        · exact hp k h5 hk2
        · exact ⟨he, hpre⟩
      have hl2 := hle.trans hle6
      cases i with
      | zero =>
        simp at hat
        simp [h, hat, El.sz, hle.box, show s.next ≠ s1.next by omega]
        refine ⟨by omega, ?_⟩
        refine HK_dec (fun q1 => ?_) (fun q1 => ?_) <;> simp [q1]
        · exact hfin _ hl2 (by simp [smallS, q1])
        · refine HK_dec (fun q2 => ?_) (fun q2 => ?_) <;> simp [q2]
          · exact hfin _ hl2 (by simp [smallS, q2])
          · refine HK_dec (fun q3 => ?_) (fun q3 => ?_)
            · simp [eq_true q3]
              refine TestK_dec (fun q4 => ?_) (fun q4 => ?_) <;> simp
              · exact hfin _ hl2 (by simp [smallS, q3, q4])
              · exact ⟨hl2, fun _ => by simp [smallS, q1, q2, q4]⟩
            · simp [q3]
              exact ⟨hl2, fun _ => by simp [smallS, q1, q2, q3]⟩
      | succ i =>
        obtain ⟨id', off', lb', ex', he, _, _, hat2⟩ := (H1.le hle).m.el i (by omega)
        injection he with e5 e6
        rw [← e5, ← e6] at hat2
        have hat3 := rd_sub hat2 0 1 (by simp [El.sz])
        have hat4 := rd_sub hat2 1 1 (by simp [El.sz])
        simp [El.sz, El.cells] at hat3 hat4
        have e1 : ((i : Int) + 1).toNat = i + 1 := by omega
        have e2 : (0 : Int) ≤ i + 1 := by omega
        have e3 : (0 : Int) < i + 1 := by omega
        have e4 : (i : Int) + 1 < sh.merges.length := by omega
        have e7 : (i : Int) < sh.merges.length := by omega
        have e8 : i ≤ 9223372036854775807 := by omega
        simp at hpre
        simp [e1, e2, e3, e4, e7, hat, hat3, hat4, El.sz, hle.box, show s.next ≠ s1.next by omega, Nat.ne_of_lt hid, wr64_nat, e8, Ahead_ok, hpre]
        refine ⟨by omega, ?_⟩
        refine HK_dec (fun q1 => ?_) (fun q1 => ?_) <;> simp [q1]
        · exact hfin _ hl2 (by simp [smallS, q1])
        · refine HK_dec (fun q2 => ?_) (fun q2 => ?_) <;> simp [q2]
          · exact hfin _ hl2 (by simp [smallS, q2])
          · refine HK_dec (fun q3 => ?_) (fun q3 => ?_)
            · simp [eq_true q3]
              refine TestK_dec (fun q4 => ?_) (fun q4 => ?_) <;> simp
              · exact hfin _ hl2 (by simp [smallS, q3, q4])
              · rw [wr64 (by omega) (by omega)]; exact ⟨h, rfl, hl2, hgo (by simp [smallS, q1, q2, q4])⟩
            · simp [q3]
              rw [wr64 (by omega) (by omega)]; exact ⟨h, rfl, hl2, hgo (by simp [smallS, q1, q2, q3])⟩
    have g5 : ∀ k (h : k < sh.merges.length), smallS sh.merges[k] = false := fun k hk => (hp k (by omega) hk).1
    have g6 : riseP rw_ sh.merges := fun k hk => (hp (k + 1) (by omega) hk).2 (by omega)
    simp [h, hle.box, H.m.len]
    exact ⟨orderS_true h0 h1 h2 g1 g2 g4 g3 g6 g5, hle.unbox⟩
end VE

namespace VE
open Go

structure I64Sh (sh : Sheet) : Prop where
  right : I64 sh.right
  m : ∀ r ∈ sh.merges, I64R r
  c : ∀ c ∈ sh.cells, I64 c.row ∧ I64 c.col

theorem Around_ok (lo : Nat) (s : St) (hlo : lo ≤ s.next) {vw vh vc vm : V} {sh : Sheet} (H : RdSh s vw vh vc vm sh) (hI : ∀ r ∈ sh.merges, I64R r) {row col : Int} (hr : I64 row) (hc : I64 col) :
    CallW lo k_ref21_Around [shV sh vw vh vc vm, .i .i64 row, .i .i64 col] s (Ret s (rectV (aroundS sh row col))) := by
  refine CallK_of T_ref21_Around rfl ?_
  have hbm := H.m.bound
  have H1 := H.le (s' := boxS s sh vw vh vc vm) (by simp)
  simp [f_ref21_Around]
  refine LoopW_cnt sh.merges.length (fun i => ((((Tr.nil.set 7 (some (.i .i64 i))).set 6 (some (.p (s.next + 1) 0))).set 3 (some (.p s.next 0))).set 2 (some (.i .i64 col))).set 1 (some (.i .i64 row)))
    (fun i s' => ((boxS s sh vw vh vc vm).alloc (.cells [z, z, z, z])).Le s' ∧ ∀ k (_ : k < i) (h : k < sh.merges.length), meetS sh.merges[k] ⟨row, col, 1, 1⟩ = false) ?_ (by simp) ⟨.refl _, by omega⟩
  rintro i s1 hi ⟨hle, hp⟩
  have hle0 := hle.unbox
  have hn := hle.lt
  have h3 := hle.cellsAt (id := s.next + 1) (by simp)
  simp at h3 hn
  by_cases h : i < sh.merges.length
  · obtain ⟨id, off, lb, ex, rfl, hid, hlb, hat⟩ := (H1.le hle0).m.el i h
    simp [El.sz, El.cells] at hat
    simp [h, hat, El.sz, hle0.box]
    have e := covers_meet (hI _ (List.getElem_mem h)) hr hc
    refine (Covers_ok _ _ sh.merges[i] _ _).useB (fun s2 hle2 h5 => ?_) (fun s2 hle2 h5 => ?_)
    · have h4 := hle2.cellsAt (id := s.next + 1) (by omega)
      rw [h3] at h4
      have hat2 := (hle2.rd hid (off + i * 4) 4).trans hat
      have ea : aroundS sh row col = sh.merges[i] := by
        unfold aroundS
        have : sh.merges.find? (fun r => meetS r ⟨row, col, 1, 1⟩) = some sh.merges[i] := by
          rw [List.find?_eq_some_iff_getElem]
          exact ⟨by rw [← e]; exact h5, i, h, rfl, fun j hj => by rw [hp j hj (by omega)]; rfl⟩
        rw [this]; rfl
      simp [(hle0.trans hle2).box, h, hat2, h4, ea, El.sz]
      exact ⟨by omega, St.Le.put (hle0.unbox.trans hle2) _ (by omega)⟩
    · simp
      rw [wr64 (by omega) (by omega)]
      refine ⟨rfl, hle.trans hle2, ?_⟩
      intro k hk hk2
      rcases Nat.lt_succ_iff_lt_or_eq.1 hk with h6 | rfl
      · exact hp k h6 hk2
      · rw [← e]; exact h5
  · have ea : aroundS sh row col = ⟨row, col, 1, 1⟩ := by
      unfold aroundS
      have : sh.merges.find? (fun r => meetS r ⟨row, col, 1, 1⟩) = none := by
        rw [List.find?_eq_none]
        intro r hr
        obtain ⟨k, hk, rfl⟩ := List.getElem_of_mem hr
        rw [hp k (by omega) hk]; simp
      rw [this]; rfl
    simp [h, hle0.box, H.m.len, h3, ea]
    exact ⟨by omega, St.Le.put hle0.unbox _ (by omega)⟩

/-- A cell that lies in the sheet. -/
theorem has_one {sh : Sheet} {vw : V} {s : St} {vh : V} (Hw : RdS s vw sh.widths) (Hh : RdS s vh sh.heights) (row col : Int) :
    hasS sh ⟨row, col, 1, 1⟩ = (decide (0 ≤ row) && (decide (0 ≤ col) && (decide (row < sh.heights.length) && decide (col < sh.widths.length)))) := by
  have b1 := Hw.bound
  have b2 := Hh.bound
  unfold hasS
  simp only
  rw [wr64 (by omega) (by omega), wr64 (by omega) (by omega), Bool.eq_iff_iff]
  simp; omega

set_option maxRecDepth 10000 in
set_option maxHeartbeats 1000000 in
theorem RCheck_ok (lo : Nat) (s : St) (hlo : lo ≤ s.next) {vw vh vc vm : V} {sh : Sheet} (H : RdSh s vw vh vc vm sh) (hI : I64Sh sh) : CallW lo k_ref21_Check [shV sh vw vh vc vm] s (Ret s (.i .i64 (checkS sh))) := by
  refine CallK_of T_ref21_Check rfl ?_
  have hbc := H.c.bound
  have hbm := H.m.bound
  have H1 := H.le (s' := boxS s sh vw vh vc vm) (by simp)
  simp [f_ref21_Check]
  refine (Limits_ok _ _ H1).useB (fun s1 hle h1 => ?_) (fun s1 hle h1 => ?_) <;> simp [h1, hle.box, hle.unbox, checkS]
  have hn := hle.lt
  refine (Order_ok _ _ (by omega) (H1.le hle)).useB (fun s2 hle2 h2 => ?_) (fun s2 hle2 h2 => ?_) <;> simp [h2, (hle.trans hle2).unbox]
  replace hle := hle.trans hle2; clear hle2 hn
  refine LoopW_cnt sh.cells.length (fun i => (Tr.nil.set 3 (some (.i .i64 i))).set 1 (some (.p s.next 0))) (fun i s' => (boxS s sh vw vh vc vm).Le s' ∧ ∀ k (_ : k < i) (h : k < sh.cells.length), hasS sh ⟨sh.cells[k].row, sh.cells[k].col, 1, 1⟩ = true) ?_ (by simp) ⟨hle, by omega⟩
  rintro i s3 hi ⟨hle, hp⟩
  have hn := hle.lt
  by_cases h : i < sh.cells.length
  · obtain ⟨id, off, lb, ex, rfl, hid, hlb, hat⟩ := (H1.le hle).c.el i h
    have hle6 : s3.Le ((s3.alloc (.cells [z, z, .s [], z, z, z])).put s3.next (.cells [.i .i64 sh.cells[i].row, .i .i64 sh.cells[i].col, .s sh.cells[i].text, .i .i64 sh.cells[i].align, .i .i64 sh.cells[i].wrap, .i .i64 sh.cells[i].dir])) := by simp
    have ho := has_one H.w H.h sh.cells[i].row sh.cells[i].col
    have hbad : hasS sh ⟨sh.cells[i].row, sh.cells[i].col, 1, 1⟩ = false → outC sh = true := fun e => any_idx_true h (by simp [e])
    have hgood : hasS sh ⟨sh.cells[i].row, sh.cells[i].col, 1, 1⟩ = true → ∀ k (_ : k < i + 1) (h : k < sh.cells.length), hasS sh ⟨sh.cells[k].row, sh.cells[k].col, 1, 1⟩ = true := by
      intro he k hk hk2
      rcases Nat.lt_succ_iff_lt_or_eq.1 hk with h6 | rfl
      · exact hp k h6 hk2
      · exact he
    have hl6 := hle.trans hle6
    simp [El.sz, El.cells] at hat
    simp [h, hat, El.sz, show s.next ≠ s3.next by omega, hle.box]
    refine ⟨by omega, ?_⟩
    refine GK_dec (fun q1 => ?_) (fun q1 => ?_) <;> simp [q1, show s.next ≠ s3.next by omega, hle.box, H.h.len, H.w.len]
    · have := hbad (by rw [ho]; simp; omega)
      simp [this, hl6.unbox]
    refine GK_dec (fun q2 => ?_) (fun q2 => ?_) <;> simp [q2, show s.next ≠ s3.next by omega, hle.box, H.h.len, H.w.len]
    · have := hbad (by rw [ho]; simp; omega)
      simp [this, hl6.unbox]
    refine GK_dec (fun q3 => ?_) (fun q3 => ?_) <;> simp [q3, show s.next ≠ s3.next by omega, hle.box, H.h.len, H.w.len]
    · have := hbad (by rw [ho]; simp; omega)
      simp [this, hl6.unbox]
    refine TestK_dec (fun q4 => ?_) (fun q4 => ?_) <;> simp
    · have := hbad (by rw [ho]; simp; omega)
      simp [this, hl6.unbox]
    · rw [wr64 (by omega) (by omega)]
      exact ⟨rfl, hl6, hgood (by rw [ho]; simp; omega)⟩
  have e1 : outC sh = false := any_idx fun k hk => by simp [hp k (by omega) hk]
  clear hp
  simp [h, hle.box, H.c.len, e1]
  clear h hi hn i
  refine LoopW_cnt sh.merges.length (fun i => (Tr.nil.set 5 (some (.i .i64 i))).set 1 (some (.p s.next 0))) (fun i s' => (boxS s sh vw vh vc vm).Le s' ∧ ∀ k (_ : k < i) (h : k < sh.merges.length), hasS sh sh.merges[k] = true) ?_ (by simp) ⟨hle, by omega⟩
  rintro i s4 hi ⟨hle, hp⟩
  have hn := hle.lt
  by_cases h : i < sh.merges.length
  · obtain ⟨id, off, lb, ex, rfl, hid, hlb, hat⟩ := (H1.le hle).m.el i h
    simp [El.sz, El.cells] at hat
    simp [h, hat, El.sz, hle.box]
    refine (there_ok _ _ (H.le hle.unbox) sh.merges[i]).useB (fun s5 hle5 h5 => ?_) (fun s5 hle5 h5 => ?_) <;> simp
    · rw [wr64 (by omega) (by omega)]
      refine ⟨rfl, hle.trans hle5, ?_⟩
      intro k hk hk2
      rcases Nat.lt_succ_iff_lt_or_eq.1 hk with h6 | rfl
      · exact hp k h6 hk2
      · exact h5
    · have : outM sh = true := any_idx_true h (by simp [h5])
      simp [this, (hle.trans hle5).unbox]
  have e2 : outM sh = false := any_idx fun k hk => by simp [hp k (by omega) hk]
  clear hp
  simp [h, hle.box, H.m.len, e2]
  clear h hi hn i
  refine LoopW_cnt sh.merges.length (fun i => (Tr.nil.set 6 (some (.i .i64 i))).set 1 (some (.p s.next 0))) (fun i s' => (boxS s sh vw vh vc vm).Le s' ∧ ∀ k (_ : k < i), ovAt sh.merges k = false) ?_ (by simp) ⟨hle, by omega⟩
  rintro i s4 hi ⟨hle, hp⟩
  have hn := hle.lt
  by_cases h : i < sh.merges.length
  · simp [h, hle.box, H.m.len]
    refine LoopW_cnt i (fun k => ((Tr.nil.set 7 (some (.i .i64 k))).set 6 (some (.i .i64 i))).set 1 (some (.p s.next 0))) (fun k s' => (boxS s sh vw vh vc vm).Le s' ∧ ∀ j (_ : j < k) (h : j < sh.merges.length), meetS sh.merges[j] sh.merges[i] = false) ?_ (by simp) ⟨hle, by omega⟩
    clear hn hle
    rintro k s5 hk ⟨hle, hq⟩
    have hn := hle.lt
    by_cases h' : k < i
    · obtain ⟨id, off, lb, ex, rfl, hid, hlb, hat⟩ := (H1.le hle).m.el i h
      obtain ⟨id', off', lb', ex', he, _, _, hat2⟩ := (H1.le hle).m.el k (by omega)
      injection he with e5 e6
      rw [← e5, ← e6] at hat2
      simp [El.sz, El.cells] at hat hat2
      simp [h, h', hat, hat2, El.sz, hle.box, show (k : Int) < sh.merges.length by omega]
      have ia := hI.m _ (List.getElem_mem h)
      have ib := hI.m sh.merges[k] (List.getElem_mem _)
      refine (Meet_ok _ _ ia ib).useB (fun s6 hle6 h5 => ?_) (fun s6 hle6 h5 => ?_) <;> simp
      · have e3 : overlapS sh.merges = true := by
          refine any_range_true h ?_
          rw [ovAt, List.getElem?_eq_getElem h]
          simp only
          rw [List.any_eq_true]
          refine ⟨sh.merges[k], ?_, by rw [meetS_comm ib ia]; exact h5⟩
          rw [List.mem_take_iff_getElem]
          exact ⟨k, by omega, rfl⟩
        simp [e3, (hle.trans hle6).unbox]
      · rw [wr64 (by omega) (by omega)]
        refine ⟨rfl, hle.trans hle6, ?_⟩
        intro j hj hj2
        rcases Nat.lt_succ_iff_lt_or_eq.1 hj with h6 | rfl
        · exact hq j h6 hj2
        · rw [meetS_comm ib ia]; exact h5
    · simp [h']
      rw [wr64 (by omega) (by omega)]
      refine ⟨rfl, hle, ?_⟩
      intro j hj
      rcases Nat.lt_succ_iff_lt_or_eq.1 hj with h6 | rfl
      · exact hp j h6
      · rw [ovAt, List.getElem?_eq_getElem h]
        simp only
        rw [List.any_eq_false]
        intro x hx
        rw [List.mem_take_iff_getElem] at hx
        obtain ⟨a, ha, rfl⟩ := hx
        rw [hq a (by omega) (by omega)]; simp
  have e3 : overlapS sh.merges = false := any_range fun k hk => hp k (by omega)
  clear hp
  simp [h, hle.box, H.m.len, e3]
  clear h hi hn i
  refine LoopW_cnt sh.cells.length (fun i => (Tr.nil.set 8 (some (.i .i64 i))).set 1 (some (.p s.next 0))) (fun i s' => (boxS s sh vw vh vc vm).Le s' ∧ ∀ k (_ : k < i) (h : k < sh.cells.length), underAt sh sh.cells[k] = false) ?_ (by simp) ⟨hle, by omega⟩
  rintro i s4 hi ⟨hle, hp⟩
  have hn := hle.lt
  by_cases h : i < sh.cells.length
  · obtain ⟨id, off, lb, ex, rfl, hid, hlb, hat⟩ := (H1.le hle).c.el i h
    have hat3 := rd_sub hat 0 1 (by simp [El.sz])
    have hat4 := rd_sub hat 1 1 (by simp [El.sz])
    simp [El.sz, El.cells] at hat3 hat4
    simp [h, hat3, hat4, El.sz, hle.box]
    obtain ⟨i1, i2⟩ := hI.c _ (List.getElem_mem h)
    refine (Around_ok _ _ (by omega) (H.le hle.unbox) hI.m i1 i2).use fun s5 hle5 => ?_
    have hat5 := (hle5.rd hid _ _).trans hat3
    have hat6 := (hle5.rd hid _ _).trans hat4
    have hl5 := hle.trans hle5
    have hn5 := hle5.next
    simp [rectV, hl5.box, El.sz, h, hat5, hat6, show s.next ≠ s5.next by omega, show id ≠ s5.next by omega]
    refine ⟨by omega, ?_⟩
    have hl6 : s5.Le ((s5.alloc (.cells [z, z, z, z])).put s5.next (.cells [.i .i64 (aroundS sh sh.cells[i].row sh.cells[i].col).row, .i .i64 (aroundS sh sh.cells[i].row sh.cells[i].col).col, .i .i64 (aroundS sh sh.cells[i].row sh.cells[i].col).rows, .i .i64 (aroundS sh sh.cells[i].row sh.cells[i].col).cols])) := by simp
    have e9 : underAt sh sh.cells[i] = !(decide (sh.cells[i].row = (aroundS sh sh.cells[i].row sh.cells[i].col).row) && decide (sh.cells[i].col = (aroundS sh sh.cells[i].row sh.cells[i].col).col)) := rfl
    by_cases q1 : (aroundS sh sh.cells[i].row sh.cells[i].col).row = sh.cells[i].row
    · simp [eq_true q1, hl5.box, El.sz, h, hat6, show s.next ≠ s5.next by omega, show id ≠ s5.next by omega]
      by_cases q2 : (aroundS sh sh.cells[i].row sh.cells[i].col).col = sh.cells[i].col
      · simp [eq_true q2]
        rw [wr64 (by omega) (by omega)]
        refine ⟨rfl, hl5.trans hl6, ?_⟩
        intro k hk hk2
        rcases Nat.lt_succ_iff_lt_or_eq.1 hk with h3 | rfl
        · exact hp k h3 hk2
        · rw [e9]; simp [q1, q2]
      · have e0 : underS sh = true := any_idx_true h (by rw [e9]; simp [q1, Ne.symm q2])
        simp [q2, e0, hl5.unbox.trans hl6]
    · have e0 : underS sh = true := any_idx_true h (by rw [e9]; simp [Ne.symm q1])
      simp [q1, e0, hl5.unbox.trans hl6]
  have e4 : underS sh = false := any_idx fun k hk => hp k (by omega) hk
  simp [h, hle.box, H.c.len, e4, hle.unbox]

theorem RMay_ok (lo : Nat) (s : St) (hlo : lo ≤ s.next) {vw vh vc vm : V} {sh : Sheet} (H : RdSh s vw vh vc vm sh) (hI : I64Sh sh) (w h u v : Int) :
    CallW lo k_ref25_May [.ag [.i .i64 sh.right, vw, vh, vc, vm, .i .i64 w, .i .i64 h, .i .i64 u, .i .i64 v]] s (Ret s (.i .i64 (gMayS sh w h u v))) := by
  refine CallK_of T_ref25_May rfl ?_
  simp [f_ref25_May]
  refine (RCheck_ok _ _ (by simp; omega) (H.le (by simp)) hI).use fun s1 hle => ?_
  simp
  refine TestK_ite (fun h1 => ?_) (fun h1 => ?_) <;> simp at h1 <;> simp [h1, gMayS, hle.unbox, hle.box]
  refine GK_dec (fun h => ?_) (fun h => ?_) <;> simp [h, mayS, hle.unbox, hle.box]
  refine GK_dec (fun h => ?_) (fun h => ?_) <;> simp [h, hle.unbox, hle.box]
  refine GK_dec (fun h => ?_) (fun h => ?_) <;> simp [h, hle.unbox, hle.box]
  refine GK_dec (fun h => ?_) (fun h => ?_) <;> simp [h, hle.unbox, hle.box]
  refine GK_dec (fun q1 => ?_) (fun q1 => ?_) <;> simp [q1, hle.unbox, hle.box]
  · omega
  refine GK_dec (fun q2 => ?_) (fun q2 => ?_) <;> simp [q2, hle.unbox, hle.box]
  · omega
  refine GK_dec (fun q3 => ?_) (fun q3 => ?_) <;> simp [q3, hle.unbox, hle.box]
  · omega
  refine TestK_dec (fun q4 => ?_) (fun q4 => ?_) <;> simp [q4, hle.unbox, hle.box] <;> omega
end VE

namespace VE
open Go

theorem numbers_ok (lo : Nat) (s : St) {v w : V} {l : List Int} (H : RdS s v l) (G : RdS s w l) (K : V → St → Prop) : CallW lo k_ref21_numbers [v, w] s K = K (.b true) s := by
  refine CallW_eq (CallK_of T_ref21_numbers rfl ?_) K
  have hb := H.bound
  simp [f_ref21_numbers, H.len, G.len]
  refine LoopW_cnt l.length (fun i => ((Tr.nil.set 5 (some (.i .i64 i))).set 1 (some w)).set 0 (some v)) (fun _ s' => s' = s) ?_ (by simp) rfl
  rintro i s1 hi rfl
  by_cases h : i < l.length
  · obtain ⟨id, off, lb, ex, rfl, hid, hlb, hat⟩ := H.el i h
    obtain ⟨id', off', lb', ex', rfl, hid', hlb', hat'⟩ := G.el i h
    simp [El.sz, El.cells] at hat hat'
    simp [h, hat, hat', El.sz]
    rw [wr64 (by omega) (by omega)]
  · simp [h, H.len]

theorem Rects_ok (lo : Nat) (s : St) {v w : V} {l : List Rect} (H : RdS s v l) (G : RdS s w l) (K : V → St → Prop) : CallW lo k_ref21_Rects [v, w] s K = K (.b true) s := by
  refine CallW_eq (CallK_of T_ref21_Rects rfl ?_) K
  have hb := H.bound
  simp [f_ref21_Rects, H.len, G.len]
  refine LoopW_cnt l.length (fun i => ((Tr.nil.set 5 (some (.i .i64 i))).set 1 (some w)).set 0 (some v)) (fun _ s' => s' = s) ?_ (by simp) rfl
  rintro i s1 hi rfl
  by_cases h : i < l.length
  · obtain ⟨id, off, lb, ex, rfl, hid, hlb, hat⟩ := H.el i h
    obtain ⟨id', off', lb', ex', rfl, hid', hlb', hat'⟩ := G.el i h
    simp [El.sz, El.cells] at hat hat'
    simp [h, hat, hat', El.sz]
    rw [wr64 (by omega) (by omega)]
  · simp [h, H.len]

theorem RSame_ok (lo : Nat) (s : St) {vw vh vc vm ww wh wc wm : V} {sh : Sheet} (H : RdSh s vw vh vc vm sh) (G : RdSh s ww wh wc wm sh) :
    CallW lo k_ref21_Same [shV sh vw vh vc vm, shV sh ww wh wc wm] s (Ret s (.b true)) := by
  refine CallK_of T_ref21_Same rfl ?_
  have hb := H.c.bound
  have H1 := H.le (s' := (boxS s sh vw vh vc vm).alloc (.cells [.i .i64 sh.right, ww, wh, wc, wm])) (by simp)
  have G1 := G.le (s' := (boxS s sh vw vh vc vm).alloc (.cells [.i .i64 sh.right, ww, wh, wc, wm])) (by simp)
  simp [f_ref21_Same, numbers_ok _ _ H1.w G1.w, numbers_ok _ _ H1.h G1.h, Rects_ok _ _ H1.m G1.m, H.c.len, G.c.len]
  refine LoopW_cnt sh.cells.length (fun i => ((Tr.nil.set 5 (some (.i .i64 i))).set 3 (some (.p (s.next + 1) 0))).set 2 (some (.p s.next 0))) (fun _ s' => s' = (boxS s sh vw vh vc vm).alloc (.cells [.i .i64 sh.right, ww, wh, wc, wm])) ?_ (by simp) rfl
  rintro i s1 hi rfl
  by_cases h : i < sh.cells.length
  · obtain ⟨id, off, lb, ex, rfl, hid, hlb, hat⟩ := H.c.el i h
    obtain ⟨id', off', lb', ex', rfl, hid', hlb', hat'⟩ := G.c.el i h
    simp [El.sz, El.cells] at hat hat'
    simp [h, hat, hat', El.sz, Nat.ne_of_lt hid, Nat.ne_of_lt hid', show id ≠ s.next + 1 by omega, show id' ≠ s.next + 1 by omega]
    rw [wr64 (by omega) (by omega)]
  · simp [h, H.c.len]

/-- From a block on all is as it was. -/
structure St.Ab (n : Nat) (s s' : St) : Prop where
  next : s.next ≤ s'.next
  get : ∀ id, n ≤ id → id < s.next → s'.heap.get id = s.heap.get id
theorem St.Le.ab {s s' : St} (h : s.Le s') (n : Nat) : s.Ab n s' := ⟨h.next, fun id _ => h.get id⟩
theorem St.Ab.trans {n : Nat} {s s1 s2 : St} (h : s.Ab n s1) (h' : s1.Ab n s2) : s.Ab n s2 :=
  ⟨Nat.le_trans h.next h'.next, fun id h0 hi => (h'.get id h0 (Nat.lt_of_lt_of_le hi h.next)).trans (h.get id h0 hi)⟩
theorem St.Ab.put {n : Nat} {s s1 : St} (h : s.Ab n s1) {k : Nat} (hk : k < n) (o : VO) : s.Ab n (s1.put k o) :=
  ⟨h.next, fun id h0 hi => by rw [get_put, if_neg (by omega)]; exact h.get id h0 hi⟩
theorem St.Ab.mono {n m : Nat} {s s1 : St} (h : s.Ab n s1) (hm : n ≤ m) : s.Ab m s1 := ⟨h.next, fun id h0 => h.get id (by omega)⟩
theorem RdS.ab {α : Type} [El α] {s s' : St} {id off len lb sz n : Nat} {ex : Bool} {l : List α} (H : RdS s (.sl id off len lb sz ex) l) (hn : n ≤ id) (h : s.Ab n s') : RdS s' (.sl id off len lb sz ex) l := by
  rcases H with ⟨h, _⟩ | ⟨id', off', lb', ex', h1, h2, h3, h4⟩
  · simp at h
  · injection h1 with e1
    refine .inr ⟨id', off', lb', ex', by simp_all, Nat.lt_of_lt_of_le h2 h.next, h3, ?_⟩
    rw [rd_congr (h.get id' (by omega) h2)]; exact h4

theorem AK_copy2 [Pg] {α : Type} [El α] {lo l' : Nat} {fr : Fr} {s : St} {st : List Kt} {Q : Qt} {t : Tl} {d : Option Nat} {z : List V} {sz bytes id off : Nat} {v : V} {l : List α} (H : RdS s v l) (hsz : sz = El.sz α) (hlt : id < s.next) (hid : ∃ cs, s.rd id off 0 = some cs) (hb : bytes ≤ 1024) (hl : l.length * bytes ≤ 140737488355328)
    (hk : ∀ v' s', s.Le s' → RdS s' v' l → (∀ s'' , s'.Ab id s'' → RdS s'' v' l) → TK lo t (putD fr d (some v')) s' st Q) : AK l' false z sz bytes (some (.sl id off 0 0 sz true)) (some v) d lo t fr s st Q := by
  subst hsz
  obtain ⟨v', s', h1, h2⟩ := append_copy (lo := l') (z := z) H hid hb hl
  rw [AK_some _ _ _ _ _ _ h1]
  rcases h2 with ⟨rfl, rfl, rfl⟩ | ⟨_, rfl, rfl⟩
  · obtain ⟨cs, hcs⟩ := hid
    have R := RdS.empty (α := α) (ex := true) hlt hcs
    exact hk _ _ (.refl _) R fun s'' h1 => R.ab (Nat.le_refl _) h1
  · have R := RdS.fresh s l l.length false (Nat.le_refl _) H.bound
    exact hk _ _ (by simp [St.Le.alloc, St.Le.refl]) R fun s'' h1 => R.ab (by omega) h1

structure FitSh (sh : Sheet) : Prop where
  w : sh.widths.length * 8 ≤ 140737488355328
  h : sh.heights.length * 8 ≤ 140737488355328
  c : sh.cells.length * 56 ≤ 140737488355328
  m : sh.merges.length * 32 ≤ 140737488355328

theorem ROwn_ok (lo : Nat) (s : St) (hlo : lo ≤ s.next) {vw vh vc vm : V} {sh : Sheet} (H : RdSh s vw vh vc vm sh) (hF : FitSh sh) :
    CallW lo k_ref21_Own [shV sh vw vh vc vm] s fun v s' => ∃ ww wh wc wm, v = shV sh ww wh wc wm ∧ s.Le s' ∧ ∀ s'', s'.Ab s.next s'' → RdSh s'' ww wh wc wm sh := by
  refine CallK_of T_ref21_Own rfl ?_
  simp [f_ref21_Own]
  refine AK_copy2 (α := Int) (H.w.le (by simp (maxDischargeDepth := 9))) rfl (by simp) ⟨[], by simp⟩ (by omega) hF.w (fun w1 s1 hle1 R1 P1 => ?_)
  have b1 := fun off n => hle1.rd (id := s.next) (by simp) off n
  have c1 := hle1.cellsAt (id := s.next + 1) (by simp)
  have n1 := hle1.next
  have l1 : s.Le s1 := hle1.unbox.unbox.unbox
  simp at b1 c1 n1
  simp [b1, show s.next ≠ s1.next by omega, show s1.next ≠ s.next by omega]
  refine AK_copy2 (α := Int) (H.h.le (l1.alloc _)) rfl (by simp) ⟨[], by simp⟩ (by omega) hF.h (fun w2 s2 hle2 R2 P2 => ?_)
  have b2 := fun off n => hle2.rd (id := s.next) (by simp; omega) off n
  have c2 := hle2.cellsAt (id := s.next + 1) (by simp; omega)
  have n2 := hle2.next
  have l2 := l1.trans hle2.unbox
  simp [b1, c1, show s.next ≠ s1.next by omega, show s.next + 1 ≠ s1.next by omega] at b2 c2 n2
  simp [b2, show s.next ≠ s2.next by omega, show s2.next ≠ s.next by omega, show s1.next ≠ s.next by omega]
  refine AK_copy2 (α := Cell) (H.c.le (l2.alloc _)) rfl (by simp) ⟨[], by simp⟩ (by omega) hF.c (fun w3 s3 hle3 R3 P3 => ?_)
  have b3 := fun off n => hle3.rd (id := s.next) (by simp; omega) off n
  have c3 := hle3.cellsAt (id := s.next + 1) (by simp; omega)
  have n3 := hle3.next
  have l3 := l2.trans hle3.unbox
  simp [b2, c2, show s.next ≠ s2.next by omega, show s.next + 1 ≠ s2.next by omega] at b3 c3 n3
  simp [b3, show s.next ≠ s3.next by omega, show s3.next ≠ s.next by omega, show s2.next ≠ s.next by omega, show s1.next ≠ s.next by omega]
  refine AK_copy2 (α := Rect) (H.m.le (l3.alloc _)) rfl (by simp) ⟨[], by simp⟩ (by omega) hF.m (fun w4 s4 hle4 R4 P4 => ?_)
  have c4 := hle4.cellsAt (id := s.next + 1) (by simp; omega)
  have n4 := hle4.next
  have l4 := l3.trans hle4.unbox
  simp [c3, show s.next + 1 ≠ s3.next by omega] at c4 n4
  have L3 : s3.Le s4 := hle4.unbox
  have L2 : s2.Le s4 := hle3.unbox.trans L3
  have L1 : s1.Le s4 := hle2.unbox.trans L2
  simp [c4, R1.cells1, R2.cells1, R3.cells1, R4.cells1, R1.ok, R2.ok, R3.ok, R4.ok]
  refine ⟨by omega, ⟨R1.ok, R2.ok, R3.ok, R4.ok⟩, _, _, _, _, ⟨rfl, rfl, rfl, rfl⟩, St.Le.put l4 _ (by omega), fun s9 h9 => ?_⟩
  have A4 : s4.Ab (s.next + 1 + 1) s9 := by
    have h8 : s4.Ab (s.next + 1 + 1) (s4.put (s.next + 1) (.cells (shCells sh w1 w2 w3 w4))) := ((St.Le.refl s4).ab _).put (by omega) _
    exact h8.trans (h9.mono (by omega))
  exact ⟨P1 _ ((L1.ab _).trans A4), P2 _ (((L2.ab _).trans A4).mono (by omega)), P3 _ (((L3.ab _).trans A4).mono (by omega)), P4 _ (A4.mono (by omega))⟩

abbrev vwV (sh : Sheet) (vw vh vc vm : V) (w h u v : Int) : V := .ag [.i .i64 sh.right, vw, vh, vc, vm, .i .i64 w, .i .i64 h, .i .i64 u, .i .i64 v]

theorem VOwn_ok (lo : Nat) (s : St) (hlo : lo ≤ s.next) {vw vh vc vm : V} {sh : Sheet} (H : RdSh s vw vh vc vm sh) (hF : FitSh sh) (w h u v : Int) :
    CallW lo k_ref25_Own [vwV sh vw vh vc vm w h u v] s fun r s' => ∃ ww wh wc wm, r = vwV sh ww wh wc wm w h u v ∧ s.Le s' ∧ RdSh s' ww wh wc wm sh := by
  refine CallK_of T_ref25_Own rfl ?_
  simp [f_ref25_Own]
  refine (ROwn_ok _ _ ?_ (H.le ?_) hF).mono ?_
  · simp; omega
  · simp (maxDischargeDepth := 9)
  rintro _ s1 ⟨ww, wh, wc, wm, rfl, hle, R⟩
  have R0 := R s1 ((St.Le.refl s1).ab _)
  have c1 := hle.cellsAt (id := s.next) (by simp)
  have c2 := hle.cellsAt (id := s.next + 1) (by simp)
  have n1 := hle.next
  have l1 : s.Le s1 := hle.unbox.unbox
  simp at c1 c2 n1 R
  simp [c1, c2]
  refine ⟨hlo, ⟨R0.w.ok, R0.h.ok, R0.c.ok, R0.m.ok⟩, by omega, ⟨R0.w.ok, R0.h.ok, R0.c.ok, R0.m.ok⟩, _, _, _, _, ⟨rfl, rfl, rfl, rfl⟩, St.Le.put (St.Le.put l1 _ (by omega)) _ (by omega), R _ ?_⟩
  exact St.Ab.put (St.Ab.put ((St.Le.refl s1).ab _) (by omega) _) (by omega) _
theorem awake_memo {k : Nat} (h : Pg.M.get k = some [⟨k, [], [], .b true, []⟩]) (s : St) : memoM Pg.M k [] s = some (.b true, s) := by
  unfold memoM; rw [h]; rfl

end VE

namespace VE
open Go

/-! ## The argument: a view -/

def ci : FT := .int .i64
def viewT (ei ec er : TypeId) : List LT := [.f ci, .sl ei [ci], .sl ei [ci], .sl ec [ci, ci, .str, ci, ci, ci], .sl er [ci, ci, ci, ci], .f ci, .f ci, .f ci, .f ci]

theorem i64_of {n : Int} (h : (Lit.int .i64 n).wf = true) : I64 n := by
  simp [Lit.wf, IntKind.min, IntKind.max, IntKind.signed, IntKind.bits] at h
  unfold I64; omega

theorem has_int {u : V} (h : FT.has ci u) : ∃ n, u = .i .i64 n ∧ I64 n := by
  cases u <;> first | exact h.elim | skip
  rename_i k n
  obtain ⟨rfl, h⟩ := h
  exact ⟨n, rfl, i64_of h⟩

theorem has_str {u : V} (h : FT.has .str u) : ∃ bs, u = .s bs := by
  cases u <;> first | exact h.elim | exact ⟨_, rfl⟩

theorem rows_int {r : List V} (h : HasF [ci] r) : ∃ a : Int, r = El.cells a ∧ I64 a := by
  match r, h with
  | [u], h => obtain ⟨n, rfl, hn⟩ := has_int h.1; exact ⟨n, rfl, hn⟩
  | [], h => exact h.elim
  | _ :: _ :: _, h => exact h.2.elim

theorem rows_rect {r : List V} (h : HasF [ci, ci, ci, ci] r) : ∃ a : Rect, r = El.cells a ∧ I64R a := by
  match r, h with
  | [a, b, c, d], h =>
    obtain ⟨h1, h2, h3, h4, _⟩ := h
    obtain ⟨a, rfl, ha⟩ := has_int h1
    obtain ⟨b, rfl, hb⟩ := has_int h2
    obtain ⟨c, rfl, hc⟩ := has_int h3
    obtain ⟨d, rfl, hd⟩ := has_int h4
    exact ⟨⟨a, b, c, d⟩, rfl, ⟨ha, hb, hc, hd⟩⟩

theorem rows_cell {r : List V} (h : HasF [ci, ci, .str, ci, ci, ci] r) : ∃ a : Cell, r = El.cells a ∧ (I64 a.row ∧ I64 a.col) := by
  match r, h with
  | [a, b, c, d, e, f], h =>
    obtain ⟨h1, h2, h3, h4, h5, h6, _⟩ := h
    obtain ⟨a, rfl, ha⟩ := has_int h1
    obtain ⟨b, rfl, hb⟩ := has_int h2
    obtain ⟨c, rfl⟩ := has_str h3
    obtain ⟨d, rfl, hd⟩ := has_int h4
    obtain ⟨e, rfl, he⟩ := has_int h5
    obtain ⟨f, rfl, hf⟩ := has_int h6
    exact ⟨⟨a, b, c, d, e, f⟩, rfl, ha, hb⟩

theorem view_in {P : Program} {w : World} {ei ec er : TypeId} {us : List V} {cs : List Value} (h : HasL P w (viewT ei ec er) us cs) (c1 : P.cellsOf ei = 1 ∧ P.bytesOf ei = 8) (c2 : P.cellsOf ec = 6 ∧ P.bytesOf ec = 56) (c3 : P.cellsOf er = 4 ∧ P.bytesOf er = 32) :
    ∃ sh vw vh vc vm w' h' u' v', us = [.i .i64 sh.right, vw, vh, vc, vm, .i .i64 w', .i .i64 h', .i .i64 u', .i .i64 v'] ∧ RdSh (imgS w) vw vh vc vm sh ∧ FitSh sh ∧ I64Sh sh := by
    obtain ⟨a, _, _, _, rfl, rfl, ⟨_, h1⟩, h⟩ := h.inv
    obtain ⟨b, _, _, _, rfl, rfl, ⟨_, _, R2, q2, z2⟩, h⟩ := h.inv
    obtain ⟨c, _, _, _, rfl, rfl, ⟨_, _, R3, q3, z3⟩, h⟩ := h.inv
    obtain ⟨d, _, _, _, rfl, rfl, ⟨_, _, R4, q4, z4⟩, h⟩ := h.inv
    obtain ⟨e, _, _, _, rfl, rfl, ⟨_, _, R5, q5, z5⟩, h⟩ := h.inv
    obtain ⟨f, _, _, _, rfl, rfl, ⟨_, h6⟩, h⟩ := h.inv
    obtain ⟨g, _, _, _, rfl, rfl, ⟨_, h7⟩, h⟩ := h.inv
    obtain ⟨i, _, _, _, rfl, rfl, ⟨_, h8⟩, h⟩ := h.inv
    obtain ⟨j, _, _, _, rfl, rfl, ⟨_, h9⟩, h⟩ := h.inv
    obtain ⟨rfl, rfl⟩ := h.inv0
    rw [c1.1] at R2 R3; rw [c2.1] at R4; rw [c3.1] at R5
    rw [c1.2] at z2 z3; rw [c2.2] at z4; rw [c3.2] at z5
    have hr := reach_le
    obtain ⟨n1, rfl, g1⟩ := has_int h1
    obtain ⟨n6, rfl, g6⟩ := has_int h6
    obtain ⟨n7, rfl, g7⟩ := has_int h7
    obtain ⟨n8, rfl, g8⟩ := has_int h8
    obtain ⟨n9, rfl, g9⟩ := has_int h9
    obtain ⟨lw, A2, B2, L2⟩ := R2.to (α := Int) rfl (fun r hr => rows_int (q2 r hr))
    obtain ⟨lh, A3, B3, L3⟩ := R3.to (α := Int) rfl (fun r hr => rows_int (q3 r hr))
    obtain ⟨lc, A4, B4, L4⟩ := R4.to (α := Cell) rfl (fun r hr => rows_cell (q4 r hr))
    obtain ⟨lm, A5, B5, L5⟩ := R5.to (α := Rect) rfl (fun r hr => rows_rect (q5 r hr))
    exact ⟨⟨n1, lw, lh, lc, lm⟩, b, c, d, e, n6, n7, n8, n9, rfl, ⟨A2, A3, A4, A5⟩, ⟨by rw [L2]; omega, by rw [L3]; omega, by rw [L4]; omega, by rw [L5]; omega⟩, ⟨g1, B5, B4⟩⟩
end VE

namespace VE
open Go

/-! ## A view that nobody made -/

inductive NP where
  | nil | at (id : Nat)
def NP.v : NP → V
  | .nil => .pn
  | .at id => .p id 0
instance : El NP where
  sz := 1
  ag := none
  cells n := [n.v]
  val n := n.v
  sz_eq := rfl
  len _ := rfl
  val_eq n := by cases n <;> rfl
  val_cells n := by cases n <;> rfl
  ok1 n := by cases n <;> rfl

abbrev newC : List V := [z, .sn, .sn, .sn, .sn, z, z, z, z, .b false, .sn]
def NP.ok (s : St) : NP → Prop
  | .nil => True
  | .at id => id < s.next ∧ s.rd id 0 11 = some newC

theorem NP.ok.le {s s' : St} {p : NP} (h : p.ok s) (hl : s.Le s') : p.ok s' := by
  cases p with
  | nil => trivial
  | «at» id => exact ⟨Nat.lt_of_lt_of_le h.1 hl.next, by rw [hl.rd h.1]; exact h.2⟩

theorem none_ok (lo : Nat) (s : St) {p : NP} (h : p.ok s) (K : V → St → Prop) : CallW lo k_p_view_View_none [p.v] s K = K (.b true) s := by
  refine CallW_eq (CallK_of T_p_view_View_none rfl ?_) K
  cases p with
  | nil => simp [f_p_view_View_none, NP.v]
  | «at» id =>
    have := rd_sub h.2 9 1 (by omega)
    simp at this
    simp [f_p_view_View_none, NP.v, this]

theorem Left_ok (lo : Nat) (s : St) {p : NP} (h : p.ok s) (K : V → St → Prop) : CallW lo k_p_view_View_Left [p.v] s K = K (.i .i64 0) s := by
  refine CallW_eq (CallK_of T_p_view_View_Left rfl ?_) K
  simp [f_p_view_View_Left, none_ok _ _ h]

theorem Back_ok (lo : Nat) (s : St) {p : NP} (h : p.ok s) (K : V → St → Prop) : CallW lo k_p_view_View_Back [p.v] s K = K (.i .i64 1) s := by
  refine CallW_eq (CallK_of T_p_view_View_Back rfl ?_) K
  simp [f_p_view_View_Back, none_ok _ _ h]

theorem Screen_ok (lo : Nat) (s : St) {p : NP} (h : p.ok s) (K : V → St → Prop) : CallW lo k_p_view_View_Screen [p.v] s K = K .sn s := by
  refine CallW_eq (CallK_of T_p_view_View_Screen rfl ?_) K
  simp [f_p_view_View_Screen, none_ok _ _ h]

abbrev zV : V := .ag [z, .sn, .sn, .sn, .sn, z, z, z, z]
theorem Now_ok (lo : Nat) (s : St) (hlo : lo ≤ s.next) {p : NP} (h : p.ok s) : CallW lo k_p_view_View_Now [p.v] s (Ret s zV) := by
  refine CallK_of T_p_view_View_Now rfl ?_
  have h1 := h.le (s' := s.alloc (.cells [z, .sn, .sn, .sn, .sn, z, z, z, z])) (by simp)
  simp [f_p_view_View_Now, none_ok _ _ h1]
  omega

theorem does_ok (lo : Nat) (s : St) (hlo : lo ≤ s.next) (k : Int) : CallW lo k_view_does [.i .i64 k] s fun r s' => (∃ f b, r = .tu [f, .b b]) ∧ s.Le s' := by
  refine CallK_of T_view_does rfl ?_
  simp [f_view_does]
  refine ⟨hlo, ?_⟩
  generalize IntKind.i64.wrap (k - 12) = q
  refine GK_dec (fun h => ?_) (fun h => ?_) <;> simp [h]
  · refine TestK_dec (fun h2 => ?_) (fun h2 => ?_) <;> simp [h2]
    · have : q = 0 ∨ q = 1 := by omega
      rcases this with rfl | rfl <;> simp
    · refine GK_dec (fun h3 => ?_) (fun h3 => ?_) <;> simp [h3]
      exact ⟨_, (Int.lt_or_le k 12).elim (fun h => .inr ⟨rfl, h⟩) (fun h => .inl ⟨rfl, h⟩)⟩
  · refine GK_dec (fun h3 => ?_) (fun h3 => ?_) <;> simp [h3]
    exact ⟨_, (Int.lt_or_le k 12).elim (fun h => .inr ⟨rfl, h⟩) (fun h => .inl ⟨rfl, h⟩)⟩

theorem Do_ok (lo : Nat) (s : St) (hlo : lo ≤ s.next) {p : NP} (h : p.ok s) (k : Int) (x : List V) (hx : x.length = 10) : CallW lo k_p_view_View_Do [p.v, .ag (.i .i64 k :: x)] s (Ret s (.i .i64 1)) := by
  refine CallK_of T_p_view_View_Do rfl ?_
  have h1 := h.le (s' := s.alloc (.cells (.i .i64 k :: x))) (by simp)
  match x, hx with
  | [a, b, c, d, e, f, g, h, i, j], _ =>
  simp [f_p_view_View_Do]
  refine (does_ok _ _ (by simp; omega) k).mono ?_
  rintro _ s2 ⟨⟨f', b', rfl⟩, hle⟩
  simp [none_ok _ _ (h1.le hle)]
  exact hle.unbox

theorem zSh (s : St) : RdSh s .sn .sn .sn .sn ⟨0, [], [], [], []⟩ := ⟨.sn _, .sn _, .sn _, .sn _⟩

theorem Same27_ok (lo : Nat) (s : St) : CallW lo k_ref27_Same [zV, zV] s (Ret s (.b true)) := by
  refine CallK_of T_ref27_Same rfl ?_
  simp [f_ref27_Same]
  refine (RSame_ok _ _ (zSh _) (zSh _)).use fun s' hle => ?_
  simp
  exact hle.unbox.unbox

theorem ViewNobody_ok (lo : Nat) (s : St) (hlo : lo ≤ s.next) (k r c rs cs n' sz : Int) (tx : List UInt8) (al wr di : Int) :
    CallW lo k_law27_ViewNobody [.ag [.i .i64 k, .i .i64 r, .i .i64 c, .i .i64 rs, .i .i64 cs, .i .i64 n', .i .i64 sz, .s tx, .i .i64 al, .i .i64 wr, .i .i64 di]] s fun r _ => r = .b true := by
  refine CallK_of T_law27_ViewNobody rfl ?_
  simp [f_law27_ViewNobody]
  refine TestK_dec (fun h => ?_) (fun h => ?_) <;> simp [h]
  · exact CallW_memo (awake_memo M_law27_awake _) rfl
  · have l1 : ∀ (a b c : VO), (s.alloc a).Le (((s.alloc a).alloc b).alloc c) := fun a b c => by simp
    generalize e0 : VO.cells [V.i IntKind.i64 k, V.i IntKind.i64 r, V.i IntKind.i64 c, V.i IntKind.i64 rs, V.i IntKind.i64 cs, V.i IntKind.i64 n', V.i IntKind.i64 sz, V.s tx, V.i IntKind.i64 al, V.i IntKind.i64 wr, V.i IntKind.i64 di] = o0
    generalize e3 : ((s.alloc o0).alloc (VO.cells newC)).alloc (VO.cells [V.pn, V.p (s.next + 1) 0]) = s3
    have n3 : s3.next = s.next + 3 := by subst e3; simp [next_alloc]
    have R : RdS s3 (.sl (s.next + 1 + 1) 0 [NP.nil, .at (s.next + 1)].length 2 (El.sz NP) true) [NP.nil, .at (s.next + 1)] := by
      refine .inr ⟨_, _, _, _, rfl, by omega, ⟨by simp, by simp⟩, ?_⟩
      subst e3
      simp [El.sz, El.cells, NP.v]
    have P : ∀ q ∈ [NP.nil, .at (s.next + 1)], q.ok s3 := by
      intro q hq
      simp at hq
      rcases hq with rfl | rfl
      · trivial
      · refine ⟨by omega, ?_⟩
        subst e3; simp
    have hb : s3.rd s.next 0 11 = some [V.i IntKind.i64 k, V.i IntKind.i64 r, V.i IntKind.i64 c, V.i IntKind.i64 rs, V.i IntKind.i64 cs, V.i IntKind.i64 n', V.i IntKind.i64 sz, V.s tx, V.i IntKind.i64 al, V.i IntKind.i64 wr, V.i IntKind.i64 di] := by
      subst e3; subst e0; simp
    refine LoopW_cnt 2 (fun i => ((Tr.nil.set 5 (some (.i .i64 i))).set 4 (some (.sl (s.next + 1 + 1) 0 2 2 1 true))).set 1 (some (.p s.next 0))) (fun _ s' => s3.Le s') ?_ (by simp) (.refl _)
    intro i s1 hi hle
    by_cases hlt : i < 2
    · obtain ⟨id, off, lb, ex, he, hid, hlb, hat⟩ := (R.le hle).el i (by simpa using hlt)
      have P' := (P [NP.nil, .at (s.next + 1)][i] (List.getElem_mem _)).le hle
      generalize [NP.nil, .at (s.next + 1)][i] = q at hat P'
      simp [El.sz] at he
      obtain ⟨rfl, rfl, rfl, rfl⟩ := he
      simp [El.sz, El.cells] at hat
      have h64 : IntKind.i64.wrap ((i : Int) + 1) = i + 1 := wr64 (by omega) (by omega)
      have n1 := hle.next
      have hlt' : (i : Int) < 2 := by omega
      have P1 := fun s2 (h : s1.Le s2) => P'.le h
      simp [hlt', hat, hle.rd (show s.next < s3.next by omega), hb]
      refine (Do_ok lo s1 (by omega) P' k _ rfl).use fun s2 hle2 => ?_
      simp [Back_ok _ _ (P1 s2 hle2), Left_ok _ _ (P1 s2 hle2)]
      refine (Now_ok lo s2 (by have := hle2.next; omega) (P1 s2 hle2)).use fun s4 hle4 => ?_
      refine (Same27_ok lo s4).use fun s5 hle5 => ?_
      simp [Screen_ok _ _ (P1 s5 (hle2.trans (hle4.trans hle5))), h64]
      exact ⟨hlt, hle.trans (hle2.trans (hle4.trans hle5))⟩
    · have hlt' : ¬ (i : Int) < 2 := by omega
      simp [hlt']
      exact CallW_memo (awake_memo M_law27_awake _) rfl

/-! ## The argument: a step -/
def stepT : List LT := [.f ci, .f ci, .f ci, .f ci, .f ci, .f ci, .f ci, .f .str, .f ci, .f ci, .f ci]
theorem step_in {P : Program} {w : World} {us : List V} {cs : List Value} (h : HasL P w stepT us cs) :
    ∃ k r c rs cs n' sz tx al wr di, us = [.i .i64 k, .i .i64 r, .i .i64 c, .i .i64 rs, .i .i64 cs, .i .i64 n', .i .i64 sz, .s tx, .i .i64 al, .i .i64 wr, .i .i64 di] := by
  obtain ⟨_, _, _, _, rfl, rfl, ⟨_, h1⟩, h⟩ := h.inv
  obtain ⟨_, _, _, _, rfl, rfl, ⟨_, h2⟩, h⟩ := h.inv
  obtain ⟨_, _, _, _, rfl, rfl, ⟨_, h3⟩, h⟩ := h.inv
  obtain ⟨_, _, _, _, rfl, rfl, ⟨_, h4⟩, h⟩ := h.inv
  obtain ⟨_, _, _, _, rfl, rfl, ⟨_, h5⟩, h⟩ := h.inv
  obtain ⟨_, _, _, _, rfl, rfl, ⟨_, h6⟩, h⟩ := h.inv
  obtain ⟨_, _, _, _, rfl, rfl, ⟨_, h7⟩, h⟩ := h.inv
  obtain ⟨_, _, _, _, rfl, rfl, ⟨_, h8⟩, h⟩ := h.inv
  obtain ⟨_, _, _, _, rfl, rfl, ⟨_, h9⟩, h⟩ := h.inv
  obtain ⟨_, _, _, _, rfl, rfl, ⟨_, h10⟩, h⟩ := h.inv
  obtain ⟨_, _, _, _, rfl, rfl, ⟨_, h11⟩, h⟩ := h.inv
  obtain ⟨rfl, rfl⟩ := h.inv0
  obtain ⟨_, rfl, _⟩ := has_int h1
  obtain ⟨_, rfl, _⟩ := has_int h2
  obtain ⟨_, rfl, _⟩ := has_int h3
  obtain ⟨_, rfl, _⟩ := has_int h4
  obtain ⟨_, rfl, _⟩ := has_int h5
  obtain ⟨_, rfl, _⟩ := has_int h6
  obtain ⟨_, rfl, _⟩ := has_int h7
  obtain ⟨_, rfl⟩ := has_str h8
  obtain ⟨_, rfl, _⟩ := has_int h9
  obtain ⟨_, rfl, _⟩ := has_int h10
  obtain ⟨_, rfl, _⟩ := has_int h11
  exact ⟨_, _, _, _, _, _, _, _, _, _, _, rfl⟩
end VE

