/- From what a row reads of the arguments to the state of the evaluator, and back. -/
import Derived.Test.YtchccpmjhajcaaaGreatVg
import Derived.Deep.Slices
import Derived.ReadAgain
import Derived.ChangeBook
import Derived.ChangeSame
import Derived.RowKit
import Derived.SizedLaws
set_option linter.unusedVariables false
set_option linter.unusedSimpArgs false
set_option linter.unusedSectionVars false
namespace VE
open Go

/-! ## The memory of the arguments, as the evaluator sees it -/

def toV1 : Value → Option V
  | .bool x => some (.b x)
  | .int k n => some (.i k n)
  | .string s => some (.s s.data.toList)
  | _ => none

theorem toV1_rel {ρ : Rho} {w : World} {v : Value} {x : V} (h : toV1 v = some x) : VRel ρ w x v := by
  unfold toV1 at h
  split at h <;> simp at h <;> subst h
  · exact .b _
  · exact .i _ _
  · exact .s _

theorem toV1_relL {ρ : Rho} {w : World} : ∀ {cs : List Value} {us : List V}, cs.map toV1 = us.map some → VRelL ρ w us cs
  | [], [], _ => .nil
  | [], _ :: _, h => by simp at h
  | _ :: _, [], h => by simp at h
  | c :: cs, u :: us, h => by
    simp only [List.map_cons, List.cons.injEq] at h
    exact .cons (toV1_rel h.1) (toV1_relL h.2)

def imgO : Obj → VO
  | .cells c _ _ => .ro (c.toList.map toV1)
  | _ => .dead

def imgS (w : World) : St := stOf (w.heap.toList.map imgO)

def imgR (w : World) : Rho := fun b => if b < w.heap.size then some (b, 0) else none

theorem imgS_next (w : World) : (imgS w).next = w.heap.size := by
  unfold imgS stOf; rw [layL_next]; simp

theorem imgS_get (w : World) (b : Nat) : (imgS w).heap.get b = (w.heap[b]?).map imgO := by
  unfold imgS stOf
  rw [layL_get]
  simp only [Nat.zero_le, true_and, Nat.zero_add, List.length_map, Array.length_toList, Nat.sub_zero, List.getElem?_map, Array.getElem?_toList, Tr.get_nil]
  split
  · rfl
  · rename_i h; rw [Array.getElem?_eq_none (by omega)]; rfl

theorem imgR_some {w : World} {id b sh : Nat} (h : imgR w id = some (b, sh)) : id < w.heap.size ∧ b = id ∧ sh = 0 := by
  unfold imgR at h
  split at h
  · simp at h; exact ⟨by omega, h.1.symm, h.2.symm⟩
  · simp at h

theorem imgR_at {w : World} {b : Nat} (h : b < w.heap.size) : imgR w b = some (b, 0) := by simp [imgR, h]

theorem imgR_und (w : World) (id : Nat) (h : (imgS w).next ≤ id) : imgR w id = none := by
  rw [imgS_next] at h; simp [imgR]; omega

theorem img_WR (E : Env) (w : World) : WR E (imgR w) (imgS w) w := by
  refine ⟨?_, ?_, ?_, ?_⟩
  · intro id b sh o h1 h2
    obtain ⟨h3, rfl, rfl⟩ := imgR_some h1
    rw [imgS_get] at h2
    cases hb : w.heap[b]? with
    | none => rw [hb] at h2; simp at h2
    | some x =>
      rw [hb] at h2; simp at h2; subst h2
      cases x <;> first | trivial | skip
      rename_i c t f
      refine ⟨c, t, f, hb, by simp, ?_⟩
      intro i v hv
      rw [List.getElem?_map, Array.getElem?_toList] at hv
      cases hc : c[i]? with
      | none => rw [hc] at hv; simp at hv
      | some u =>
        rw [hc] at hv; simp at hv
        exact ⟨u, by rw [Nat.zero_add]; exact hc, toV1_rel hv⟩
  · intro id b sh h
    obtain ⟨h1, rfl, _⟩ := imgR_some h; exact h1
  · intro id id' b sh sh' h1 h2 _ _
    obtain ⟨_, rfl, _⟩ := imgR_some h1
    obtain ⟨_, rfl, _⟩ := imgR_some h2
    rfl
  · intro id h
    rw [imgS_next] at h; rw [imgS_get, Array.getElem?_eq_none h]; rfl

/-! ## Types of cells -/

inductive FT where
  | int (k : IntKind) | str | bool

def FT.has : FT → V → Prop
  | .int k, .i k' n => k' = k ∧ (Lit.int k n).wf = true
  | .str, .s bs => bs.length ≤ maxLen
  | .bool, .b _ => True
  | _, _ => False

def HasF : List FT → List V → Prop
  | [], [] => True
  | t :: ts, u :: us => t.has u ∧ HasF ts us
  | _, _ => False

theorem HasF.append : ∀ {ts ts' : List FT} {us us' : List V}, HasF ts us → HasF ts' us' → HasF (ts ++ ts') (us ++ us')
  | [], _, [], _, _, h => h
  | [], _, _ :: _, _, h, _ => h.elim
  | _ :: _, _, [], _, h, _ => h.elim
  | _ :: _, _, _ :: _, _, h, h' => ⟨h.1, HasF.append h.2 h'⟩

theorem HasF.length : ∀ {ts : List FT} {us : List V}, HasF ts us → us.length = ts.length
  | [], [], _ => rfl
  | [], _ :: _, h => h.elim
  | _ :: _, [], h => h.elim
  | _ :: _, _ :: _, h => by simp [HasF.length h.2]

def ftOf (P : Program) (t : TypeId) : Option FT :=
  match P.underlying t with
  | some (.int k) => some (.int k)
  | some .string => some .str
  | some .bool => some .bool
  | _ => none

def flatT (P : Program) : Nat → TypeId → Option (List FT)
  | 0, _ => none
  | d + 1, t =>
    match P.underlying t with
    | some (.struct fs) => (fs.toList.mapM fun f => flatT P d f.type).map List.flatten
    | _ => (ftOf P t).map fun x => [x]

inductive LT where
  | f (x : FT)
  | sl (e : TypeId) (ts : List FT)

def shapeT (P : Program) : Nat → TypeId → Option (List LT)
  | 0, _ => none
  | d + 1, t =>
    match P.underlying t with
    | some (.struct fs) => (fs.toList.mapM fun f => shapeT P d f.type).map List.flatten
    | some (.slice e) => (flatT P d e).map fun ts => [.sl e ts]
    | _ => (ftOf P t).map fun x => [.f x]

section
variable {H : Type} {enc : TypeId × Value → H} {P : Program} {w : World}

theorem glue_go {τ : Type} {Q : List τ → List Value → List V → Prop} (h0 : Q [] [] []) (ha : ∀ {a b c a' b' c'}, Q a b c → Q a' b' c' → Q (a ++ a') (b ++ b') (c ++ c')) {g : TypeId → Option (List τ)} {cs : List Value} :
    ∀ (fs : List Field) (tss : List (List τ)) (o : Nat), (fs.mapM fun f => g f.type) = some tss → (∀ (j : Nat) f, fs[j]? = some f → f.offset = o + ((fs.take j).map fun f => P.cellsOf f.type).sum) →
    (∀ f ∈ fs, ∀ ts, g f.type = some ts → ∃ us, Q ts ((cs.drop f.offset).take (P.cellsOf f.type)) us) → ∃ us, Q tss.flatten ((cs.drop o).take ((fs.map fun f => P.cellsOf f.type).sum)) us := by
  intro fs
  induction fs with
  | nil =>
    intro tss o h _ _
    simp at h; subst h
    exact ⟨[], by simpa using h0⟩
  | cons f fs ih =>
    intro tss o h hoff hr
    simp only [List.mapM_cons, Option.pure_def, Option.bind_eq_bind, Option.bind_eq_some_iff, Option.some.injEq] at h
    obtain ⟨ts, h1, tss', h2, rfl⟩ := h
    have e0 := hoff 0 f rfl
    simp at e0
    obtain ⟨us, q1⟩ := hr f (by simp) ts h1
    obtain ⟨us', q2⟩ := ih tss' (o + P.cellsOf f.type) h2 (fun j f' hj => by
      have := hoff (j + 1) f' (by simpa using hj)
      simp only [List.take_succ_cons, List.map_cons, List.sum_cons] at this; omega) (fun f' hf' => hr f' (by simp [hf']))
    refine ⟨us ++ us', ?_⟩
    have := ha q1 q2
    rw [e0] at this
    rw [List.flatten_cons, List.map_cons, List.sum_cons, List.take_add, List.drop_drop]
    exact this

theorem glue {τ : Type} {Q : List τ → List Value → List V → Prop} (h0 : Q [] [] []) (ha : ∀ {a b c a' b' c'}, Q a b c → Q a' b' c' → Q (a ++ a') (b ++ b') (c ++ c')) {g : TypeId → Option (List τ)}
    (hl : laidOutB P = true) {t : TypeId} {fs : Array Field} (ht : t < P.types.size) (hu : P.underlying t = some (.struct fs)) {tss : List (List τ)} (hts : (fs.toList.mapM fun f => g f.type) = some tss)
    {base : Nat} {spare : Nat → Bool} {held : Bool} {fuel : Nat} {cs : List Value} {x : DataW H × List MemPlace} (h : DataW.trod enc P w base spare held fuel t cs = some x)
    (hf : ∀ ty, ty < P.types.size → ∀ ts n cs' y, g ty = some ts → (∀ v ∈ cs', v ∈ cs) → DataW.trod enc P w base spare held n ty cs' = some y → ∃ us, Q ts cs' us) : ∃ us, Q tss.flatten cs us := by
  obtain ⟨xs, n, rfl, rfl, hlen, hxs, hread⟩ := DataW.trod_struct hu h
  obtain ⟨k1, k2, k3⟩ := kid_struct hl ht hu
  have := glue_go (P := P) h0 ha (cs := cs) fs.toList tss 0 hts (fun j f hj => by rw [k3 j f hj]; omega) (fun f hfm ts hts => by
    obtain ⟨i, hi, he⟩ := List.mem_iff_getElem.1 hfm
    have hi' : fs[i]? = some f := by
      rw [← Array.getElem?_toList, List.getElem?_eq_getElem hi, he]
    have hx := hread i f hi'
    rw [List.getElem?_eq_getElem (by rw [hxs]; simpa using hi)] at hx
    exact hf f.type (k1 f hfm) ts n _ _ hts (fun v hv => List.mem_of_mem_drop (List.mem_of_mem_take hv)) hx)
  rw [List.drop_zero, ← k2, ← hlen, List.take_length] at this
  exact this

def QF (ts : List FT) (cs : List Value) (us : List V) : Prop := cs.map toV1 = us.map some ∧ HasF ts us

theorem leaf_flat {t : TypeId} {x : FT} {base : Nat} {spare : Nat → Bool} {held : Bool} {fuel : Nat} {cs : List Value} {y : DataW H × List MemPlace} (ht : ftOf P t = some x)
    (h : DataW.trod enc P w base spare held fuel t cs = some y) : ∃ us, QF [x] cs us := by
  unfold ftOf at ht
  cases fuel with
  | zero => simp [DataW.trod] at h
  | succ n =>
    unfold DataW.trod at h
    split at ht <;> simp at ht <;> subst ht <;> rename_i hu <;> rw [hu] at h
    · rename_i k _
      split at h
      case h_2 k1 k' m e =>
        injection e with e; injection e with e; subst e
        split at h
        · rename_i h1
          exact ⟨[.i k' m], by simp [QF, toV1, HasF, FT.has, h1]⟩
        · simp at h
      all_goals simp_all
    · split at h <;> simp_all
      rename_i s
      exact ⟨[.s s.data.toList], by
        have : s.data.size = s.size := rfl
        simp [QF, toV1, HasF, FT.has, this, h.1]⟩
    · split at h <;> simp_all
      rename_i b
      exact ⟨[.b b], by simp [QF, toV1, HasF, FT.has]⟩

theorem QF.append {a a' : List FT} {b b' : List Value} {c c' : List V} (h : QF a b c) (h' : QF a' b' c') : QF (a ++ a') (b ++ b') (c ++ c') := ⟨by simp [h.1, h'.1], h.2.append h'.2⟩

theorem trod_flat (hl : laidOutB P = true) : ∀ (d : Nat) (t : TypeId) (ts : List FT), flatT P d t = some ts → t < P.types.size → ∀ {base : Nat} {spare : Nat → Bool} {held : Bool} {fuel : Nat} {cs : List Value} {x : DataW H × List MemPlace},
    DataW.trod enc P w base spare held fuel t cs = some x → ∃ us, QF ts cs us := by
  intro d
  induction d with
  | zero => intro t ts h; simp [flatT] at h
  | succ d ih =>
    intro t ts h ht base spare held fuel cs x hx
    unfold flatT at h
    split at h
    · rename_i fs hu
      simp only [Option.map_eq_some_iff] at h
      obtain ⟨tss, h1, rfl⟩ := h
      exact glue (Q := QF) ⟨rfl, trivial⟩ QF.append hl ht hu h1 hx (fun ty hty ts n cs' y e _ hr => ih ty ts e hty hr)
    · simp only [Option.map_eq_some_iff] at h
      obtain ⟨y, h1, rfl⟩ := h
      exact leaf_flat h1 hx

/-! ## Slices -/

/-- What a slice points at lies in cells. -/
def OkP (w : World) (v : Value) : Prop := ∀ a len cap, v = .slice (some a) len cap → a.spot = none ∧ ∃ c t f, w.heap[a.block]? = some (.cells c t f)

theorem okP_of {r : Reach} {base : Nat} {u : TypeId} {v : Value} (h : Cell.okWide P w r base u v) : OkP w v := by
  rintro a len cap rfl
  unfold Cell.okWide at h
  split at h <;> first | (simp_all; done) | skip
  unfold Cell.ok at h
  split at h <;> first | (simp_all; done) | skip
  rename_i he
  injection he with he h1 h2
  injection he with he; subst he
  obtain ⟨_, _, _, h3, row, cells, h4, _⟩ := h
  refine ⟨h3, ?_⟩
  unfold World.shape? at h4
  split at h4
  · rename_i c t f hb; exact ⟨c, t, f, hb⟩
  · simp at h4

theorem okP_cells {r : Reach} {base : Nat} {u : TypeId} {v : Value} (h : Value.okWide P w r base u v) : ∀ v' ∈ v.cells.toList, OkP w v' := by
  have agg : ∀ cs, v = .agg cs → Row.okWide P w r base u cs → ∀ v' ∈ v.cells.toList, OkP w v' := by
    rintro cs rfl h2 v' hv
    obtain ⟨ts, _, _, h3⟩ := h2
    obtain ⟨i, hi, rfl⟩ := List.mem_iff_getElem.1 hv
    obtain ⟨x, _, h4⟩ := h3 i _ (by rw [← Array.getElem?_toList]; exact List.getElem?_eq_getElem hi)
    exact okP_of h4
  unfold Value.okWide at h
  split at h
  · obtain ⟨cs, h1, _, h2⟩ := h; exact agg cs h1 h2
  · obtain ⟨cs, h1, _, h2⟩ := h; exact agg cs h1 h2
  · intro v' hv
    have : v.cells.toList = [v] ∨ ∃ cs, v = .agg cs := by cases v <;> first | exact .inl rfl | exact .inr ⟨_, rfl⟩
    rcases this with e | ⟨cs, rfl⟩
    · rw [e] at hv; simp at hv; subst hv; exact okP_of h
    · exfalso
      unfold Cell.okWide at h
      split at h <;> first | (simp_all; done) | skip
      unfold Cell.ok at h
      split at h <;> simp_all

/-- A slice reads as rows of cells. -/
def RdR (s : St) (u : V) (sz : Nat) (rows : List (List V)) : Prop :=
  (u = .sn ∧ rows = []) ∨ ∃ id off lb ex, u = .sl id off rows.length lb sz ex ∧ id < s.next ∧ (rows.length ≤ lb ∧ rows.length ≤ 140737488355328) ∧ s.rd id off (rows.length * sz) = some rows.flatten

theorem RdR.to {α : Type} [El α] {s : St} {u : V} {sz : Nat} {rows : List (List V)} {G : α → Prop} (h : RdR s u sz rows) (hs : sz = El.sz α) (hr : ∀ r ∈ rows, ∃ a : α, r = El.cells a ∧ G a) :
    ∃ l : List α, RdS s u l ∧ (∀ a ∈ l, G a) ∧ l.length = rows.length := by
  obtain ⟨l, e, hg⟩ : ∃ l : List α, rows = l.map El.cells ∧ ∀ a ∈ l, G a := by
    clear h
    induction rows with
    | nil => exact ⟨[], rfl, fun _ h => by simp at h⟩
    | cons r rows ih =>
      obtain ⟨a, rfl, ha⟩ := hr r (by simp)
      obtain ⟨l, rfl, hl⟩ := ih fun r h => hr r (by simp [h])
      exact ⟨a :: l, rfl, fun x hx => (List.mem_cons.1 hx).elim (fun e => e ▸ ha) (hl x)⟩
  subst e; subst hs
  refine ⟨l, ?_, hg, by simp⟩
  rcases h with ⟨rfl, h⟩ | ⟨id, off, lb, ex, h1, h2, h3, h4⟩
  · simp at h; subst h; exact .sn _
  · rw [List.length_map] at h1 h3 h4
    exact .inr ⟨id, off, lb, ex, h1, h2, h3, by rw [h4, List.flatMap_def]⟩

theorem allS_map : ∀ (l : List V), allS (l.map some) = some l
  | [] => rfl
  | _ :: r => by simp [allS, allS_map r]

theorem cells_at {a : Addr} {base k n : Nat} {c : Array Value} {t : TypeId} {f : Nat × Nat} {cs' : List Value} (hs : a.spot = none) (hb : w.heap[a.block]? = some (.cells c t f)) (hn : 0 < n)
    (h : w.cells? base (a.add k) n = some cs') : a.off + k + n ≤ c.size ∧ (c.toList.drop (a.off + k)).take n = cs' := by
  obtain ⟨_, hl, hg⟩ := World.cells?_some h
  have ha : ∀ i, (a.add k).add i = ⟨a.block, a.off + k + i, none⟩ := by
    intro i
    obtain ⟨b, o, s⟩ := a
    simp at hs; subst hs
    rw [add_none, add_none]
  have hg' : ∀ i, i < n → c[a.off + k + i]? = cs'[i]? := by
    intro i hi
    rw [← hg i hi, ha]; exact (cell_at hb).symm
  have hle : a.off + k + n ≤ c.size := by
    have := hg' (n - 1) (by omega)
    rw [List.getElem?_eq_getElem (by omega)] at this
    have := (Array.getElem?_eq_some_iff.1 this).1
    omega
  refine ⟨hle, ?_⟩
  apply List.ext_getElem?
  intro i
  by_cases hi : i < n
  · rw [List.getElem?_take_of_lt hi, List.getElem?_drop, Array.getElem?_toList]; exact hg' i hi
  · rw [List.getElem?_eq_none (by simp; omega), List.getElem?_eq_none (by omega)]

def LT.has (P : Program) (w : World) : LT → V → Value → Prop
  | .f x, u, v => toV1 v = some u ∧ x.has u
  | .sl e ts, u, v => VRel (imgR w) w u v ∧ ∃ rows, RdR (imgS w) u (P.cellsOf e) rows ∧ (∀ r ∈ rows, HasF ts r) ∧ rows.length * P.bytesOf e ≤ reachBytes

theorem reach_le : reachBytes ≤ 140737488355328 := by decide

theorem open_sl (hl : laidOutB P = true) {d : Nat} {t e : TypeId} {ts : List FT} (hu : P.underlying t = some (.slice e)) (he : flatT P d e = some ts) (ht : e < P.types.size) (hpos : 0 < P.cellsOf e ∧ 0 < P.bytesOf e)
    {held : Bool} {fuel : Nat} {cs : List Value} {x : DataW H × List MemPlace} (h : DataW.trod enc P w 0 (fun _ => true) held fuel t cs = some x) (hok : ∀ v ∈ cs, OkP w v)
    (hw : ∀ m ∈ x.1.weights P t, m ≤ reachBytes) : ∃ u v, cs = [v] ∧ (LT.sl e ts).has P w u v := by
  rcases Deep.open_slice hu h with ⟨rfl, rfl⟩ | ⟨a, len, cap, m, n, D, Pl, rfl, _, hlc, hcm, hm, rfl, hx⟩
  · exact ⟨.sn, _, rfl, .sn, [], .inl ⟨rfl, rfl⟩, fun _ h => by simp at h, by simp⟩
  simp at hm; subst hm
  obtain ⟨hs, c, ct, cf, hb⟩ := hok _ (by simp) a len m rfl
  obtain ⟨hpos, hpb⟩ := hpos
  have hwt : len * P.bytesOf e ≤ reachBytes := by
    have := hw ((len + (m - len)) * P.bytesOf e) (by simp [DataW.weights, hu])
    exact Nat.le_trans (Nat.mul_le_mul_right _ (by omega)) this
  have hmax : len ≤ 140737488355328 := Nat.le_trans (Nat.le_trans (Nat.le_mul_of_pos_right _ hpb) hwt) reach_le
  have hbl : a.block < w.heap.size := by
    rcases Nat.lt_or_ge a.block w.heap.size with h0 | h0
    · exact h0
    · rw [Array.getElem?_eq_none h0] at hb; simp at hb
  have hcz : csz w a.block = c.size := csz_of hb
  obtain ⟨U, hU⟩ := Deep.choose_lt (α := List V) (n := m) (p := fun i us => ∃ cs', w.cells? 0 (a.add (i * P.cellsOf e)) (P.cellsOf e) = some cs' ∧ QF ts cs' us) (fun i hi => by
    obtain ⟨cs', h1, h2⟩ := hx i hi
    obtain ⟨us, h3⟩ := trod_flat hl d e ts he ht h2
    exact ⟨us, cs', h1, h3⟩)
  have hfit : a.off + m * P.cellsOf e ≤ c.size ∨ m = 0 := by
    by_cases h0 : m = 0
    · exact .inr h0
    · obtain ⟨cs', h1, _⟩ := hU (m - 1) (by omega)
      have := (cells_at hs hb hpos h1).1
      refine .inl ?_
      obtain ⟨q, rfl⟩ : ∃ q, m = q + 1 := ⟨m - 1, by omega⟩
      rw [Nat.add_sub_cancel] at this
      rw [Nat.succ_mul]; omega
  have hread : ∀ k, k ≤ len → (((c.toList.map toV1).drop a.off).take (k * P.cellsOf e)) = (((List.range k).map U).flatten).map some := by
    intro k
    induction k with
    | zero => intro _; simp
    | succ k ih =>
      intro hk
      obtain ⟨cs', h1, h2, _⟩ := hU k (by omega)
      have h3 := (cells_at hs hb hpos h1).2
      rw [Nat.succ_mul, List.take_add, ih (by omega), List.range_succ, List.map_append, List.flatten_append, List.map_append]
      congr 1
      rw [List.drop_drop, ← List.map_drop, ← List.map_take, h3, h2]
      simp
  have hlen : ((List.range len).map U).length = len := by simp
  refine ⟨.sl a.block (if m = 0 then 0 else a.off) len len (P.cellsOf e) false, _, rfl, ?_, (List.range len).map U, .inr ⟨a.block, if m = 0 then 0 else a.off, len, false, by rw [hlen], by rw [imgS_next]; exact hbl, by rw [hlen]; omega, ?_⟩, ?_, ?_⟩
  · obtain ⟨ab, ao, asp⟩ := a
    simp at hs; subst hs
    refine .sl (imgR_at hbl) (Nat.le_refl _) hlc (fun e => by simp at e) ?_ ?_
    · rw [hcz]; split
      · rename_i h0; rw [h0]; simp
      · omega
    · split
      · exact .inr ‹_›
      · exact .inl (by simp)
  · unfold St.rd
    rw [imgS_get, hb, hlen]
    simp only [Option.map_some, imgO, List.length_map, Array.length_toList]
    have hlm : len * P.cellsOf e ≤ m * P.cellsOf e := Nat.mul_le_mul_right _ hlc
    by_cases h0 : m = 0
    · have : len = 0 := by omega
      subst this
      simp [h0, allS]
    · rw [if_neg h0, if_pos (by omega), hread len (Nat.le_refl _), allS_map]
  · intro r hr
    obtain ⟨i, hi, rfl⟩ := List.mem_map.1 hr
    obtain ⟨_, _, h2⟩ := hU i (by have := List.mem_range.1 hi; omega)
    exact h2.2
  · rw [hlen]; exact hwt

def HasL (P : Program) (w : World) : List LT → List V → List Value → Prop
  | [], [], [] => True
  | t :: ts, u :: us, v :: vs => t.has P w u v ∧ HasL P w ts us vs
  | _, _, _ => False

theorem HasL.append : ∀ {ts ts' : List LT} {us us' : List V} {vs vs' : List Value}, HasL P w ts us vs → HasL P w ts' us' vs' → HasL P w (ts ++ ts') (us ++ us') (vs ++ vs')
  | [], _, [], _, [], _, _, h => h
  | [], _, _ :: _, _, _, _, h, _ => h.elim
  | [], _, [], _, _ :: _, _, h, _ => h.elim
  | _ :: _, _, [], _, _, _, h, _ => h.elim
  | _ :: _, _, _ :: _, _, [], _, h, _ => h.elim
  | _ :: _, _, _ :: _, _, _ :: _, _, h, h' => ⟨h.1, HasL.append h.2 h'⟩

theorem LT.has_rel {t : LT} {u : V} {v : Value} (h : t.has P w u v) : VRel (imgR w) w u v := by
  cases t with
  | f x => exact toV1_rel h.1
  | sl e ts => exact h.1

theorem HasL.rel : ∀ {ts : List LT} {us : List V} {vs : List Value}, HasL P w ts us vs → VRelL (imgR w) w us vs
  | [], [], [], _ => .nil
  | [], _ :: _, _, h => h.elim
  | [], [], _ :: _, h => h.elim
  | _ :: _, [], _, h => h.elim
  | _ :: _, _ :: _, [], h => h.elim
  | _ :: _, _ :: _, _ :: _, h => .cons (LT.has_rel h.1) (HasL.rel h.2)

theorem weights_part {t : TypeId} {fs : Array Field} (hu : P.underlying t = some (.struct fs)) {xs : List (DataW H × List MemPlace)} (i : Nat) (f : Field) (y : DataW H × List MemPlace) (hf : fs.toList[i]? = some f) (hy : xs[i]? = some y) :
    ∀ m ∈ y.1.weights P f.type, m ∈ (DataW.agg (xs.map (·.1))).weights P t := by
  intro m hm
  unfold DataW.weights
  rw [hu]
  simp only
  have go : ∀ (l : List Field) (xs : List (DataW H × List MemPlace)) (i : Nat), l[i]? = some f → xs[i]? = some y → m ∈ DataW.weightsEach P (l.map (·.type)) (xs.map (·.1)) := by
    intro l
    induction l with
    | nil => intro xs i h; simp at h
    | cons g l ih =>
      intro xs i h1 h2
      cases xs with
      | nil => simp at h2
      | cons z xs =>
        simp only [List.map_cons, DataW.weightsEach, List.mem_append]
        cases i with
        | zero => simp at h1 h2; subst h1; subst h2; exact .inl hm
        | succ i => exact .inr (ih xs i (by simpa using h1) (by simpa using h2))
  exact go _ _ i hf hy

theorem trod_shape (hl : laidOutB P = true) (hz : ∀ t e, t < P.types.size → P.underlying t = some (.slice e) → 0 < P.cellsOf e ∧ 0 < P.bytesOf e) : ∀ (d : Nat) (t : TypeId) (ts : List LT), shapeT P d t = some ts → t < P.types.size →
    ∀ {held : Bool} {fuel : Nat} {cs : List Value} {x : DataW H × List MemPlace}, DataW.trod enc P w 0 (fun _ => true) held fuel t cs = some x → (∀ v ∈ cs, OkP w v) → (∀ m ∈ x.1.weights P t, m ≤ reachBytes) → ∃ us, HasL P w ts us cs := by
  intro d
  induction d with
  | zero => intro t ts h; simp [shapeT] at h
  | succ d ih =>
    intro t ts h ht held fuel cs x hx hok hw
    unfold shapeT at h
    split at h
    · rename_i fs hu
      simp only [Option.map_eq_some_iff] at h
      obtain ⟨tss, h1, rfl⟩ := h
      obtain ⟨xs, n, rfl, rfl, hlen, hxs, hread⟩ := DataW.trod_struct hu hx
      obtain ⟨k1, k2, k3⟩ := kid_struct hl ht hu
      have := glue_go (P := P) (Q := fun ts cs us => HasL P w ts us cs) (by trivial) HasL.append (cs := cs) fs.toList tss 0 h1 (fun j f hj => by rw [k3 j f hj]; omega) (fun f hfm ts hts => by
        obtain ⟨i, hi, he⟩ := List.mem_iff_getElem.1 hfm
        have hi' : fs[i]? = some f := by
          rw [← Array.getElem?_toList, List.getElem?_eq_getElem hi, he]
        have hxl : i < xs.length := by rw [hxs]; simpa using hi
        have hx := hread i f hi'
        rw [List.getElem?_eq_getElem hxl] at hx
        exact ih f.type ts hts (k1 f hfm) hx (fun v hv => hok v (List.mem_of_mem_drop (List.mem_of_mem_take hv))) (fun m hm => hw m (weights_part hu i f _ (by rw [Array.getElem?_toList]; exact hi') (List.getElem?_eq_getElem hxl) m hm)))
      rw [List.drop_zero, ← k2, ← hlen, List.take_length] at this
      exact this
    · rename_i e hu
      simp only [Option.map_eq_some_iff] at h
      obtain ⟨ts', h1, rfl⟩ := h
      obtain ⟨u, v, rfl, h2⟩ := open_sl hl hu h1 (kid_slice hl ht hu) (hz t e ht hu) hx hok hw
      exact ⟨[u], h2, trivial⟩
    · simp only [Option.map_eq_some_iff] at h
      obtain ⟨y, h1, rfl⟩ := h
      obtain ⟨us, h2, h3⟩ := leaf_flat h1 hx
      match us, cs, h2, h3 with
      | [u], [v], h2, h3 => simp at h2; exact ⟨[u], ⟨h2, h3.1⟩, trivial⟩
      | [], _, _, h3 => exact h3.elim
      | _ :: _ :: _, _, _, h3 => exact h3.2.elim
      | [_], [], h2, _ => simp at h2
      | [_], _ :: _ :: _, h2, _ => simp at h2
end
end VE

namespace VE
open Go Go.ChangeShapes Go.RowKit

section
variable {H : Type} {enc : TypeId × Value → H} {P : Program} {w : World}

theorem trodAll_same {W W' : World} {sp' : Nat → Bool} (K : Kids P (· < P.types.size)) (hz : ∀ t e, t < P.types.size → P.underlying t = some (.slice e) → 0 < P.cellsOf e)
    (hs : ∀ p : MemPlace, p.block < W.heap.size → W.sameAt W' p) : ∀ {ts : List TypeId} {vs : List Value} {ds : List (DataW H)} {ps : List MemPlace}, (∀ t ∈ ts, t < P.types.size) →
      DataW.TrodAll enc P W 0 (fun _ => true) true ts vs ds ps → (∀ p ∈ ps, p.block < W.heap.size) → (∀ p ∈ ps, sp' p.block = true) → DataW.TrodAll enc P W' 0 sp' true ts vs ds ps
  | [], [], [], _, _, h, _, _ => h
  | _ :: _, _ :: _, _ :: _, _, hT, ⟨p, q, ⟨n, h1⟩, h2, e⟩, hl, hp =>
    ⟨p, q, ⟨n, DataW.trod_stays K (fun {t e} h hu => hz t e h hu) (fun h => by simp at h) (hT _ (by simp)) h1 (fun x hx => hs x (hl x (by rw [e]; exact List.mem_append_left _ hx))) (fun x hx => hp x (by rw [e]; exact List.mem_append_left _ hx))⟩,
      trodAll_same K hz hs (fun t ht => hT t (by simp [ht])) h2 (fun x hx => hl x (by rw [e]; exact List.mem_append_right _ hx)) (fun x hx => hp x (by rw [e]; exact List.mem_append_right _ hx)), e⟩

/-- A law: true, and all that was there is as it was. -/
theorem post_law {f : Func} {s : ChangeSpec} {apart fresh handsOn again : Bool} {W W' : World} {args : Array Value} {ds gs : List (DataW H)} {before : List MemPlace} {tb : TypeId}
    (hl : laidOutB P = true) (hm : mapsRowed P = true) (hz : ∀ t e, t < P.types.size → P.underlying t = some (.slice e) → 0 < P.cellsOf e) (hT : ∀ t ∈ f.params.toList, t < P.types.size)
    (hv : s.vars = []) (hr : f.resultTypes = #[tb]) (hb : P.underlying tb = some .bool) (hW : DataW.Whole enc P f.params.toList s.vars apart W args.toList ds gs before)
    (hf : s.fn H (ds ++ gs) = { results := [.lit (.bool true)], args := ds }) (ho : W'.os = W.os ∧ W'.output = W.output) (hk : ∀ (b : Nat) (o : Obj), W.heap[b]? = some o → W'.heap[b]? = some o) :
    s.post enc P f apart fresh handsOn again W args (.bool true) W' := by
  have hlt := hW.lt
  obtain ⟨p, q, h1, h2, rfl, h3, h4⟩ := id hW
  rw [hv] at h2
  obtain ⟨rfl, rfl⟩ := trodVars_none h2
  have sameB : ∀ b, b < W.heap.size → W'.heap[b]? = W.heap[b]? := fun b hb => by
    rw [Array.getElem?_eq_getElem hb]; exact hk _ _ (Array.getElem?_eq_getElem hb)
  have same : ∀ p : MemPlace, p.block < W.heap.size → W.sameAt W' p := by
    intro p hp
    cases p with
    | cell b off => show W'.cell? _ = W.cell? _; unfold World.cell?; rw [sameB b hp]
    | map b => exact sameB b hp
  have kb := kids_rows hl hm
  have hres : ∀ (b : Nat) (sp : Nat → Bool) (hd : Bool), DataW.TrodAll enc P W' b sp hd f.resultTypes.toList ((Value.bool true).resultList f.resultTypes.size) (s.fn H (ds ++ [])).results [] := by
    intro b sp hd
    rw [hf, hr]
    exact trodAll_mk1 (shut_bool hb true)
  have hargs : ∀ sp : Nat → Bool, (∀ x ∈ p ++ [], sp x.block = true) → DataW.TrodAll enc P W' 0 sp true f.params.toList args.toList (s.fn H (ds ++ [])).args p := by
    intro sp hsp
    rw [hf]
    exact trodAll_same kb hz same hT h1 (fun x hx => hlt x (by simp [hx])) (fun x hx => hsp x (by simp [hx]))
  have hvars : ∀ sp : Nat → Bool, DataW.TrodVars enc P W' sp s.vars (s.fn H (ds ++ [])).vars [] := by
    intro sp; rw [hv, hf]; rfl
  have kept : ∀ may : MemPlace → Prop, W.keptBut W' may := by
    intro may
    refine ⟨ho.1, ho.2, fun i hi => ?_⟩
    rw [sameB i hi]
    split
    · rename_i h1 h2; rw [h1] at h2; injection h2 with h2; injection h2 with a b c; subst a; subst b; subst c; exact ⟨rfl, rfl, rfl, fun _ _ => rfl⟩
    · rename_i h1 h2; rw [h1] at h2; injection h2 with h2; injection h2 with a b; subst a; subst b; exact .inr ⟨rfl, rfl⟩
    · rfl
  refine ⟨ds, [], _, [], p, [], hW, hres _ _ _, hargs _ (fun x hx => by simpa using hlt x hx), hvars _, kept _, fun _ => ⟨?_, ds |> fun _ => (s.fn H (ds ++ [])).results ++ (s.fn H (ds ++ [])).args, (s.fn H (ds ++ [])).vars, ([] ++ p) ++ [], ⟨[] ++ p, [], trodAll_append (hargs _ (fun _ _ => rfl)) (hres _ _ _), hvars _, rfl, ?_, ?_⟩, ?_⟩⟩
  · exact ok_one hr rfl (okWide_bool_mk hb true)
  · intro b off hp
    have hp' : MemPlace.cell b off ∈ p ++ [] := by simpa using hp
    have h0 := h3 b off hp'
    have h5 := hlt _ hp'
    unfold World.frozen? at h0 ⊢
    rw [sameB b h5]; exact h0
  · intro ha; have := h4 ha; simpa using this
  · intro x hx _; simpa using hx

theorem law_post {E : Env} {s s' : St} {ρ : Rho} {v : V} {e : Ending} {W W' : World} (hw : WR E ρ s W) (h : RetPost E s.next ρ s W v s' e W') :
    ∃ v' ρ', e = .returned v' ∧ VRel ρ' W' v v' ∧ (W'.os = W.os ∧ W'.output = W.output) ∧ ∀ (b : Nat) (o : Obj), W.heap[b]? = some o → W'.heap[b]? = some o := by
  cases e with
  | returned v' =>
    obtain ⟨ρ', h1, h2⟩ := h
    exact ⟨v', ρ', rfl, h1, h2.oo, fun b o hb => h2.keep b o hb fun id sh _ ha => alive_lt hw.fresh ha⟩
  | _ => exact h.elim

end
end VE

namespace VE
open Go Go.ChangeShapes Go.RowKit

section
variable {H : Type} {enc : TypeId × Value → H} {P : Program} {w : World}

theorem HasL.inv {t : LT} {ts : List LT} {us : List V} {cs : List Value} (h : HasL P w (t :: ts) us cs) : ∃ u us' v cs', us = u :: us' ∧ cs = v :: cs' ∧ t.has P w u v ∧ HasL P w ts us' cs' := by
  match us, cs, h with
  | u :: us, v :: cs, h => exact ⟨u, us, v, cs, rfl, rfl, h.1, h.2⟩
  | [], _, h => exact h.elim
  | _ :: _, [], h => exact h.elim

theorem HasL.inv0 {us : List V} {cs : List Value} (h : HasL P w [] us cs) : us = [] ∧ cs = [] := by
  match us, cs, h with
  | [], [], _ => exact ⟨rfl, rfl⟩
  | _ :: _, _, h => exact h.elim
  | [], _ :: _, h => exact h.elim

/-- What is asked of a program's types. -/
structure TyOk (P : Program) : Prop where
  laid : laidOutB P = true
  maps : mapsRowed P = true
  full : ∀ t e, t < P.types.size → P.underlying t = some (.slice e) → 0 < P.cellsOf e ∧ 0 < P.bytesOf e

def fullB (P : Program) : Bool := (List.range P.types.size).all fun t => match P.underlying t with | some (.slice e) => decide (0 < P.cellsOf e) && decide (0 < P.bytesOf e) | _ => true

theorem tyOk_of (h1 : laidOutB P = true) (h2 : mapsRowed P = true) (h3 : fullB P = true) : TyOk P := ⟨h1, h2, fun t e hl ht => by
  have := List.all_eq_true.1 h3 t (List.mem_range.2 hl)
  rw [ht] at this
  simpa using this⟩

theorem arg_struct (hP : TyOk P) {t : TypeId} {fs : Array Field} {ts : List LT} {d : Nat} {r : Reach} {base : Nat} (hu : P.underlying t = some (.struct fs)) (hs : shapeT P d t = some ts) (ht : t < P.types.size) {v : Value} (hok : Value.okWide P w r base t v)
    {da : DataW H} {ps : List MemPlace} (h : DataW.Trod enc P w 0 (fun _ => true) true t v da ps) (hw : ∀ m ∈ da.weights P t, m ≤ reachBytes) : ∃ us cs, v = .agg cs ∧ HasL P w ts us cs.toList := by
  have hc := okP_cells hok
  unfold Value.okWide at hok
  rw [hu] at hok
  obtain ⟨cs, rfl, _⟩ := hok
  obtain ⟨n, hn⟩ := h
  obtain ⟨us, h1⟩ := trod_shape hP.laid hP.full d t ts hs ht hn hc hw
  exact ⟨us, cs, rfl, h1⟩

theorem arg_one (hP : TyOk P) {t : TypeId} {lt : LT} {d : Nat} {r : Reach} {base : Nat} (hs : shapeT P d t = some [lt]) (hns : ∀ fs, P.underlying t ≠ some (.struct fs)) (hna : ∀ n e, P.underlying t ≠ some (.array n e)) (ht : t < P.types.size) {v : Value}
    (hok : Value.okWide P w r base t v) {da : DataW H} {ps : List MemPlace} (h : DataW.Trod enc P w 0 (fun _ => true) true t v da ps) (hw : ∀ m ∈ da.weights P t, m ≤ reachBytes) : ∃ u, lt.has P w u v := by
  have hc := okP_cells hok
  obtain ⟨n, hn⟩ := h
  obtain ⟨us, h1⟩ := trod_shape hP.laid hP.full d t _ hs ht hn hc hw
  have : v.cells.toList = [v] ∨ ∃ cs, v = .agg cs := by cases v <;> first | exact .inl rfl | exact .inr ⟨_, rfl⟩
  rcases this with e | ⟨cs, rfl⟩
  · rw [e] at h1
    match us, h1 with
    | [u], h1 => exact ⟨u, h1.1⟩
    | [], h1 => exact h1.elim
    | _ :: _ :: _, h1 => exact h1.2.elim
  · exfalso
    unfold Value.okWide at hok
    split at hok
    · exact hns _ ‹_›
    · exact hna _ _ ‹_›
    · unfold Cell.okWide at hok
      split at hok <;> first | (simp_all; done) | skip
      unfold Cell.ok at hok
      split at hok <;> simp_all

theorem row_law [Pg] {E : Env} (hE : EnvOk E) (hT : TabOk E Pg.T) (hM : MemoOk E Pg.M) (hP : TyOk E.P) {f : Func} {k : FuncId} {s : ChangeSpec} {apart fresh handsOn again : Bool} {W : World} {args : Array Value} {ds gs : List (DataW H)} {before : List MemPlace} {tb : TypeId}
    (hp : ∀ t ∈ f.params.toList, t < E.P.types.size) (hv : s.vars = []) (hr : f.resultTypes = #[tb]) (hb : E.P.underlying tb = some .bool) (hW : DataW.Whole enc E.P f.params.toList s.vars apart W args.toList ds gs before)
    (hf : s.fn H (ds ++ gs) = { results := [.lit (.bool true)], args := ds }) {us : List V} (ha : VRelL (imgR W) W us args.toList) (hc : CallW (imgS W).next k us (imgS W) fun r _ => r = .b true) :
    Calls E.P k args W fun e W' => ∃ v, e = .returned v ∧ s.post enc E.P f apart fresh handsOn again W args v W' := by
  obtain ⟨v, s', rfl, h⟩ := calls_of hE hT hM hc ha (img_WR E W) (imgR_und W)
  refine h.mono fun e W' hp' => ?_
  obtain ⟨v', ρ', rfl, hv', ho, hk⟩ := law_post (img_WR E W) hp'
  cases hv'
  exact ⟨_, rfl, post_law hP.laid hP.maps (fun t e h1 h2 => (hP.full t e h1 h2).1) hp hv hr hb hW hf ho hk⟩

end
end VE

