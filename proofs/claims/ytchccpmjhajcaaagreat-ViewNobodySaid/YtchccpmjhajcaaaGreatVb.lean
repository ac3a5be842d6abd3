/- Each operation of the evaluator is what the operation of the model does: first part. -/
import Derived.Test.YtchccpmjhajcaaaGreatVa
import Derived.Laws.Strings
import Derived.Laws.StructEq
import Derived.ChangeKeysEq
set_option linter.unusedVariables false
set_option linter.unusedSimpArgs false
set_option linter.unusedSectionVars false
namespace VE
open Go

/-! ## Operations, one by one: the evaluator's answer is the model's -/

def OpOk (E : Env) (lo : Nat) (ρ : Rho) (s : St) (w : World) (v : V) (s' : St) (m : Sem Next) : Prop :=
  ∃ ρ' w' r v', m.run E.P w = .ok r w' ∧ (r = .value v' ∨ (r = .skip ∧ v' = undef)) ∧ VRel ρ' w' v v' ∧ Stp E lo ρ s w ρ' s' w'

def ValOk (E : Env) (lo : Nat) (ρ : Rho) (s : St) (w : World) (v : V) (s' : St) (m : Sem Value) : Prop :=
  ∃ ρ' w' v', m.run E.P w = .ok v' w' ∧ VRel ρ' w' v v' ∧ Stp E lo ρ s w ρ' s' w'

section
variable {E : Env} {lo : Nat} {ρ : Rho} {s s' : St} {w : World} {v : V}

theorem ValOk.op {m : Sem Value} (h : ValOk E lo ρ s w v s' m) : OpOk E lo ρ s w v s' (do pure (.value (← m))) := by
  obtain ⟨ρ', w', v', h1, h2, h3⟩ := h
  exact ⟨ρ', w', .value v', v', by simp [h1], .inl rfl, h2, h3⟩

theorem ValOk.pure {m : Sem Value} {v' : Value} (hw : WR E ρ s w) (h : m.run E.P w = .ok v' w) (hv : VRel ρ w v v') : ValOk E lo ρ s w v s m :=
  ⟨ρ, w, v', h, hv, .refl lo hw⟩

theorem evO_rel {fr : Fr} {a : Act} (hF : FRel ρ w fr a.tmps) {x : Operand} {v : V} (h : evO fr x = some v) : VRel ρ w v (a.eval x) := by
  cases x with
  | tmp t =>
    obtain ⟨v', h1, h2⟩ := hF t v h
    simpa [Act.eval, h1] using h2
  | const c =>
    simp only [evO] at h
    simp only [Act.eval]
    split at h <;> first
      | (injection h with h; subst h; constructor)
      | (simp at h)
  | global g => simp [evO] at h
  | func f => simp [evO] at h; subst h; exact .fn f .nil .nil

theorem evL_rel {fr : Fr} {a : Act} (hF : FRel ρ w fr a.tmps) : ∀ {l : List Operand} {vs : List V}, evL fr l = some vs → VRelL ρ w vs (l.map a.eval)
  | [], vs, h => by simp [evL] at h; subst h; exact .nil
  | x :: r, vs, h => by
    simp only [evL] at h
    split at h
    · rename_i h1 h2; injection h with h; subst h; exact .cons (evO_rel hF h1) (evL_rel hF h2)
    · simp at h

theorem r_und {P : Program} {t : TypeId} {d : TypeDesc} (h : P.underlying t = some d) (w : World) : (underlying t).run P w = .ok d w := by
  simp [underlying, h]

theorem r_info {P : Program} {t : TypeId} {i : TypeInfo} (h : P.info? t = some i) (w : World) : (typeInfo t).run P w = .ok i w := by
  simp [typeInfo, h]

theorem r_size {P : Program} {t : TypeId} {n : Nat} (h : sizeV P t = some n) (w : World) : (Go.sizeOf t).run P w = .ok n w := by
  simp only [sizeV, Option.map_eq_some_iff] at h
  obtain ⟨i, hi, rfl⟩ := h
  simp [Go.sizeOf, r_info hi]

theorem r_bytes {P : Program} {t : TypeId} {n : Nat} (h : bytesV P t = some n) (w : World) : ∃ i, (typeInfo t).run P w = .ok i w ∧ i.bytes = n := by
  simp only [bytesV, Option.map_eq_some_iff] at h
  obtain ⟨i, hi, rfl⟩ := h
  exact ⟨i, r_info hi w, rfl⟩

theorem r_zero {P : Program} {t : TypeId} {z : V} (h : zeroV P t = some z) (w : World) : ∃ z', (zeroValue t).run P w = .ok z' w ∧ ∀ ρ w, VRel ρ w z z' := by
  simp only [zeroV, Option.bind_eq_some_iff] at h
  obtain ⟨z', ⟨i, hi, hz⟩, hc⟩ := h
  exact ⟨z', by simp [zeroValue, r_info hi, hz], fun ρ w => cv_rel hc⟩

theorem r_agg {P : Program} {t : TypeId} {g : Option Nat} (h : aggV P t = some g) (w : World) :
    (isAgg t).run P w = .ok g.isSome w ∧ ∀ n, g = some n → (Go.sizeOf t).run P w = .ok n w := by
  unfold aggV at h
  split at h
  · rename_i d n h1 h2
    injection h with h; subst h
    refine ⟨?_, ?_⟩
    · simp only [isAgg, Sem.run_bind, r_und h1, Result.andThen_ok]
      cases d <;> simp [isAggD]
    · intro m hm
      split at hm
      · injection hm with hm; subst hm; exact r_size h2 w
      · simp at hm
  · simp at h

theorem mkAg_rel {g : Option Nat} {cs : List V} {l : List Value} {v : V} (h : mkAg g cs = some v) (hr : VRelL ρ w cs l) (hl : cs.length = agN g) :
    match g with
    | some _ => VRel ρ w v (.agg l.toArray)
    | none => ∃ x, l = [x] ∧ VRel ρ w v x := by
  cases g with
  | some n => simp [mkAg] at h; subst h; exact .ag (by simpa using hr)
  | none =>
    simp [mkAg] at h
    cases hr with
    | nil => simp at h
    | cons a t =>
      simp at h; subst h
      simp [agN] at hl
      cases t with
      | nil => exact ⟨_, rfl, a⟩
      | cons _ _ => simp at hl

theorem loadVar_ok {t : TypeId} {g : Option Nat} (hw : WR E ρ s w) (hg : aggV E.P t = some g) {id off b sh : Nat} {cs : List V} (hρ : ρ id = some (b, sh)) (hr : s.rd id off (agN g) = some cs) (hm : mkAg g cs = some v) :
    ∃ v', (loadVar t ⟨b, sh + off, none⟩).run E.P w = .ok v' w ∧ VRel ρ w v v' := by
  obtain ⟨l, hl, hrel, hc⟩ := rd_rel hw hρ hr
  have hrun := run_loadCells_list (P := E.P) w ⟨b, sh + off, none⟩ l (fun j v hv => by rw [add_none]; exact hc j v hv)
  rw [hl] at hrun
  obtain ⟨hag, hsz⟩ := r_agg hg w
  have hlen : cs.length = agN g := by rw [hrel.length, hl]
  have hm' := mkAg_rel hm hrel hlen
  cases g with
  | some n =>
    refine ⟨.agg l.toArray, ?_, hm'⟩
    simp only [loadVar, Sem.run_bind, hag, Result.andThen_ok, Option.isSome_some, if_true, hsz n rfl]
    simp only [agN, Option.getD_some] at hrun
    simp [hrun]
  | none =>
    obtain ⟨x, rfl, hx⟩ := hm'
    refine ⟨x, ?_, hx⟩
    have := hc 0 x rfl
    rw [Nat.add_zero] at this
    simp [loadVar, hag, this]

theorem storeVar_ok {t : TypeId} {n : Nat} (hw : WR E ρ s w) (hn : sizeV E.P t = some n) {id off b sh : Nat} {x : V} {x' : Value} (hρ : ρ id = some (b, sh)) (hx : VRel ρ w x x') (hl : x.cells.length = n)
    (hr : s.wr lo id off x.cells = some s') :
    ∃ w', (storeVar t ⟨b, sh + off, none⟩ x').run E.P w = .ok () w' ∧ Stp E lo ρ s w ρ s' w' := by
  obtain ⟨w', h1, h2⟩ := wr_run hw hρ hr hx.cells
  refine ⟨w', ?_, h2⟩
  have hc := hx.cells.length
  have : x'.cells.size = n := by rw [← hl, hc]; simp
  simp [storeVar, r_size hn, this, h1]

theorem newVar_ok {t : TypeId} {x : V} {x' : Value} (hw : WR E ρ s w) (hu : ρ s.next = none) (hl : lo ≤ s.next) (hx : VRel ρ w x x') :
    ∃ w', (newVar t x').run E.P w = .ok ⟨w.heap.size, 0, none⟩ w' ∧ Stp E lo ρ s w (ρ.put s.next (w.heap.size, 0)) (s.alloc (.cells x.cells)) w' := by
  have hc := hx.cells
  refine ⟨{ w with heap := w.heap.push (.cells x'.cells t) }, by simp [newVar, newRow], make_rel t hu hl hw (by rw [hc.length]; simp) fun i v hv => ?_⟩
  obtain ⟨v', h1, h2⟩ := hc.get hv
  exact ⟨v', by simpa using h1, h2⟩

theorem newRow_ok {t : TypeId} {vs : List V} {c : Array Value} (hw : WR E ρ s w) (hu : ρ s.next = none) (hl : lo ≤ s.next) (hx : VRelL ρ w vs c.toList) :
    ∃ w', (newRow t c).run E.P w = .ok ⟨w.heap.size, 0, none⟩ w' ∧ Stp E lo ρ s w (ρ.put s.next (w.heap.size, 0)) (s.alloc (.cells vs)) w' ∧ csz w' w.heap.size = c.size := by
  refine ⟨{ w with heap := w.heap.push (.cells c t) }, by simp [newRow], make_rel t hu hl hw (by rw [hx.length]; simp) (fun i v hv => ?_), by simp [csz]⟩
  obtain ⟨v', h1, h2⟩ := hx.get hv
  exact ⟨v', by simpa using h1, h2⟩

/-! ### Parts -/

theorem splice_rel {cs vs : List V} {c : Array Value} {l : List Value} {off : Nat} (h1 : VRelL ρ w cs c.toList) (h2 : VRelL ρ w vs l) (hle : off + vs.length ≤ cs.length) :
    VRelL ρ w (splice cs off vs) (l.zipIdx.foldl (fun cs (x : Value × Nat) => cs.setIfInBounds (off + x.2) x.1) c).toList := by
  have hl1 := h1.length
  have hl2 := h2.length
  have key : ∀ (l : List Value) (k : Nat) (c : Array Value), (l.zipIdx k).foldl (fun cs (x : Value × Nat) => cs.setIfInBounds (off + x.2) x.1) c = setCells c (off + k) l := by
    intro l
    induction l with
    | nil => intro k c; rfl
    | cons a r ih => intro k c; simp only [List.zipIdx_cons, List.foldl_cons, setCells]; rw [ih]; rfl
  rw [key l 0 c, Nat.add_zero]
  simp at hl1
  refine VRelL.of_get (by rw [length_splice hle]; simp [size_setCells, hl1]) ?_
  intro i v hv
  rw [get_splice hle] at hv
  have hg := get_setCells l c off i (by omega)
  rw [← Array.getElem?_toList] at hg
  rw [hg]
  by_cases hin : off ≤ i ∧ i < off + vs.length
  · rw [if_pos hin] at hv; rw [if_pos (by omega)]; exact h2.get hv
  · rw [if_neg hin] at hv; rw [if_neg (by omega)]; simpa using h1.get hv

theorem fill_ok {place : Nat → Option (Nat × Nat)} : ∀ (ps : List (Nat × Nat × V)) (rs : List (Nat × Value)) (z : List V) (z' : Array Value) (cs : List V),
    VRelL ρ w z z'.toList → ps.length = rs.length → (∀ (i : Nat) (p : Nat × Nat × V), ps[i]? = some p → ∃ r : Nat × Value, rs[i]? = some r ∧ place r.1 = some (p.1, p.2.1) ∧ VRel ρ w p.2.2 r.2) →
    fillV z ps = some cs → ∃ cs', Instr.fill place z' rs = some cs' ∧ VRelL ρ w cs cs'.toList
  | [], [], z, z', cs, hz, _, _, h => by simp [fillV] at h; subst h; exact ⟨z', rfl, hz⟩
  | [], _ :: _, _, _, _, _, hl, _, _ => by simp at hl
  | _ :: _, [], _, _, _, _, hl, _, _ => by simp at hl
  | (off, size, v) :: ps, (k, r) :: rs, z, z', cs, hz, hl, hp, h => by
    obtain ⟨_, h0, hpl, hv⟩ := hp 0 _ rfl
    simp at h0; subst h0
    simp only [fillV] at h
    split at h
    · rename_i hc
      have hcl := hv.cells.length
      have hzl := hz.length
      simp only at hpl hv hcl
      obtain ⟨cs', h1, h2⟩ := fill_ok ps rs _ _ cs (splice_rel hz hv.cells hc.2) (by simpa using hl) (fun i p hi => by simpa using hp (i + 1) p (by simpa using hi)) h
      refine ⟨cs', ?_, h2⟩
      simp only [Instr.fill, hpl]
      rw [if_neg (by simp at hcl hzl ⊢; omega)]
      rw [← h1]
      congr 1
      rw [← Array.foldl_toList]
      simp [Array.toList_zipIdx]
    · simp at h

theorem fillV_inRow : ∀ (ps : List (Nat × Nat × V)) (frm to : Nat) (z cs : List V), z.length = to → inRowV frm to ps = true → concatV (ps.map (·.2)) = some cs → fillV z ps = some (z.take frm ++ cs)
  | [], frm, to, z, cs, hz, hr, h => by
    simp [concatV] at h; subst h
    simp [inRowV] at hr; subst hr
    simp [fillV, ← hz]
  | (off, n, v) :: ps, frm, to, z, cs, hz, hr, h => by
    simp only [inRowV, Bool.and_eq_true] at hr
    have ho : off = frm := Nat.eq_of_beq_eq_true hr.1
    subst ho
    simp only [List.map_cons, concatV] at h
    split at h
    · rename_i hn
      simp only [Option.map_eq_some_iff] at h
      obtain ⟨cs2, h2, rfl⟩ := h
      have hto : off + n ≤ to := inRowV_le ps _ _ hr.2
      simp only [fillV]
      rw [if_pos ⟨hn, by omega⟩]
      have hl : (splice z off v.cells).length = to := by rw [length_splice (by omega), hz]
      rw [fillV_inRow ps (off + n) to _ cs2 hl hr.2 h2]
      congr 1
      have : (splice z off v.cells).take (off + n) = z.take off ++ v.cells := by
        unfold splice
        rw [List.take_append_of_le_length (by simp; omega)]
        rw [List.take_of_length_le (by simp; omega)]
      rw [this]; simp
    · simp at h

end
end VE

namespace VE
open Go

section inv
variable {ρ : Rho} {w : World} {v' : Value}
theorem VRel.inv_b {x : Bool} (h : VRel ρ w (.b x) v') : v' = .bool x := by cases h; rfl
theorem VRel.inv_i {k : IntKind} {n : Int} (h : VRel ρ w (.i k n) v') : v' = .int k n := by cases h; rfl
theorem VRel.inv_f {k : FloatKind} {n : Nat} (h : VRel ρ w (.f k n) v') : v' = .float k n := by cases h; rfl
theorem VRel.inv_c {k : FloatKind} {x y : Nat} (h : VRel ρ w (.c k x y) v') : v' = .complex k x y := by cases h; rfl
theorem VRel.inv_s {bs : List UInt8} (h : VRel ρ w (.s bs) v') : v' = .string ⟨⟨bs⟩⟩ := by cases h; rfl
theorem VRel.inv_p {id off : Nat} (h : VRel ρ w (.p id off) v') : ∃ b sh, ρ id = some (b, sh) ∧ v' = .pointer (some ⟨b, sh + off, none⟩) := by cases h; exact ⟨_, _, ‹_›, rfl⟩
theorem VRel.inv_pn (h : VRel ρ w .pn v') : v' = .pointer none := by cases h; rfl
theorem VRel.inv_sn (h : VRel ρ w .sn v') : v' = .slice none 0 0 := by cases h; rfl
theorem VRel.inv_mn (h : VRel ρ w .mn v') : v' = .map none := by cases h; rfl
theorem VRel.inv_m {id : Nat} (h : VRel ρ w (.m id) v') : ∃ b sh, ρ id = some (b, sh) ∧ v' = .map (some b) := by cases h; exact ⟨_, _, ‹_›, rfl⟩
theorem VRel.inv_ag {l : List V} (h : VRel ρ w (.ag l) v') : ∃ cs : Array Value, VRelL ρ w l cs.toList ∧ v' = .agg cs := by cases h; exact ⟨_, ‹_›, rfl⟩
theorem VRel.inv_tu {l : List V} (h : VRel ρ w (.tu l) v') : ∃ cs : Array Value, VRelL ρ w l cs.toList ∧ v' = .tuple cs := by cases h; exact ⟨_, ‹_›, rfl⟩
theorem VRel.inv_sl {id off len lb sz : Nat} {ex : Bool} (h : VRel ρ w (.sl id off len lb sz ex) v') : ∃ b sh off' cap, ρ id = some (b, sh) ∧ len ≤ lb ∧ lb ≤ cap ∧ (ex = true → cap = lb) ∧
    sh + off + cap * sz ≤ csz w b ∧ (off' = sh + off ∨ cap = 0) ∧ v' = .slice (some ⟨b, off', none⟩) len cap := by
  cases h; exact ⟨_, _, _, _, ‹_›, ‹_›, ‹_›, ‹_›, ‹_›, ‹_›, rfl⟩
theorem VRel.inv_fn {k : FuncId} {a c : List V} (h : VRel ρ w (.fn (.func k) a c) v') : ∃ a' c' : Array Value, VRelL ρ w a a'.toList ∧ VRelL ρ w c c'.toList ∧ v' = .func (.func k) a' c' := by
  cases h; exact ⟨_, _, ‹_›, ‹_›, rfl⟩
theorem VRel.inv_yl {id : Nat} (h : VRel ρ w (.yl id) v') : ∃ b sh, ρ id = some (b, sh) ∧ v' = .func (.yield b) #[] #[] := by cases h; exact ⟨_, _, ‹_›, rfl⟩
theorem VRel.inv_it {t : TypeId} {v : V} (h : VRel ρ w (.it t v) v') : ∃ x, VRel ρ w v x ∧ v' = .iface t x := by cases h; exact ⟨_, ‹_›, rfl⟩
end inv

theorem pureS_run {α : Type} {m : Sem α} {x : α} (h : pureS m = some x) (P : Program) (w : World) : m.run P w = .ok x w := by
  cases m <;> simp [pureS] at h
  subst h; rfl

theorem ofVal_rel {ρ : Rho} {w : World} {x : Value} {v : V} (h : ofVal x = some v) : VRel ρ w v x := by
  cases x <;> simp [ofVal] at h <;> subst h <;> constructor

section
variable {E : Env} {lo : Nat} {ρ : Rho} {s s' : St} {w : World} {v : V}

theorem ibits_ok {op : BinOp} {k : IntKind} {x y : Int} (h : ibits op k x y = some v) : ∃ v', (Op.intBits op k x y).run E.P w = .ok v' w ∧ VRel ρ w v v' := by
  unfold ibits at h
  cases op <;> simp at h <;> subst h <;> exact ⟨_, by simp [Op.intBits], .i _ _⟩

theorem ibin_ok {op : BinOp} {t : TypeId} {k : IntKind} {x y : Int} (h : ibin op k x y = some v) : ∃ v', (binOp op t (.int k x) (.int k y)).run E.P w = .ok v' w ∧ VRel ρ w v v' := by
  cases op <;> simp only [ibin] at h
  case quo => split at h; · simp at h
              · rename_i hy; injection h with h; subst h; exact ⟨_, by simp [binOp, Op.intDiv, hy], .i _ _⟩
  case rem => split at h; · simp at h
              · rename_i hy; injection h with h; subst h; exact ⟨_, by simp [binOp, Op.intDiv, hy], .i _ _⟩
  case and => obtain ⟨v', h1, h2⟩ := ibits_ok (E := E) (ρ := ρ) (w := w) h; exact ⟨v', by simpa [binOp] using h1, h2⟩
  case or => obtain ⟨v', h1, h2⟩ := ibits_ok (E := E) (ρ := ρ) (w := w) h; exact ⟨v', by simpa [binOp] using h1, h2⟩
  case xor => obtain ⟨v', h1, h2⟩ := ibits_ok (E := E) (ρ := ρ) (w := w) h; exact ⟨v', by simpa [binOp] using h1, h2⟩
  case andNot => obtain ⟨v', h1, h2⟩ := ibits_ok (E := E) (ρ := ρ) (w := w) h; exact ⟨v', by simpa [binOp] using h1, h2⟩
  all_goals first
    | (simp at h; done)
    | (injection h with h; subst h; first | exact ⟨_, by simp [binOp, Op.intArith], .i _ _⟩ | exact ⟨_, by simp [binOp, Op.intCmp], .b _⟩)

theorem shift_ok {op : BinOp} {t : TypeId} {k k' : IntKind} {x y : Int} (hop : op = .shl ∨ op = .shr) (h : shiftV op k x y = some v) : ∃ v', (binOp op t (.int k x) (.int k' y)).run E.P w = .ok v' w ∧ VRel ρ w v v' := by
  unfold shiftV at h
  split at h
  · simp at h
  · rename_i hy
    rcases hop with rfl | rfl <;> simp at h <;> subst h <;> exact ⟨_, by simp [binOp, Op.shift, hy], .i _ _⟩

theorem bytes_append (x y : List UInt8) : (⟨⟨x⟩⟩ : ByteArray) ++ ⟨⟨y⟩⟩ = ⟨⟨x ++ y⟩⟩ := by
  apply ByteArray.ext
  simp [ByteArray.data_append]

theorem sbin_ok {op : BinOp} {t : TypeId} {x y : List UInt8} (h : sbin op x y = some v) : ∃ v', (binOp op t (.string ⟨⟨x⟩⟩) (.string ⟨⟨y⟩⟩)).run E.P w = .ok v' w ∧ VRel ρ w v v' := by
  have hx : ∀ z : List UInt8, (⟨⟨z⟩⟩ : ByteArray).toList = z := fun z => by rw [ByteArray.toList_eq]
  have hs : ∀ z : List UInt8, (⟨⟨z⟩⟩ : ByteArray).size = z.length := fun z => rfl
  cases op <;> simp only [sbin] at h
  case add =>
    split at h
    · rename_i hle
      injection h with h; subst h
      refine ⟨.string ⟨⟨x ++ y⟩⟩, ?_, .s _⟩
      have : ¬ ((((⟨⟨x⟩⟩ : ByteArray).size + (⟨⟨y⟩⟩ : ByteArray).size : Nat) : Int) > IntKind.i64.max) := by
        have e : IntKind.i64.max = 9223372036854775807 := by decide
        rw [e, hs, hs]; omega
      simp only [binOp, Op.stringOp, if_neg this, bytes_append, Sem.run_pure]
    · simp at h
  all_goals first
    | (simp at h; done)
    | (injection h with h; subst h; exact ⟨_, by simp [binOp, Op.stringOp, hx], .b _⟩)

theorem bin_ok {op : BinOp} {t : TypeId} {x y : V} {x' y' : Value} (hx : VRel ρ w x x') (hy : VRel ρ w y y') (h : binV op x y = some v) :
    ∃ v', (binOp op t x' y').run E.P w = .ok v' w ∧ VRel ρ w v v' ∧ ∀ a b, (eqGuard op t a b x' y').run E.P w = .ok () w := by
  unfold binV at h
  split at h
  · rw [hx.inv_i, hy.inv_i]
    rename_i k a k' b
    have hg : ∀ c d, (eqGuard op t c d (.int k a) (.int k' b)).run E.P w = .ok () w := by
      intro c d; simp only [eqGuard]; split <;> rfl
    split at h
    · obtain ⟨v', h1, h2⟩ := shift_ok (E := E) (ρ := ρ) (w := w) (t := t) (k' := k') (.inl rfl) h; exact ⟨v', h1, h2, hg⟩
    · obtain ⟨v', h1, h2⟩ := shift_ok (E := E) (ρ := ρ) (w := w) (t := t) (k' := k') (.inr rfl) h; exact ⟨v', h1, h2, hg⟩
    · split at h
      · rename_i hk; subst hk
        obtain ⟨v', h1, h2⟩ := ibin_ok (E := E) (ρ := ρ) (w := w) (t := t) h; exact ⟨v', h1, h2, hg⟩
      · simp at h
  · rw [hx.inv_s, hy.inv_s]
    obtain ⟨v', h1, h2⟩ := sbin_ok (E := E) (ρ := ρ) (w := w) (t := t) h
    exact ⟨v', h1, h2, fun c d => by simp only [eqGuard]; split <;> rfl⟩
  · rw [hx.inv_f, hy.inv_f]
    rename_i k a k' b
    split at h
    · rename_i hk; subst hk
      have key : ∀ m : Sem Value, (pureS m).bind ofVal = some v → ∃ v', m.run E.P w = .ok v' w ∧ VRel ρ w v v' := by
        intro m hm
        rw [Option.bind_eq_some_iff] at hm
        obtain ⟨x, h1, h2⟩ := hm
        exact ⟨x, pureS_run h1 _ _, ofVal_rel h2⟩
      have hg : ∀ c d, (eqGuard op t c d (.float k a) (.float k b)).run E.P w = .ok () w := by
        intro c d; simp only [eqGuard]; split <;> rfl
      split at h <;> obtain ⟨v', h1, h2⟩ := key _ h <;> refine ⟨v', ?_, h2, hg⟩
      · simpa [binOp] using h1
      · simpa [binOp] using h1
      · simpa [binOp] using h1
      · simpa [binOp] using h1
      · rename_i e1 e2 e3 e4
        cases op <;> first | exact absurd rfl e1 | exact absurd rfl e2 | exact absurd rfl e3 | exact absurd rfl e4 | simpa [binOp] using h1
    · simp at h
  · rw [hx.inv_c, hy.inv_c]
    rename_i k a b k' c d
    split at h
    · rename_i hk; subst hk
      rw [Option.bind_eq_some_iff] at h
      obtain ⟨x, h1, h2⟩ := h
      refine ⟨x, ?_, ofVal_rel h2, fun c d => by simp only [eqGuard]; split <;> rfl⟩
      have := pureS_run h1 E.P w
      cases op <;> simpa [binOp] using this
    · simp at h
  · simp at h

theorem un_ok {op : UnOp} {x : V} {x' : Value} (hx : VRel ρ w x x') (h : unV op x = some v) : ∃ v', (Op.unary op x').run E.P w = .ok v' w ∧ VRel ρ w v v' := by
  unfold unV at h
  split at h
  · injection h with h; subst h; rw [hx.inv_i]; exact ⟨_, by simp [Op.unary, Op.intArith], .i _ _⟩
  · injection h with h; subst h; rw [hx.inv_b]; exact ⟨_, by simp [Op.unary], .b _⟩
  · injection h with h; subst h; rw [hx.inv_f]; exact ⟨_, by simp [Op.unary], .f _ _⟩
  · injection h with h; subst h; rw [hx.inv_c]; exact ⟨_, by simp [Op.unary], .c _ _ _⟩
  · rw [hx.inv_i]
    obtain ⟨v', h1, h2⟩ := ibits_ok (E := E) (ρ := ρ) (w := w) h
    exact ⟨v', by simpa [Op.unary] using h1, h2⟩
  · simp at h

end
end VE

namespace VE
open Go

section
variable {E : Env} {lo : Nat} {ρ : Rho} {s s' : St} {w : World} {v : V}

theorem bnd_ok {y : Nat} {x : V} {x' : Value} {n : Nat} {d : Nat} (hx : VRel ρ w x x') (h : bnd y (some x) d = some n) (y' : Nat) (hy : y ≤ y') (code : BoundsCode) :
    (Instr.sliceBound x' y' code).run E.P w = .ok n w ∧ n ≤ y := by
  cases x <;> simp only [bnd, reduceCtorEq] at h
  rename_i k i
  split at h
  · rename_i hc
    injection h with h; subst h
    rw [hx.inv_i]
    refine ⟨?_, by omega⟩
    simp [Instr.sliceBound, asIntOf, show 0 ≤ i ∧ i ≤ (y' : Int) from ⟨hc.1, by omega⟩]
  · simp at h

/-- What a slice expression's operands come to. -/
theorem evOp_rel {fr : Fr} {a : Act} (hF : FRel ρ w fr a.tmps) {x : Option Operand} {y : Option V} (h : evOp fr x = some y) :
    (x = none ∧ y = none) ∨ ∃ z u, x = some z ∧ y = some u ∧ VRel ρ w u (a.eval z) := by
  cases x with
  | none => simp [evOp] at h; exact .inl ⟨rfl, h.symm⟩
  | some z =>
    simp only [evOp, Option.map_eq_some_iff] at h
    obtain ⟨u, hu, rfl⟩ := h
    exact .inr ⟨z, u, rfl, rfl, evO_rel hF hu⟩

theorem sliceBounds_ok {isS : Bool} {len lb cap : Nat} {l h m : Nat} {lo' hi : Option V} {lo'' hi' : Option Value} (hlb : lb ≤ cap) (hl : len ≤ lb)
    (h1 : (lo' = none ∧ lo'' = none) ∨ ∃ u z, lo' = some u ∧ lo'' = some z ∧ VRel ρ w u z) (h2 : (hi = none ∧ hi' = none) ∨ ∃ u z, hi = some u ∧ hi' = some z ∧ VRel ρ w u z)
    (eh : bnd lb hi len = some h) (el : bnd h lo' 0 = some l) :
    (Instr.sliceBounds isS len cap lo'' hi' none).run E.P w = .ok (l, h, cap) w ∧ l ≤ h ∧ h ≤ lb := by
  rcases h2 with ⟨rfl, rfl⟩ | ⟨u2, z2, rfl, rfl, hr2⟩ <;> rcases h1 with ⟨rfl, rfl⟩ | ⟨u1, z1, rfl, rfl, hr1⟩
  · simp [bnd] at eh el; subst eh; subst el
    exact ⟨by simp [Instr.sliceBounds], by omega, hl⟩
  · simp only [bnd, Option.some.injEq] at eh; subst eh
    obtain ⟨g1, g2⟩ := bnd_ok (E := E) hr1 el len (Nat.le_refl _) .sliceB
    exact ⟨by simp [Instr.sliceBounds, g1], g2, hl⟩
  · simp only [bnd, Option.some.injEq] at el; subst el
    obtain ⟨g1, g2⟩ := bnd_ok (E := E) hr2 eh cap hlb (if isS then .sliceAcap else .sliceAlen)
    exact ⟨by simp [Instr.sliceBounds, g1], by omega, g2⟩
  · obtain ⟨g1, g2⟩ := bnd_ok (E := E) hr2 eh cap hlb (if isS then .sliceAcap else .sliceAlen)
    obtain ⟨g3, g4⟩ := bnd_ok (E := E) hr1 el h (Nat.le_refl _) .sliceB
    exact ⟨by simp [Instr.sliceBounds, g1, g3], g4, g2⟩

theorem sliceBounds3_ok {isS : Bool} {len lb cap : Nat} {l h m : Nat} {lo' : Option V} {lo'' : Option Value} {hv mv : V} {hz mz : Value} (hlb : lb ≤ cap)
    (h1 : (lo' = none ∧ lo'' = none) ∨ ∃ u z, lo' = some u ∧ lo'' = some z ∧ VRel ρ w u z) (h2 : VRel ρ w hv hz) (h3 : VRel ρ w mv mz)
    (em : bnd lb (some mv) 0 = some m) (eh : bnd m (some hv) 0 = some h) (el : bnd h lo' 0 = some l) :
    (Instr.sliceBounds isS len cap lo'' (some hz) (some mz)).run E.P w = .ok (l, h, m) w ∧ l ≤ h ∧ h ≤ m ∧ m ≤ lb := by
  obtain ⟨m1, m2⟩ := bnd_ok (E := E) h3 em cap hlb (if isS then .slice3Acap else .slice3Alen)
  obtain ⟨g1, g2⟩ := bnd_ok (E := E) h2 eh m (Nat.le_refl _) .slice3B
  rcases h1 with ⟨rfl, rfl⟩ | ⟨u, z, rfl, rfl, hr⟩
  · simp [bnd] at el; subst el
    exact ⟨by simp only [Instr.sliceBounds, Sem.run_bind, Sem.run_pure, Result.andThen_ok, m1, g1], by omega, g2, m2⟩
  · obtain ⟨l1, l2⟩ := bnd_ok (E := E) hr el h (Nat.le_refl _) .slice3C
    exact ⟨by simp only [Instr.sliceBounds, Sem.run_bind, Sem.run_pure, Result.andThen_ok, m1, g1, Option.isSome_some, if_true, l1], l2, g2, m2⟩

theorem addr_slice {b o l sz m : Nat} {off : Nat} (h : m = l ∨ True) : (if m = l then (⟨b, o, none⟩ : Addr) else (⟨b, o, none⟩ : Addr).add (l * sz)) = ⟨b, if m = l then o else o + l * sz, none⟩ := by
  split
  · rfl
  · rw [add_none]

/-- A slice of cells of a live or given block. -/
theorem sliceV_rel {sz id off len lb : Nat} {ex : Bool} {lo' hi mx : Option V} {lo'' hi' mx' : Option Value} {b sh off' cap : Nat} {isS : Bool}
    (hρ : ρ id = some (b, sh)) (hl : len ≤ lb) (hlb : lb ≤ cap) (hex : ex = true → cap = lb) (hsz : sh + off + cap * sz ≤ csz w b) (ho : off' = sh + off ∨ cap = 0)
    (h1 : (lo' = none ∧ lo'' = none) ∨ ∃ u z, lo' = some u ∧ lo'' = some z ∧ VRel ρ w u z) (h2 : (hi = none ∧ hi' = none) ∨ ∃ u z, hi = some u ∧ hi' = some z ∧ VRel ρ w u z)
    (h3 : (mx = none ∧ mx' = none) ∨ ∃ u z, mx = some u ∧ mx' = some z ∧ VRel ρ w u z) (h : sliceV sz id off len lb ex lo' hi mx = some v) :
    ∃ l hh m, (Instr.sliceBounds isS len cap lo'' hi' mx').run E.P w = .ok (l, hh, m) w ∧
      VRel ρ w v (.slice (some (if m = l then ⟨b, off', none⟩ else (⟨b, off', none⟩ : Addr).add (l * sz))) (hh - l) (m - l)) := by
  unfold sliceV at h
  rcases h3 with ⟨rfl, rfl⟩ | ⟨mv, mz, rfl, rfl, hm⟩
  · simp only at h
    split at h
    · simp at h
    · rename_i hh eh
      split at h
      · simp at h
      · rename_i l el
        injection h with h; subst h
        obtain ⟨r1, r2, r3⟩ := sliceBounds_ok (E := E) (isS := isS) hlb hl h1 h2 eh el (m := 0)
        refine ⟨l, hh, cap, r1, ?_⟩
        rw [addr_slice (.inr trivial) (off := 0)]
        have hmul : l * sz ≤ cap * sz := Nat.mul_le_mul_right _ (by omega)
        have e1 : (cap - l) * sz = cap * sz - l * sz := Nat.sub_mul _ _ _
        refine .sl hρ (by omega) (by omega) (fun e => by have := hex e; omega) (by omega) ?_
        by_cases e : cap = l
        · exact .inr (by omega)
        · left
          rw [if_neg e]
          rcases ho with rfl | h0
          · omega
          · omega
  · simp only at h
    split at h
    · simp at h
    · rename_i m em
      rcases h2 with ⟨rfl, rfl⟩ | ⟨hv, hz, rfl, rfl, hr⟩
      · simp at h
      · simp only at h
        split at h
        · simp at h
        · rename_i hh eh
          split at h
          · simp at h
          · rename_i l el
            injection h with h; subst h
            obtain ⟨r1, r2, r3, r4⟩ := sliceBounds3_ok (E := E) (isS := isS) (len := len) hlb h1 hr hm em eh el
            refine ⟨l, hh, m, r1, ?_⟩
            rw [addr_slice (.inr trivial) (off := 0)]
            have hmul : m * sz ≤ cap * sz := Nat.mul_le_mul_right _ (by omega)
            have hmul2 : l * sz ≤ m * sz := Nat.mul_le_mul_right _ (by omega)
            have e1 : (m - l) * sz = m * sz - l * sz := Nat.sub_mul _ _ _
            refine .sl hρ (by omega) (by omega) (fun e => by omega) (by omega) ?_
            by_cases e : m = l
            · exact .inr (by omega)
            · left
              rw [if_neg e]
              rcases ho with rfl | h0
              · omega
              · omega

theorem opt_rel {fr : Fr} {a : Act} (hF : FRel ρ w fr a.tmps) {x : Option Operand} {y : Option V} (h : evOp fr x = some y) :
    (y = none ∧ x.map a.eval = none) ∨ ∃ u z, y = some u ∧ x.map a.eval = some z ∧ VRel ρ w u z := by
  rcases evOp_rel hF h with ⟨rfl, rfl⟩ | ⟨z, u, rfl, rfl, hr⟩
  · exact .inl ⟨rfl, rfl⟩
  · exact .inr ⟨u, a.eval z, rfl, rfl, hr⟩

theorem part_ok {t : TypeId} {g : Option Nat} (hg : aggV E.P t = some g) {cs : List V} {c : Array Value} {off : Nat} (hr : VRelL ρ w cs c.toList) (h : partV g cs off = some v) :
    ∃ v', (part t c off).run E.P w = .ok v' w ∧ VRel ρ w v v' := by
  unfold partV at h
  split at h
  · rename_i hle
    have hlen := hr.length
    simp at hlen
    obtain ⟨hag, hsz⟩ := r_agg hg w
    have hr' := (hr.drop off).take (agN g)
    have hm := mkAg_rel h hr' (by simp; omega)
    cases g with
    | some n =>
      refine ⟨.agg (c.extract off (off + n)), ?_, ?_⟩
      · simp [part, hag, hsz n rfl]
      · simp only [agN, Option.getD_some] at hm
        have e : c.extract off (off + n) = (List.take n (List.drop off c.toList)).toArray := by
          apply Array.ext'
          simp [Array.toList_extract, List.extract, Nat.add_sub_cancel_left]
        rw [e]; exact hm
    | none =>
      obtain ⟨x, hx, hxr⟩ := hm
      simp only [agN, Option.getD_none] at hx
      refine ⟨x, ?_, hxr⟩
      have : c[off]? = some x := by
        have h0 := congrArg (·[0]?) hx
        simp only [List.getElem?_cons_zero] at h0
        rw [List.getElem?_take_of_lt (by omega), List.getElem?_drop] at h0
        simpa using h0
      simp [part, hag, this]
  · simp at h

end
end VE

namespace VE
open Go

section
variable {E : Env} {lo : Nat} {ρ : Rho} {s s' : St} {w : World} {v : V}

theorem WR.at {w1 : World} (hw : WR E ρ s w) (h : w1.heap = w.heap) : WR E ρ s w1 := by
  have hc : ∀ b, csz w b ≤ csz w1 b := fun b => by simp [csz, h]
  exact ⟨fun id b sh o a c => (hw.obj id b sh o a c).mono (fun _ _ h => h) hc (fun o' ho => by rw [h]; exact ho), fun id b sh a => by rw [h]; exact hw.lt id b sh a, hw.inj, hw.fresh⟩

theorem VRelL.at {w1 : World} {l : List V} {l' : List Value} (h : w1.heap = w.heap) (hr : VRelL ρ w l l') : VRelL ρ w1 l l' :=
  hr.mono (fun _ _ h => h) fun b => by simp [csz, h]

theorem VRel.at {w1 : World} {x : V} {x' : Value} (h : w1.heap = w.heap) (hr : VRel ρ w x x') : VRel ρ w1 x x' :=
  hr.mono (fun _ _ h => h) fun b => by simp [csz, h]

/-- A step that is taken behind some draws is one that is taken at once. -/
theorem Stp.at {w1 : World} {ρ' : Rho} {w' : World} (h : w1.heap = w.heap) (ho : w1.os = w.os ∧ w1.output = w.output) (hs : Stp E lo ρ s w1 ρ' s' w') : Stp E lo ρ s w ρ' s' w' := by
  have hc : ∀ b, csz w b = csz w1 b := fun b => by simp [csz, h]
  exact ⟨hs.ext, hs.new, fun id b sh a c => by rw [← h]; exact hs.newb id b sh a c, fun b => by rw [hc]; exact hs.sz b, by rw [← h]; exact hs.size,
    fun b o hb hk => hs.keep b o (by rw [h]; exact hb) hk, fun b L hb => hs.loops b L (by rw [h]; exact hb), hs.wr, hs.oo.1.trans ho.1, hs.oo.2.trans ho.2⟩

theorem Stp.after {w1 : World} {ρ' : Rho} {w' : World} (h : w1.heap = w'.heap) (ho : w1.os = w.os ∧ w1.output = w.output) (hs : Stp E lo ρ s w ρ' s' w') : Stp E lo ρ s w ρ' s' w1 :=
  ⟨hs.ext, hs.new, hs.newb, fun b => by have := hs.sz b; simpa [csz, h] using this, by rw [h]; exact hs.size, fun b o hb hk => by rw [h]; exact hs.keep b o hb hk, fun b L hb => by rw [h]; exact hs.loops b L hb, hs.wr.at h, ho⟩

theorem lenV_ok {x : V} {x' : Value} {n : Nat} (hx : VRel ρ w x x') (h : lenV x = some n) (w1 : World) : (Builtin.lenOf x').run E.P w1 = .ok n w1 := by
  cases x <;> simp only [lenV, reduceCtorEq, Option.some.injEq] at h
  · subst h; rw [hx.inv_s]; rfl
  · subst h; obtain ⟨_, _, _, _, _, _, _, _, _, _, rfl⟩ := hx.inv_sl; rfl
  · subst h; rw [hx.inv_sn]; rfl

theorem srcV_ok {sz n m : Nat} {x : V} {x' : Value} {cs : List V} (hw : WR E ρ s w) (hx : VRel ρ w x x') (hl : lenV x = some m) (hn : n ≤ m) (h : srcV sz n s x = some cs) :
    ∃ l : List Value, l.length = n * sz ∧ VRelL ρ w cs l ∧ ∀ w1 : World, w1.heap = w.heap → (Builtin.firstCells sz n x').run E.P w1 = .ok l.toArray w1 := by
  cases x <;> simp only [srcV, reduceCtorEq] at h
  · rename_i bs
    split at h
    · rename_i hs; subst hs
      injection h with h; subst h
      simp [lenV] at hl
      rw [hx.inv_s]
      refine ⟨(bs.take n).map fun b => .int .u8 b.toNat, by simp; omega, ?_, ?_⟩
      · generalize bs.take n = l
        induction l with
        | nil => exact .nil
        | cons a r ih => exact .cons (.i _ _) ih
      · intro w1 _
        have : ((⟨⟨bs⟩⟩ : ByteArray).extract 0 n).data = ⟨bs.take n⟩ := by
          apply Array.ext'
          simp [ByteArray.data_extract, Array.toList_extract, List.extract]
        simp [Builtin.firstCells, this]
    · simp at h
  · rename_i id off len lb sz' ex
    split at h
    · rename_i hs; subst hs
      simp [lenV] at hl; subst hl
      obtain ⟨b, sh, off', cap, hρ, h1, h2, h3, h4, h5, rfl⟩ := hx.inv_sl
      obtain ⟨l, e1, e2, e3⟩ := rd_rel hw hρ h
      refine ⟨l, e1, e2, ?_⟩
      intro w1 hw1
      simp only [Builtin.firstCells]
      by_cases hz : n * sz' = 0
      · have : l = [] := List.length_eq_zero_iff.1 (by rw [e1, hz])
        subst this
        simp [hz, loadCells, loadCellsFrom]
      · have hn0 : 0 < n := Nat.pos_of_ne_zero fun e => hz (by simp [e])
        have ho : off' = sh + off := by omega
        subst ho
        rw [← e1]
        exact run_loadCells_list w1 _ l fun j v hv => by
          rw [add_none]
          have := e3 j v hv
          simpa [World.cell?, hw1] using this
    · simp at h
  · injection h with h; subst h
    simp [lenV] at hl
    rw [hx.inv_sn]
    have : n = 0 := by omega
    subst this
    exact ⟨[], by simp, .nil, fun w1 _ => rfl⟩

theorem length_reps (n : Nat) (z : List V) : (reps n z).length = n * z.length := by
  induction n with
  | zero => simp [reps]
  | succ n ih => rw [reps, List.replicate_succ, List.flatten_cons, List.length_append, ← reps, ih, Nat.succ_mul]; omega

theorem zeroCells_rel {z : List V} {c : Array Value} (hr : VRelL ρ w z c.toList) (n : Nat) :
    VRelL ρ w (reps n z) (Builtin.zeroCells c n).toList ∧ (Builtin.zeroCells c n).size = n * c.size := by
  have hl := hr.length
  simp at hl
  have hs : (Builtin.zeroCells c n).size = n * c.size := by simp [Builtin.zeroCells]
  refine ⟨?_, hs⟩
  refine VRelL.of_get (by rw [length_reps, hl]; simp [hs]) ?_
  intro i v hv
  have hi : i < n * z.length := by
    rcases Nat.lt_or_ge i (n * z.length) with h0 | h0
    · exact h0
    · rw [List.getElem?_eq_none (by rw [length_reps]; omega)] at hv; simp at hv
  have hz : 0 < z.length := Nat.pos_of_ne_zero fun e => by rw [e] at hi; simp at hi
  have hv' : z[i % z.length]? = some v := by
    rw [← hv]
    clear hv hs
    induction n generalizing i with
    | zero => simp at hi
    | succ n ih =>
      rw [reps, List.replicate_succ, List.flatten_cons]
      by_cases h : i < z.length
      · rw [List.getElem?_append_left h, Nat.mod_eq_of_lt h]
      · rw [List.getElem?_append_right (by omega)]
        have := ih (i := i - z.length) (by rw [Nat.succ_mul] at hi; omega)
        rw [reps] at this
        rw [← this]
        congr 1
        exact Nat.mod_eq_sub_mod (by omega)
  obtain ⟨v', h1, h2⟩ := hr.get hv'
  refine ⟨v', ?_, h2⟩
  have hi2 : i < n * c.size := by rw [← hl]; exact hi
  have hm : i % c.size < c.size := Nat.mod_lt _ (by omega)
  simp only [Builtin.zeroCells, Array.toList_map, Array.toList_range, List.getElem?_map, List.getElem?_range hi2, Option.map_some]
  rw [hl] at h1
  simp at h1
  rw [Array.getElem?_eq_getElem hm] at h1
  injection h1 with h1
  rw [← h1]
  congr 1
  exact getElem!_pos c _ hm

theorem wrap_small {i : Int} (h0 : 0 ≤ i) (h1 : i ≤ 4611686018427387904) : IntKind.i64.wrap i = i := by
  have e1 : (2 : Int) ^ IntKind.i64.bits = 18446744073709551616 := by decide
  have e2 : (2 : Int) ^ (IntKind.i64.bits - 1) = 9223372036854775808 := by decide
  unfold IntKind.wrap
  simp only [e1, e2, IntKind.signed]
  rw [Int.emod_eq_of_lt h0 (by omega)]
  simp; omega

/-- What is appended. -/
theorem newV_ok {mk : Bool} {z : V} {z' : Value} {sz n bytes : Nat} {e : TypeId} {x : V} {x' : Value} {new : List V} (hw : WR E ρ s w) (hx : VRel ρ w x x') (hzl : z.cells.length = sz)
    (hz : ∀ w1 : World, (zeroValue e).run E.P w1 = .ok z' w1) (hzr : VRel ρ w z z') (hb : n = 0 ∨ bytes ≤ 1024) (h : newV mk z.cells sz x s = some (n, new)) :
    ∃ l : List Value, l.length = n * sz ∧ VRelL ρ w new l ∧
      (mk = true → ∃ k i, x' = .int k i ∧ IntKind.i64.wrap i = i ∧ 0 ≤ i ∧ i.toNat = n ∧ i * bytes ≤ 1099511627776) ∧
      (mk = false → ∀ w1 : World, (Builtin.lenOf x').run E.P w1 = .ok n w1) ∧
      (mk = false → ∀ w1 : World, w1.heap = w.heap → (Builtin.firstCells sz n x').run E.P w1 = .ok l.toArray w1) ∧
      (mk = true → (n * sz = 0 → l.toArray = #[]) ∧ Builtin.zeroCells z'.cells n = l.toArray) := by
  unfold newV at h
  cases mk with
  | true =>
    cases x <;> simp only [reduceCtorEq] at h
    rename_i k i
    split at h
    · rename_i hc
      injection h with h; injection h with h1 h2; subst h1; subst h2
      rw [hx.inv_i]
      obtain ⟨q1, q2⟩ := zeroCells_rel (hzr.cells) i.toNat
      have hzc := hzr.cells.length
      have hcs : z'.cells.size = sz := by rw [← hzl, hzc]; simp
      refine ⟨(Builtin.zeroCells z'.cells i.toNat).toList, by simp [q2, hcs], q1, fun _ => ⟨k, i, rfl, ?_, hc.1, rfl, ?_⟩, fun e => by simp at e, fun e => by simp at e, fun _ => ⟨fun e0 => ?_, rfl⟩⟩
      · exact wrap_small hc.1 (by omega)
      · rcases hb with hb | hb
        · have : i = 0 := by omega
          subst this; simp
        · have h1 : i * (bytes : Int) ≤ 1048576 * 1048576 := Int.mul_le_mul (by omega) (by omega) (by omega) (by omega)
          omega
      · exact Array.eq_empty_of_size_eq_zero (by simp [q2, hcs, e0])
    · simp at h
  | false =>
    simp only at h
    split at h
    · rename_i m hm
      simp only [Option.map_eq_some_iff] at h
      obtain ⟨cs, h1, h2⟩ := h
      injection h2 with h2 h3; subst h2; subst h3
      obtain ⟨l, l1, l2, l3⟩ := srcV_ok hw hx hm (Nat.le_refl _) h1
      exact ⟨l, l1, l2, fun e => by simp at e, fun _ w1 => lenV_ok hx hm w1, fun _ w1 hw1 => l3 w1 hw1, fun e => by simp at e⟩
    · simp at h

theorem nextcap_le (need cap : Nat) (h : cap < need) : Builtin.nextslicecap need cap ≤ 2 * need + 1024 := by
  unfold Builtin.nextslicecap
  split
  · omega
  · split
    · omega
    · have g : ∀ (r c : Nat), c < need → Builtin.growBy need r c ≤ 2 * need + 1024 := by
        intro r
        induction r with
        | zero => intro c hc; simp [Builtin.growBy]; omega
        | succ r ih =>
          intro c hc
          rw [Builtin.growBy]
          split
          · omega
          · by_cases h2 : c + (c + 768) / 4 < need
            · exact ih _ h2
            · cases r with
              | zero => simp [Builtin.growBy]; omega
              | succ r => rw [Builtin.growBy, if_pos (by omega)]; omega
      exact g 4 cap h

end
end VE
namespace VE
open Go
section
variable {E : Env} {lo : Nat} {ρ : Rho} {s s' : St} {w : World} {v : V}

theorem max64 : IntKind.i64.max = 9223372036854775807 := by decide

/-- What the model's append looks at, of the types, and of what is appended. -/
structure AppH (P : Program) (t u e : TypeId) (mk : Bool) (z' : Value) (sz bytes n : Nat) (x1 : Value) (l : List Value) (w : World) : Prop where
  ht : P.underlying t = some (.slice e)
  hd : ∃ d, P.underlying u = some d ∧ mk = (match d with | .int _ => true | _ => false)
  hz : ∀ w1 : World, (zeroValue e).run P w1 = .ok z' w1
  hn : ∀ w1 : World, (Go.sizeOf e).run P w1 = .ok sz w1
  hb : ∃ inf, inf.bytes = bytes ∧ ∀ w1 : World, (typeInfo e).run P w1 = .ok inf w1
  hm : mk = true → ∃ k i, x1 = .int k i ∧ IntKind.i64.wrap i = i ∧ 0 ≤ i ∧ i.toNat = n ∧ i * bytes ≤ 1099511627776
  hl : mk = false → ∀ w1 : World, (Builtin.lenOf x1).run P w1 = .ok n w1
  h0 : mk = false → ∀ w1 : World, w1.heap = w.heap → (Builtin.firstCells sz n x1).run P w1 = .ok l.toArray w1
  h1 : mk = true → (n * sz = 0 → l.toArray = #[]) ∧ Builtin.zeroCells z'.cells n = l.toArray

theorem append_fits {P : Program} {t u e ty : TypeId} {mk : Bool} {z' : Value} {sz bytes n : Nat} {x1 : Value} {l : List Value} (H : AppH P t u e mk z' sz bytes n x1 l w) {base : Option Addr} {len cap : Nat} {w' : World}
    (hc : len + n ≤ cap) (hst : match base with | some a => (storeCells (a.add (len * sz)) l).run P w = .ok () w' | none => w' = w) :
    (Builtin.append_ #[t, u] ty #[.slice base len cap, x1]).run P w = .ok (.slice base (len + n) cap) w' := by
  obtain ⟨d, hd, hmk⟩ := H.hd
  obtain ⟨inf, hib, hinf⟩ := H.hb
  cases mk with
  | true =>
    obtain ⟨k, i, rfl, i1, i2, i3, i4⟩ := H.hm rfl
    obtain ⟨g1, g2⟩ := H.h1 rfl
    have c1 : ¬ i < 0 := by omega
    have c2 : ¬ ((281474976710656 : Int) < i * (inf.bytes : Int)) := by rw [hib]; omega
    have hdm : ∃ k', d = .int k' := by cases d <;> simp at hmk; exact ⟨_, rfl⟩
    obtain ⟨k', rfl⟩ := hdm
    have app : (if n * sz = 0 then Result.ok #[] w else Result.ok (Builtin.zeroCells z'.cells n) w) = (Result.ok l.toArray w : Result (Array Value)) := by
      split
      · rename_i e0; rw [g1 e0]
      · rw [g2]
    cases base with
    | none =>
      simp only at hst; subst hst
      simp [Builtin.append_, r_und H.ht, r_und hd, H.hn, asInt, asIntOf, i1, c1, hinf, c2, i3, hc, H.hz, app]
    | some a =>
      simp only at hst
      by_cases e0 : n * sz = 0
      · have : l = [] := by simpa using g1 e0
        subst this
        simp [Builtin.append_, r_und H.ht, r_und hd, H.hn, asInt, asIntOf, i1, c1, hinf, c2, i3, hc, H.hz, hst, e0]
      · simp [Builtin.append_, r_und H.ht, r_und hd, H.hn, asInt, asIntOf, i1, c1, hinf, c2, i3, hc, H.hz, hst, e0, g2]
  | false =>
    have g0 := H.h0 rfl w rfl
    have gl := H.hl rfl w
    have hne : ∀ k, d = .int k → False := by rintro k rfl; simp at hmk
    cases base with
    | none =>
      simp only at hst; subst hst
      simp [Builtin.append_, r_und H.ht, r_und hd, H.hn, gl, g0, hc, hne]
    | some a =>
      simp only at hst
      simp [Builtin.append_, r_und H.ht, r_und hd, H.hn, gl, g0, hc, hst, hne]

theorem append_grows {P : Program} {t u e ty : TypeId} {mk : Bool} {z' : Value} {sz bytes n : Nat} {x1 : Value} {l old : List Value} (H : AppH P t u e mk z' sz bytes n x1 l w) {base : Option Addr} {len cap : Nat}
    (hc : cap < len + n) (hby : len + n ≤ 1073741824 ∨ (2 * cap < len + n ∧ (len + n) * bytes ≤ 140737488355328 ∧ len + n ≤ 140737488355328)) (hb2 : bytes ≤ 1024)
    (hold : ∀ w1 : World, w1.heap = w.heap → (Builtin.firstCells sz len (.slice base len cap)).run P w1 = .ok old.toArray w1) :
    ∃ (newCap : Nat) (w' : World) (arr : Array Value), len + n ≤ newCap ∧ arr.toList = old ++ l ++ (Builtin.zeroCells z'.cells (newCap - (len + n))).toList ∧ w'.heap = w.heap.push (.cells arr e) ∧ (w'.os = w.os ∧ w'.output = w.output) ∧
      (Builtin.append_ #[t, u] ty #[.slice base len cap, x1]).run P w = .ok (.slice (some ⟨w.heap.size, 0, none⟩) (len + n) newCap) w' := by
  obtain ⟨d, hd, hmk⟩ := H.hd
  obtain ⟨inf, hib, hinf⟩ := H.hb
  have k1 : ¬ (len + n ≤ cap) := by omega
  have hnc := nextcap_le (len + n) cap hc
  have k2 : ¬ (281474976710656 < Builtin.nextslicecap (len + n) cap * inf.bytes) := by
    rcases hby with hby | ⟨hby, hby2, _⟩
    · have h1 : Builtin.nextslicecap (len + n) cap * inf.bytes ≤ 2147484672 * 1024 := Nat.mul_le_mul (by omega) (by omega)
      omega
    · have h1 : Builtin.nextslicecap (len + n) cap = len + n := by unfold Builtin.nextslicecap; rw [if_pos (by omega)]
      rw [h1, hib]; omega
  have k3 : ¬ ((9223372036854775807 : Int) < (len : Int) + n) := by omega
  have hq : (Question.appendCap (len + n) cap e).forced = false := rfl
  obtain ⟨nc, hnc2, hle⟩ : ∃ nc, (Question.appendCap (len + n) cap e).cut (w.tape w.drawn (.appendCap (len + n) cap e)) = nc ∧ len + n ≤ nc := ⟨_, rfl, Nat.le_add_right _ _⟩
  have a1 := hold w.drew rfl
  refine ⟨nc, w.drew.alloc (.cells (old.toArray ++ (l.toArray ++ Builtin.zeroCells z'.cells (nc - (len + n)))) e), _, hle, by simp, rfl, ⟨rfl, rfl⟩, ?_⟩
  cases mk with
  | true =>
    obtain ⟨k, i, rfl, i1, i2, i3, i4⟩ := H.hm rfl
    obtain ⟨g1, g2⟩ := H.h1 rfl
    have c1 : ¬ i < 0 := by omega
    have c2 : ¬ ((281474976710656 : Int) < i * (inf.bytes : Int)) := by rw [hib]; omega
    have hdm : ∃ k', d = .int k' := by cases d <;> simp at hmk; exact ⟨_, rfl⟩
    obtain ⟨k', rfl⟩ := hdm
    have k4 : ¬ ((9223372036854775807 : Int) < (len : Int) + max i 0) := by omega
    by_cases e0 : n * sz = 0
    · have : l = [] := by simpa using g1 e0
      subst this
      simp [Builtin.append_, r_und H.ht, r_und hd, H.hn, asInt, asIntOf, i1, c1, hinf, c2, i3, k1, k2, k4, hq, hnc2, a1, H.hz, e0, newRow]
    · simp [Builtin.append_, r_und H.ht, r_und hd, H.hn, asInt, asIntOf, i1, c1, hinf, c2, i3, k1, k2, k4, hq, hnc2, a1, H.hz, e0, g2, newRow]
  | false =>
    have hne : ∀ k, d = .int k → False := by rintro k rfl; simp at hmk
    have g0 := H.h0 rfl w.drew rfl
    have gl := H.hl rfl w
    simp [Builtin.append_, r_und H.ht, r_und hd, H.hn, gl, g0, hne, hinf, k1, k2, k3, hq, hnc2, a1, H.hz, newRow]

theorem all_ok1 : ∀ {vs : List V} {l : List Value}, VRelL ρ w vs l → vs.all V.ok1 = true → ∀ v ∈ l, v.oneCell' = true
  | [], _, .nil, _, v, hv => by simp at hv
  | x :: vs, _, .cons h t, ha, v, hv => by
    simp only [List.all_cons, Bool.and_eq_true] at ha
    rcases List.mem_cons.1 hv with rfl | hv
    · exact ok1_rel h ha.1
    · exact all_ok1 t ha.2 v hv

theorem grow_rel {old new rest : List Value} {c : Array Value} {ov nv : List V} {id len n cap sz : Nat} {e : TypeId} {w1 w' : World} (hw : WR E ρ s w) (hu : ρ s.next = none) (hl : lo ≤ s.next)
    (ho : VRelL ρ w ov old) (hn : VRelL ρ w nv new) (hc : c.toList = old ++ new ++ rest) (hcz : c.size = cap * sz) (hcap : len + n ≤ cap) (hh : w'.heap = w.heap.push (.cells c e)) (hoo : w'.os = w.os ∧ w'.output = w.output) :
    VRel (ρ.put s.next (w.heap.size, 0)) w' (.sl s.next 0 (len + n) (len + n) sz false) (.slice (some ⟨w.heap.size, 0, none⟩) (len + n) cap) ∧
      Stp E lo ρ s w (ρ.put s.next (w.heap.size, 0)) (s.alloc (.cells (ov ++ nv))) w' := by
  have hon := ho.append hn
  have hsz : c.size = (old ++ new ++ rest).length := by rw [← hc]; simp
  have st := make_rel (E := E) (lo := lo) (vs := ov ++ nv) (c := c) e hu hl hw (by have := hon.length; rw [this, hsz]; simp) (fun i v hv => by
    obtain ⟨v', h1, h2⟩ := hon.get hv
    refine ⟨v', ?_, h2⟩
    rw [← Array.getElem?_toList, hc, List.getElem?_append_left]
    · exact h1
    · rcases Nat.lt_or_ge i (old ++ new).length with h0 | h0
      · exact h0
      · rw [List.getElem?_eq_none h0] at h1; simp at h1)
  refine ⟨?_, st.after (by rw [hh]) hoo⟩
  refine .sl (Rho.put_same _ _ _) (Nat.le_refl _) hcap (fun e => by simp at e) ?_ (.inl (by simp))
  have : csz w' w.heap.size = c.size := by simp [csz, hh]
  rw [this, hcz]; simp

theorem append_ok {t u e ty : TypeId} {d : TypeDesc} {z : V} {sz bytes : Nat} {mk : Bool} {sv xv : V} {s1 x1 : Value} (hw : WR E ρ s w) (hu : Und ρ s s') (hlo : lo ≤ s.next)
    (ht : E.P.underlying t = some (.slice e)) (hd : E.P.underlying u = some d) (hz : zeroV E.P e = some z) (hn : sizeV E.P e = some sz) (hb : bytesV E.P e = some bytes) (hzl : z.cells.length = sz)
    (hmk : mk = isIntD d) (hs : VRel ρ w sv s1) (hx : VRel ρ w xv x1) (h : appendV lo mk z.cells sz bytes sv xv s = some (v, s')) :
    ValOk E lo ρ s w v s' (Builtin.append_ #[t, u] ty #[s1, x1]) := by
  obtain ⟨z', hz1, hzr⟩ := r_zero hz w
  have hzw : ∀ w1 : World, (zeroValue e).run E.P w1 = .ok z' w1 := by
    intro w1
    obtain ⟨z2, h2, _⟩ := r_zero hz w1
    have : z2 = z' := by
      simp only [zeroV, Option.bind_eq_some_iff] at hz
      obtain ⟨y, ⟨i, hi, hy⟩, _⟩ := hz
      simp [zeroValue, r_info hi, hy] at hz1 h2
      rw [← hz1, ← h2]
    rw [← this]; exact h2
  have hzc := (hzr ρ w).cells.length
  have hcs : z'.cells.size = sz := by rw [← hzl, hzc]; simp
  have hinf : ∃ inf : TypeInfo, inf.bytes = bytes ∧ ∀ w1 : World, (typeInfo e).run E.P w1 = .ok inf w1 := by
    simp only [bytesV, Option.map_eq_some_iff] at hb
    obtain ⟨i, hi, he⟩ := hb
    exact ⟨i, he, fun w1 => r_info hi w1⟩
  unfold appendV at h
  cases hnv : newV mk z.cells sz xv s with
  | none => rw [hnv] at h; simp at h
  | some p =>
    obtain ⟨n, new⟩ := p
    rw [hnv] at h
    have mkH : (n = 0 ∨ bytes ≤ 1024) → ∃ l : List Value, l.length = n * sz ∧ VRelL ρ w new l ∧ AppH E.P t u e mk z' sz bytes n x1 l w := by
      intro hb2
      obtain ⟨l, l1, l2, l3, l4, l5, l6⟩ := newV_ok (bytes := bytes) (x' := x1) hw hx hzl hzw (hzr ρ w) hb2 hnv
      exact ⟨l, l1, l2, ht, ⟨d, hd, by rw [hmk]; cases d <;> rfl⟩, hzw, fun w1 => r_size hn w1, hinf, l3, l4, l5, l6⟩
    cases n with
    | zero =>
      obtain ⟨l, l1, l2, H⟩ := mkH (.inl rfl)
      have : l = [] := List.length_eq_zero_iff.1 (by rw [l1]; simp)
      subst this
      simp only at h
      split at h
      · injection h with h; injection h with h1 h2; subst h1; subst h2
        rw [hs.inv_sn]
        exact .pure hw (append_fits H (by omega) rfl) .sn
      · split at h
        · injection h with h; injection h with h1 h2; subst h1; subst h2
          obtain ⟨b, sh, off', cap, hρ, a1, a2, a3, a4, a5, rfl⟩ := hs.inv_sl
          exact .pure hw (append_fits H (by omega) rfl) hs
        · simp at h
      · simp at h
    | succ n =>
      simp only at h
      split at h
      · split at h
        · rename_i hc
          injection h with h; injection h with h1 h2; subst h1; subst h2
          rw [hs.inv_sn]
          obtain ⟨hc2, hc⟩ := roomA_ok hc
          obtain ⟨l, l1, l2, H⟩ := mkH (.inr hc2)
          obtain ⟨nc, w', arr, c1, c2, c3, c5, c4⟩ := append_grows (old := []) (ty := ty) H (base := none) (len := 0) (cap := 0) (by omega) (hc.imp (by omega) fun h => ⟨by omega, by simpa using h.2.2.1, by omega⟩) hc2 (fun w1 _ => rfl)
          have hsz : arr.size = nc * sz := by
            have : arr.size = arr.toList.length := by simp
            obtain ⟨_, q2⟩ := zeroCells_rel ((hzr ρ w).cells) (nc - (0 + (n + 1)))
            rw [this, c2]; simp only [List.nil_append, List.length_append, l1, Array.length_toList, q2, hcs]
            rw [← Nat.add_mul]; congr 1; omega
          have hun : ρ s.next = none := hu _ (Nat.le_refl _) (by simp [next_alloc])
          obtain ⟨g1, g2⟩ := grow_rel (E := E) (lo := lo) (id := 0) (len := 0) (n := n + 1) (sz := sz) (ov := []) hw hun hlo .nil l2 c2 hsz c1 c3 c5 (w1 := w)
          exact ⟨_, w', _, c4, by simpa using g1, by simpa using g2⟩
        · simp at h
      · rename_i id off len lb sz' ex
        split at h
        · rename_i hc
          obtain ⟨e1, hc0⟩ := hc
          obtain ⟨hc2, hc1⟩ := roomA_ok hc0
          subst e1
          obtain ⟨l, l1, l2, H⟩ := mkH (.inr hc2)
          obtain ⟨b, sh, off', cap, hρ, a1, a2, a3, a4, a5, rfl⟩ := hs.inv_sl
          split at h
          · rename_i hle
            simp only [Option.map_eq_some_iff] at h
            obtain ⟨s2, h1, h2⟩ := h
            injection h2 with h2 h3; subst h2; subst h3
            have ho : off' = sh + off := by omega
            subst ho
            obtain ⟨w', r1, r2⟩ := wr_run hw hρ h1 l2
            refine ⟨ρ, w', _, append_fits H (w' := w') (by omega) ?_, ?_, r2⟩
            · simp only [add_none]; rw [Nat.add_assoc]; exact r1
            · exact .sl hρ (by omega) a2 a3 (Nat.le_trans a4 (r2.sz b)) (.inl rfl)
          · rename_i hnle
            split at h
            · simp at h
            · rename_i old hold
              have hwold : ∃ lo' : List Value, lo'.length = len * sz' ∧ VRelL ρ w old lo' ∧ ∀ w1 : World, w1.heap = w.heap → (Builtin.firstCells sz' len (.slice (some ⟨b, off', none⟩) len cap)).run E.P w1 = .ok lo'.toArray w1 :=
                srcV_ok (m := len) hw hs rfl (Nat.le_refl _) (by simp [srcV, hold])
              obtain ⟨ol, o1, o2, o3⟩ := hwold
              have grow : ∀ (hcap : cap < len + (n + 1)) (st : St) (kill : Stp E lo ρ s w ρ st w) (hvk : VK lo s st) (hnx : st.next = s.next) (hs'' : s' = st.alloc (.cells (old ++ new))),
                  ValOk E lo ρ s w (.sl s.next 0 (len + n + 1) (len + n + 1) sz' false) s' (Builtin.append_ #[t, u] ty #[.slice (some ⟨b, off', none⟩) len cap, x1]) := by
                intro hcap st kill hvk hnx hs''
                obtain ⟨nc, w', arr, c1, c2, c3, c5, c4⟩ := append_grows (old := ol) (ty := ty) H (base := some ⟨b, off', none⟩) (len := len) (cap := cap) hcap (hc1.imp (by omega) fun h => ⟨by have := a3 h.1; omega, h.2.2.1, by omega⟩) hc2 o3
                have hsz : arr.size = nc * sz' := by
                  have : arr.size = arr.toList.length := by simp
                  obtain ⟨_, q2⟩ := zeroCells_rel ((hzr ρ w).cells) (nc - (len + (n + 1)))
                  rw [this, c2]; simp only [List.length_append, o1, l1, Array.length_toList, q2, hcs]
                  rw [← Nat.add_mul, ← Nat.add_mul]; congr 1; omega
                have hun : ρ st.next = none := by rw [hnx]; exact hu _ (Nat.le_refl _) (by rw [hs'', next_alloc, hnx]; omega)
                obtain ⟨g1, g2⟩ := grow_rel (E := E) (lo := lo) (id := 0) (len := len) (n := n + 1) (sz := sz') kill.wr hun (by rw [hnx]; exact hlo) o2 l2 c2 hsz c1 c3 c5 (w1 := w)
                rw [hnx] at g1 g2
                refine ⟨_, w', _, c4, by simpa [Nat.add_assoc] using g1, ?_⟩
                rw [hs'']
                refine kill.trans g2 hvk (.alloc (by rw [hnx]; exact hlo) _) (by rw [← hs'']; exact hu) hw
              split at h
              · rename_i hex
                injection h with h; injection h with h1 h2; subst h1; subst h2
                have := a3 hex
                exact grow (by omega) s (.refl lo hw) (.refl _ _) rfl rfl
              · split at h
                · simp at h
                · rename_i hlo2
                  split at h
                  rotate_left
                  · simp at h
                  rename_i cs hcs0
                  split at h
                  rotate_left
                  · simp at h
                  rename_i hall
                  injection h with h; injection h with h1 h2; subst h1
                  obtain ⟨hcle, hcold⟩ : off + len * sz' ≤ cs.length ∧ old = (cs.drop off).take (len * sz') := by
                    rcases rd_some hold with ⟨cs', g1, g2, g3⟩ | ⟨cs', g1, _, _⟩
                    · rw [hcs0] at g1; injection g1 with g1; injection g1 with g1; subst g1; exact ⟨g2, g3⟩
                    · rw [hcs0] at g1; simp at g1
                  have hal : alive s id := ⟨_, hcs0, rfl⟩
                  by_cases hcap : len + (n + 1) ≤ cap
                  · -- it fits: the block goes on
                    have ho : off' = sh + off := by omega
                    subst ho
                    obtain ⟨c, ct, cb, cl, cg⟩ := hw.block hρ hcs0
                    have hcsz : csz w b = c.size := csz_of cb
                    have hmul : (len + (n + 1)) * sz' ≤ cap * sz' := Nat.mul_le_mul_right _ hcap
                    rw [Nat.add_mul] at hmul
                    have hone := all_ok1 l2 hall
                    obtain ⟨w', r1, r2, r3, r4, r5⟩ := storeCells_run E.P l w c (sh + off + len * sz') 0 cb (by rw [l1]; omega) hone
                    have hcz : csz w' b = csz w b := by rw [csz_of r2, csz_of cb, size_setCells]
                    have hcs2 : ∀ k, csz w k ≤ csz w' k := fun k => by
                      by_cases e : k = b
                      · subst e; omega
                      · exact Nat.le_of_eq (csz_same (r3 k e)).symm
                    have hun : ρ s.next = none := hu _ (Nat.le_refl _) (by rw [← h2, next_alloc, next_put]; omega)
                    have holdlen : old.length = len * sz' := by rw [o2.length, o1]
                    have st := Stp.alias (E := E) (lo := lo) (sh' := sh + off) (o := .cells (old ++ new)) (w' := w') hρ (by omega) hal hun hlo hw r3 r4 hcz
                      ⟨_, ct, r2, by rw [size_setCells, List.length_append, holdlen, l2.length, l1]; omega, by
                        intro i v hv
                        rw [Nat.add_zero, get_setCells _ _ _ _ (by rw [l1]; omega)]
                        by_cases hi : i < len * sz'
                        · rw [if_neg (by omega)]
                          rw [List.getElem?_append_left (by omega), hcold, List.getElem?_take_of_lt hi, List.getElem?_drop] at hv
                          obtain ⟨v', q1, q2⟩ := cg _ _ hv
                          exact ⟨v', by rw [← q1]; congr 1; omega, q2.mono (Rho.put_ext hun) hcs2⟩
                        · rw [List.getElem?_append_right (by omega), holdlen] at hv
                          obtain ⟨v', q1, q2⟩ := l2.get hv
                          have hlt : i - len * sz' < l.length := by
                            rcases Nat.lt_or_ge (i - len * sz') l.length with h0 | h0
                            · exact h0
                            · rw [List.getElem?_eq_none h0] at q1; simp at q1
                          rw [if_pos (by omega)]
                          exact ⟨v', by rw [← q1]; congr 1; omega, q2.mono (Rho.put_ext hun) hcs2⟩⟩ (fun L h => by rw [cb] at h; simp at h) r5
                    refine ⟨_, w', _, append_fits H (w' := w') hcap (by simp only [add_none]; exact r1), ?_, by rw [← h2]; exact st⟩
                    refine .sl (Rho.put_same _ _ _) (Nat.le_refl _) (by omega) (fun e => by simp at e) (by rw [hcz]; omega) (.inl (by omega))
                  · exact grow (by omega) (s.put id .dead) (.kill hρ (by omega) hal hw) (.put _ (by omega) hal) rfl h2.symm
        · simp at h
      · simp at h
end
end VE

namespace VE
open Go

section
variable {E : Env} {lo : Nat} {ρ : Rho} {s s' : St} {w : World} {v : V}

theorem copy_ok {t u e ty : TypeId} {sz : Nat} {dv xv : V} {d1 x1 : Value} {dl xl : Nat} {cs : List V} (hw : WR E ρ s w) (ht : E.P.underlying t = some (.slice e)) (hn : sizeV E.P e = some sz)
    (hd : VRel ρ w dv d1) (hx : VRel ρ w xv x1) (h1 : lenV dv = some dl) (h2 : lenV xv = some xl) (h3 : srcV sz (Nat.min xl dl) s xv = some cs)
    (h : (match dv with
          | .sn => some (V.i .i64 (Nat.min xl dl : Nat), s)
          | .sl id off _ _ sz' _ => if sz' = sz then (s.wr lo id off cs).map (V.i .i64 (Nat.min xl dl : Nat), ·) else none
          | _ => none) = some (v, s')) : ValOk E lo ρ s w v s' (Builtin.copy_ #[t, u] ty #[d1, x1]) := by
  obtain ⟨l, l1, l2, l3⟩ := srcV_ok hw hx h2 (Nat.min_le_left _ _) h3
  have hl := lenV_ok (E := E) hx h2 w
  have h0 := l3 w rfl
  have hsh : dv = .sn ∨ ∃ id off len lb sz ex, dv = .sl id off len lb sz ex := by
    cases dv <;> first | exact .inl rfl | exact .inr ⟨_, _, _, _, _, _, rfl⟩ | (simp at h)
  rcases hsh with rfl | ⟨id, off, len, lb, sz', ex, rfl⟩ <;> simp only at h
  · injection h with h; injection h with e1 e2; subst e1; subst e2
    rw [hd.inv_sn]
    simp [lenV] at h1; subst h1
    refine .pure hw (v' := .int .i64 (Nat.min xl 0 : Nat)) ?_ (.i _ _)
    simp at h0
    simp [Builtin.copy_, r_und ht, hl, r_size hn, h0, goInt]
  · split at h
    · rename_i hs; subst hs
      simp only [Option.map_eq_some_iff] at h
      obtain ⟨s2, g1, g2⟩ := h
      injection g2 with g2 g3; subst g2; subst g3
      obtain ⟨b, sh, off', cap, hρ, a1, a2, a3, a4, a5, rfl⟩ := hd.inv_sl
      simp [lenV] at h1; subst h1
      by_cases hc : cap = 0
      · -- nothing is copied
        have hl0 : len = 0 := by omega
        subst hl0
        have : l = [] := List.length_eq_zero_iff.1 (by rw [l1]; simp)
        subst this
        obtain ⟨w', r1, r2⟩ := wr_run hw hρ g1 l2
        have : w' = w := by simp [storeCells] at r1; exact r1.symm
        subst this
        refine ⟨ρ, w', .int .i64 (Nat.min xl 0 : Nat), ?_, .i _ _, r2⟩
        simp at h0
        simp [Builtin.copy_, r_und ht, hl, r_size hn, h0, goInt, storeCells]
      · have ho : off' = sh + off := by omega
        subst ho
        obtain ⟨w', r1, r2⟩ := wr_run hw hρ g1 l2
        refine ⟨ρ, w', .int .i64 (Nat.min xl len : Nat), ?_, .i _ _, r2⟩
        simp [Builtin.copy_, r_und ht, hl, r_size hn, h0, goInt, r1]
    · simp at h

theorem clear_ok {t e ty : TypeId} {z : V} {xv : V} {x1 : Value} (hw : WR E ρ s w) (ht : E.P.underlying t = some (.slice e)) (hz : zeroV E.P e = some z) (hx : VRel ρ w xv x1)
    (h : (match xv with
          | .sn => some (V.tu [], s)
          | .sl id off len _ sz _ => if len = 0 then some (V.tu [], s) else if z.cells.length = sz then (s.wr lo id off (reps len z.cells)).map (V.tu [], ·) else none
          | _ => none) = some (v, s')) : ValOk E lo ρ s w v s' (Builtin.clear_ #[t] ty #[x1]) := by
  obtain ⟨z', hz1, hzr⟩ := r_zero hz w
  have hsh : xv = .sn ∨ ∃ id off len lb sz ex, xv = .sl id off len lb sz ex := by
    cases xv <;> first | exact .inl rfl | exact .inr ⟨_, _, _, _, _, _, rfl⟩ | (simp at h)
  rcases hsh with rfl | ⟨id, off, len, lb, sz, ex, rfl⟩ <;> simp only at h
  · injection h with h; injection h with e1 e2; subst e1; subst e2
    rw [hx.inv_sn]
    refine .pure hw (v' := .tuple #[]) ?_ (.tu .nil)
    simp [Builtin.clear_, r_und ht]
  · obtain ⟨b, sh, off', cap, hρ, a1, a2, a3, a4, a5, rfl⟩ := hx.inv_sl
    split at h
    · rename_i hl; subst hl
      injection h with h; injection h with e1 e2; subst e1; subst e2
      refine .pure hw (v' := .tuple #[]) ?_ (.tu .nil)
      simp [Builtin.clear_, r_und ht]
    · rename_i hl
      split at h
      · rename_i hs
        simp only [Option.map_eq_some_iff] at h
        obtain ⟨s2, g1, g2⟩ := h
        injection g2 with g2 g3; subst g2; subst g3
        have ho : off' = sh + off := by omega
        subst ho
        obtain ⟨q1, q2⟩ := zeroCells_rel ((hzr ρ w).cells) len
        obtain ⟨w', r1, r2⟩ := wr_run hw hρ g1 q1
        refine ⟨ρ, w', .tuple #[], ?_, .tu .nil, r2⟩
        cases len with
        | zero => exact absurd rfl hl
        | succ len => simp [Builtin.clear_, r_und ht, hz1, r1]
      · simp at h

theorem bytesOf_ok {P : Program} {g : Value → ByteArray → Sem (ForInStep ByteArray)} (hg : ∀ n s w1, (g (.int .u8 n) s).run P w1 = .ok (.yield (s.push (UInt8.ofNat n.toNat))) w1) :
    ∀ {cs : List V} {l : List Value} {bs : List UInt8}, VRelL ρ w cs l → bytesOf cs = some bs → ∀ (w1 : World) (acc : ByteArray),
    (forIn (m := Sem) l acc g).run P w1 = .ok ⟨⟨acc.data.toList ++ bs⟩⟩ w1
  | [], _, bs, .nil, h, w1, acc => by
    simp [bytesOf] at h; subst h
    simp
  | x :: cs, _, bs, .cons hx t, h, w1, acc => by
    have hsh : ∃ n, x = .i .u8 n := by
      cases x with
      | i k n => cases k <;> first | exact ⟨_, rfl⟩ | (simp [bytesOf] at h)
      | _ => simp [bytesOf] at h
    obtain ⟨n, rfl⟩ := hsh
    simp only [bytesOf] at h
    simp only [Option.map_eq_some_iff] at h
    obtain ⟨r, hr, rfl⟩ := h
    rw [hx.inv_i]
    simp only [List.forIn_cons, Sem.run_bind, hg, Result.andThen_ok]
    rw [bytesOf_ok hg t hr w1]
    simp [ByteArray.push]

theorem runesOf_ok {P : Program} {g : Value → ByteArray → Sem (ForInStep ByteArray)} (hg : ∀ n s w1, (g (.int .i32 n) s).run P w1 = .ok (.yield (s ++ Utf8.encode n)) w1) :
    ∀ {cs : List V} {l : List Value} {bs : List UInt8}, VRelL ρ w cs l → runesOf cs = some bs → ∀ (w1 : World) (acc : ByteArray),
    (forIn (m := Sem) l acc g).run P w1 = .ok ⟨⟨acc.data.toList ++ bs⟩⟩ w1
  | [], _, bs, .nil, h, w1, acc => by
    simp [runesOf] at h; subst h
    simp
  | x :: cs, _, bs, .cons hx t, h, w1, acc => by
    have hsh : ∃ n, x = .i .i32 n := by
      cases x with
      | i k n => cases k <;> first | exact ⟨_, rfl⟩ | (simp [runesOf] at h)
      | _ => simp [runesOf] at h
    obtain ⟨n, rfl⟩ := hsh
    simp only [runesOf] at h
    simp only [Option.map_eq_some_iff] at h
    obtain ⟨r, hr, rfl⟩ := h
    rw [hx.inv_i]
    simp only [List.forIn_cons, Sem.run_bind, hg, Result.andThen_ok]
    rw [runesOf_ok hg t hr w1]
    simp [ByteArray.data_append]

theorem bytesStr_ok {xv : V} {x1 : Value} (hw : WR E ρ s w) (hx : VRel ρ w xv x1)
    (h : (match xv with
          | .sn => some (V.s [], s)
          | .sl id off len _ sz _ => if sz = 1 then (match s.rd id off len with
            | some cs => (bytesOf cs).map fun bs => (V.s bs, s)
            | none => none) else none
          | _ => none) = some (v, s')) : s' = s ∧ ∃ v', (Conv.bytesToString x1).run E.P w = .ok v' w ∧ VRel ρ w v v' := by
  have hsh : xv = .sn ∨ ∃ id off len lb sz ex, xv = .sl id off len lb sz ex := by
    cases xv <;> first | exact .inl rfl | exact .inr ⟨_, _, _, _, _, _, rfl⟩ | (simp at h)
  rcases hsh with rfl | ⟨id, off, len, lb, sz, ex, rfl⟩ <;> simp only at h
  · injection h with h; injection h with e1 e2; subst e1; subst e2
    rw [hx.inv_sn]
    exact ⟨rfl, _, rfl, .s []⟩
  · obtain ⟨b, sh, off', cap, hρ, a1, a2, a3, a4, a5, rfl⟩ := hx.inv_sl
    split at h
    · rename_i hs; subst hs
      split at h
      · rename_i cs hcs
        simp only [Option.map_eq_some_iff] at h
        obtain ⟨bs, hb, h2⟩ := h
        injection h2 with e1 e2; subst e1; subst e2
        refine ⟨rfl, .string ⟨⟨bs⟩⟩, ?_, .s bs⟩
        obtain ⟨l, l1, l2, l3⟩ := srcV_ok (n := len) (m := len) (sz := 1) hw hx rfl (Nat.le_refl _) (by simp only [srcV, if_true, Nat.mul_one]; exact hcs)
        have l4 := l3 w rfl
        simp only [Builtin.firstCells, Nat.mul_one] at l4
        simp only [Conv.bytesToString, Sem.run_bind, l4, Result.andThen_ok, List.forIn_toArray]
        rw [bytesOf_ok (by intro n s w1; rfl) l2 hb]
        rfl
      · simp at h
    · simp at h

theorem runesStr_ok {xv : V} {x1 : Value} (hw : WR E ρ s w) (hx : VRel ρ w xv x1)
    (h : (match xv with
          | .sn => some (V.s [], s)
          | .sl id off len _ sz _ => if sz = 1 then (match s.rd id off len with
            | some cs => (runesOf cs).map fun bs => (V.s bs, s)
            | none => none) else none
          | _ => none) = some (v, s')) : s' = s ∧ ∃ v', (Conv.runesToString x1).run E.P w = .ok v' w ∧ VRel ρ w v v' := by
  have hsh : xv = .sn ∨ ∃ id off len lb sz ex, xv = .sl id off len lb sz ex := by
    cases xv <;> first | exact .inl rfl | exact .inr ⟨_, _, _, _, _, _, rfl⟩ | (simp at h)
  rcases hsh with rfl | ⟨id, off, len, lb, sz, ex, rfl⟩ <;> simp only at h
  · injection h with h; injection h with e1 e2; subst e1; subst e2
    rw [hx.inv_sn]
    exact ⟨rfl, _, rfl, .s []⟩
  · obtain ⟨b, sh, off', cap, hρ, a1, a2, a3, a4, a5, rfl⟩ := hx.inv_sl
    split at h
    · rename_i hs; subst hs
      split at h
      · rename_i cs hcs
        simp only [Option.map_eq_some_iff] at h
        obtain ⟨bs, hb, h2⟩ := h
        injection h2 with e1 e2; subst e1; subst e2
        refine ⟨rfl, .string ⟨⟨bs⟩⟩, ?_, .s bs⟩
        obtain ⟨l, l1, l2, l3⟩ := srcV_ok (n := len) (m := len) (sz := 1) hw hx rfl (Nat.le_refl _) (by simp only [srcV, if_true, Nat.mul_one]; exact hcs)
        have l4 := l3 w rfl
        simp only [Builtin.firstCells, Nat.mul_one] at l4
        simp only [Conv.runesToString, Sem.run_bind, l4, Result.andThen_ok, List.forIn_toArray]
        rw [runesOf_ok (by intro n s w1; rfl) l2 hb]
        rfl
      · simp at h
    · simp at h

theorem mnmx_ok {mx : Bool} : ∀ {vs : List V} {ls : List Value} {x : V} {x1 : Value}, VRel ρ w x x1 → VRelL ρ w vs ls → mnmxV mx x vs = some v →
    ∃ v', (ls.foldlM (if mx then Builtin.max2 else Builtin.min2) x1).run E.P w = .ok v' w ∧ VRel ρ w v v'
  | [], _, x, x1, hx, .nil, h => by
    simp [mnmxV] at h; subst h
    exact ⟨x1, by simp [List.foldlM], hx⟩
  | y :: vs, _, x, x1, hx, .cons hy t, h => by
    simp only [mnmxV, Option.bind_eq_some_iff] at h
    obtain ⟨z, hz, h⟩ := h
    cases x <;> cases y <;> simp only [mnmx2, reduceCtorEq] at hz
    rename_i k a k' b
    injection hz with hz
    rw [hx.inv_i, hy.inv_i]
    obtain ⟨v', h1, h2⟩ := mnmx_ok (x1 := .int k (if (if mx then decide (b > a) else decide (b < a)) then b else a)) (by rw [← hz]; exact .i _ _) t h
    refine ⟨v', ?_, h2⟩
    rw [List.foldlM_cons, Sem.run_bind]
    cases mx <;> simp [Builtin.max2, Builtin.min2] at h1 ⊢ <;> exact h1


end
end VE

namespace VE
open Go

/-! ## Types whose values are compared cell by cell -/

def fieldsB (P : Program) (f : TypeId → Option (List CK)) : List Field → Nat → Option (List CK)
  | [], _ => some []
  | x :: r, off =>
    match f x.type with
    | some l => if x.name != "_" && Nat.beq x.offset off then (fieldsB P f r (off + l.length)).map (l ++ ·) else none
    | none => none

/-- The kinds of the cells of a type that is compared cell by cell. -/
def eqB (P : Program) : Nat → TypeId → Option (List CK)
  | 0, _ => none
  | d + 1, t =>
    match P.underlying t, sizeV P t with
    | some u, some n =>
      match u with
      | .bool => if n = 1 then some [.b] else none
      | .int _ => if n = 1 then some [.i] else none
      | .float _ => if n = 1 then some [.f] else none
      | .complex _ => if n = 1 then some [.c] else none
      | .string => if n = 1 then some [.s] else none
      | .struct fs => if P.stoodInHeld t then none else
          match fieldsB P (eqB P d) fs.toList 0 with
          | some l => if l.length = n then some l else none
          | none => none
      | .array k e =>
        match eqB P d e with
        | some l => if k * l.length = n then some (List.replicate k l).flatten else none
        | none => none
      | _ => none
    | _, _ => none

section
variable {ρ : Rho} {w : World} {P : Program}

/-- A value of a type, by its cells. -/
def valIs (P : Program) (t : TypeId) (l : List Value) (x : Value) : Prop :=
  ∃ d, P.underlying t = some d ∧ if isAggD d = true then x = .agg l.toArray else l = [x]

theorem ceqs_split : ∀ {ks ks' : List CK} {xs ys : List V} {r : Bool}, ceqs (ks ++ ks') xs ys = some r →
    ∃ a b, ceqs ks (xs.take ks.length) (ys.take ks.length) = some a ∧ ceqs ks' (xs.drop ks.length) (ys.drop ks.length) = some b ∧ r = (a && b)
  | [], ks', xs, ys, r, h => ⟨true, r, by simp [ceqs], by simpa using h, by simp⟩
  | k :: ks, ks', [], ys, r, h => by simp [ceqs] at h
  | k :: ks, ks', x :: xs, [], r, h => by simp [ceqs] at h
  | k :: ks, ks', x :: xs, y :: ys, r, h => by
    simp only [List.cons_append, ceqs] at h
    split at h
    · rename_i a q h1 h2
      injection h with h; subst h
      obtain ⟨a', b', e1, e2, rfl⟩ := ceqs_split h2
      exact ⟨a && a', b', by simp [ceqs, h1, e1], by simpa using e2, by rw [Bool.and_assoc]⟩
    · simp at h

theorem ceqs_len : ∀ {ks : List CK} {xs ys : List V} {r : Bool}, ceqs ks xs ys = some r → xs.length = ks.length ∧ ys.length = ks.length
  | [], [], [], _, _ => ⟨rfl, rfl⟩
  | [], [], _ :: _, _, h => by simp [ceqs] at h
  | [], _ :: _, _, _, h => by simp [ceqs] at h
  | _ :: _, [], _, _, h => by simp [ceqs] at h
  | _ :: _, _ :: _, [], _, h => by simp [ceqs] at h
  | k :: ks, x :: xs, y :: ys, r, h => by
    simp only [ceqs] at h
    split at h
    · rename_i a q h1 h2
      obtain ⟨e1, e2⟩ := ceqs_len h2
      simp [e1, e2]
    · simp at h

theorem part_valIs {t : TypeId} {d : TypeDesc} {n : Nat} (hu : P.underlying t = some d) (hn : sizeV P t = some n) (hd : isAggD d = false → n = 1) {c : Array Value} {off : Nat} (hle : n = 0 ∨ off + n ≤ c.size) (w : World) :
    ∃ x, (part t c off).run P w = .ok x w ∧ valIs P t ((c.toList.drop off).take n) x := by
  cases ha : isAggD d with
  | true =>
    refine ⟨.agg (c.extract off (off + n)), ?_, d, hu, ?_⟩
    · have : (isAgg t).run P w = .ok true w := by cases d <;> simp [isAggD] at ha <;> simp [isAgg, r_und hu]
      simp [part, this, r_size hn]
    · rw [if_pos ha]
      congr 1
      apply Array.ext'
      simp [Array.toList_extract, List.extract, Nat.add_sub_cancel_left]
  | false =>
    have hn1 := hd ha
    subst hn1
    have hlt : off < c.size := by omega
    refine ⟨c[off], ?_, d, hu, ?_⟩
    · have : (isAgg t).run P w = .ok false w := by cases d <;> simp [isAggD] at ha <;> simp [isAgg, r_und hu]
      simp [part, this, Array.getElem?_eq_getElem hlt]
    · rw [if_neg (by simp [ha])]
      rw [List.drop_eq_getElem_cons (by simpa using hlt)]
      simp

def kindD : CK → TypeDesc → Bool
  | .b, .bool | .i, .int _ | .s, .string | .f, .float _ | .c, .complex _ => true
  | _, _ => false

theorem eq_cell {t : TypeId} {u : TypeDesc} {k : CK} (hu : P.underlying t = some u) (hs : kindD k u = true) {x y : V} {x' y' : Value} {r : Bool}
    (hx : VRel ρ w x x') (hy : VRel ρ w y y') (h : ceq k x y = some r) (D : Nat) (w1 : World) : (Op.equalIn (D + 1) t x' y').run P w1 = .ok r w1 := by
  unfold ceq at h
  split at h
  · injection h with h; subst h
    rw [hx.inv_b, hy.inv_b]
    cases u <;> simp [kindD] at hs
    simp [Op.equalIn, r_und hu]
  · split at h
    · rename_i e; subst e
      injection h with h; subst h
      rw [hx.inv_i, hy.inv_i]
      cases u <;> simp [kindD] at hs
      simp [Op.equalIn, r_und hu]
    · simp at h
  · injection h with h; subst h
    rw [hx.inv_s, hy.inv_s]
    cases u <;> simp [kindD] at hs
    rename_i a b
    have : ((⟨⟨a⟩⟩ : ByteArray) == ⟨⟨b⟩⟩) = (a == b) := by
      rw [beq_toListBytes, ByteArray.toList_eq, ByteArray.toList_eq]
    simp [Op.equalIn, r_und hu, this]
  · split at h
    · rename_i e; subst e
      injection h with h; subst h
      rw [hx.inv_f, hy.inv_f]
      cases u <;> simp [kindD] at hs
      simp [Op.equalIn, r_und hu]
    · simp at h
  · split at h
    · rename_i e; subst e
      injection h with h; subst h
      rw [hx.inv_c, hy.inv_c]
      cases u <;> simp [kindD] at hs
      simp [Op.equalIn, r_und hu]
    · simp at h
  · simp at h

/-- What is asked of a type, so deep: its values are compared cell by cell. -/
def EqAt (P : Program) (d : Nat) (t : TypeId) (ks : List CK) : Prop :=
  sizeV P t = some ks.length ∧ (∃ u, P.underlying t = some u ∧ (isAggD u = false → ks.length = 1)) ∧
  ∀ (D : Nat) (ρ : Rho) (w : World) (xs ys : List V) (cs ds : List Value) (x' y' : Value) (r : Bool), d ≤ D → ceqs ks xs ys = some r → VRelL ρ w xs cs → VRelL ρ w ys ds → valIs P t cs x' → valIs P t ds y' →
    ∀ w1 : World, (Op.equalIn D t x' y').run P w1 = .ok r w1

theorem eqAt_cell {d : Nat} {t : TypeId} {u : TypeDesc} {k : CK} (hu : P.underlying t = some u) (hn : sizeV P t = some 1) (hk : kindD k u = true) : EqAt P (d + 1) t [k] := by
  have hag : isAggD u = false := by cases u <;> cases k <;> simp [kindD] at hk <;> rfl
  refine ⟨hn, ⟨u, hu, fun _ => rfl⟩, ?_⟩
  intro D ρ w xs ys cs ds x' y' r hD h hx hy vx vy w1
  obtain ⟨u1, hu1, vx⟩ := vx
  obtain ⟨u2, hu2, vy⟩ := vy
  rw [hu] at hu1 hu2
  injection hu1 with hu1; injection hu2 with hu2
  subst hu1; subst hu2
  rw [if_neg (by simp [hag])] at vx vy
  subst vx; subst vy
  cases hx with
  | cons hx tx => cases tx; cases hy with
    | cons hy ty =>
      cases ty
      simp only [ceqs] at h
      split at h
      · rename_i a q h1 h2
        injection h2 with h2; subst h2
        injection h with h; subst h
        obtain ⟨D, rfl⟩ : ∃ m, D = m + 1 := ⟨D - 1, by omega⟩
        rw [Bool.and_true]
        exact eq_cell hu hk hx hy h1 D w1
      · simp at h

theorem eqFields_ok {d : Nat} {ρ : Rho} {w : World} : ∀ (fs : List Field) (off : Nat) (ks : List CK) (D : Nat) (X Y : List V) (cs ds : Array Value) (r : Bool),
    fieldsB P (eqB P d) fs off = some ks → (∀ t l, eqB P d t = some l → EqAt P d t l) → d ≤ D → ceqs ks (X.drop off) (Y.drop off) = some r → VRelL ρ w X cs.toList → VRelL ρ w Y ds.toList →
    ∀ w1 : World, (Op.eqFields D cs ds fs).run P w1 = .ok r w1
  | [], off, ks, D, X, Y, cs, ds, r, hf, _, hD, h, hx, hy, w1 => by
    simp [fieldsB] at hf; subst hf
    have := ceqs_len h
    have e1 : X.drop off = [] := List.length_eq_zero_iff.1 (by simpa using this.1)
    have e2 : Y.drop off = [] := List.length_eq_zero_iff.1 (by simpa using this.2)
    rw [e1, e2] at h
    simp [ceqs] at h; subst h
    rfl
  | f :: fs, off, ks, D, X, Y, cs, ds, r, hf, hall, hD, h, hx, hy, w1 => by
    simp only [fieldsB] at hf
    split at hf
    · rename_i l hl
      split at hf
      · rename_i hc
        simp only [Bool.and_eq_true, bne_iff_ne, ne_eq] at hc
        have ho : f.offset = off := Nat.eq_of_beq_eq_true hc.2
        simp only [Option.map_eq_some_iff] at hf
        obtain ⟨ks', hk', rfl⟩ := hf
        obtain ⟨a, b, h1, h2, rfl⟩ := ceqs_split h
        obtain ⟨hsz, ⟨u, hu, hu1⟩, heq⟩ := hall _ _ hl
        have hlx := hx.length
        have hly := hy.length
        simp at hlx hly
        have g1 := ceqs_len h1
        simp only [List.length_take, List.length_drop] at g1
        obtain ⟨x', px, vx⟩ := part_valIs (c := cs) (off := f.offset) hu hsz hu1 (by omega) w1
        obtain ⟨y', py, vy⟩ := part_valIs (c := ds) (off := f.offset) hu hsz hu1 (by omega) w1
        rw [ho] at px py vx vy
        have pe := heq D ρ w _ _ _ _ x' y' a hD h1 ((hx.drop off).take _) ((hy.drop off).take _) vx vy w1
        have ih := eqFields_ok fs (off + l.length) ks' D X Y cs ds b hk' hall hD (by simpa [List.drop_drop] using h2) hx hy w1
        simp only [Op.eqFields, if_pos hc.1, ho, Sem.run_bind, px, py, pe, Result.andThen_ok]
        cases a with
        | false => simp
        | true => simpa using ih
      · simp at hf
    · simp at hf

theorem eqItems_ok {d : Nat} {ρ : Rho} {w : World} {e : TypeId} {l : List CK} (he : EqAt P d e l) : ∀ (n i : Nat) (D : Nat) (X Y : List V) (cs ds : Array Value) (r : Bool),
    d ≤ D → ceqs (List.replicate n l).flatten (X.drop (i * l.length)) (Y.drop (i * l.length)) = some r → VRelL ρ w X cs.toList → VRelL ρ w Y ds.toList →
    ∀ w1 : World, (Op.eqItems D e l.length cs ds (List.range' i n)).run P w1 = .ok r w1
  | 0, i, D, X, Y, cs, ds, r, hD, h, hx, hy, w1 => by
    simp only [List.replicate_zero, List.flatten_nil] at h
    have := ceqs_len h
    have e1 : X.drop (i * l.length) = [] := List.length_eq_zero_iff.1 (by simpa using this.1)
    have e2 : Y.drop (i * l.length) = [] := List.length_eq_zero_iff.1 (by simpa using this.2)
    rw [e1, e2] at h
    simp [ceqs] at h; subst h
    rfl
  | n + 1, i, D, X, Y, cs, ds, r, hD, h, hx, hy, w1 => by
    rw [List.replicate_succ, List.flatten_cons] at h
    obtain ⟨a, b, h1, h2, rfl⟩ := ceqs_split h
    obtain ⟨hsz, ⟨u, hu, hu1⟩, heq⟩ := he
    have hlx := hx.length
    have hly := hy.length
    simp at hlx hly
    have g1 := ceqs_len h1
    simp only [List.length_take, List.length_drop] at g1
    have hz : l.length = 0 ∨ i * l.length + l.length ≤ X.length ∧ i * l.length + l.length ≤ Y.length := by omega
    have hp : ∀ c : Array Value, (l.length = 0 ∨ i * l.length + l.length ≤ c.size) → ∃ x, (part e c (i * l.length)).run P w1 = .ok x w1 ∧ valIs P e ((c.toList.drop (i * l.length)).take l.length) x :=
      fun c hc => part_valIs hu hsz hu1 hc w1
    obtain ⟨x', px, vx⟩ := hp cs (by omega)
    obtain ⟨y', py, vy⟩ := hp ds (by omega)
    have pe := heq D ρ w _ _ _ _ x' y' a hD h1 ((hx.drop _).take _) ((hy.drop _).take _) vx vy w1
    have ih := eqItems_ok ⟨hsz, ⟨u, hu, hu1⟩, heq⟩ n (i + 1) D X Y cs ds b hD (by simpa [List.drop_drop, Nat.add_mul] using h2) hx hy w1
    rw [List.range'_succ]
    simp only [Op.eqItems, Sem.run_bind, px, py, pe, Result.andThen_ok]
    cases a with
    | false => simp
    | true => simpa using ih

theorem eqB_ok : ∀ (d : Nat) (t : TypeId) (ks : List CK), eqB P d t = some ks → EqAt P d t ks
  | 0, t, ks, h => by simp [eqB] at h
  | d + 1, t, ks, h => by
    simp only [eqB] at h
    split at h
    · rename_i u n hu hn
      split at h
      · split at h
        · rename_i e; subst e; injection h with h; subst h; exact eqAt_cell hu hn rfl
        · simp at h
      · split at h
        · rename_i e; subst e; injection h with h; subst h; exact eqAt_cell hu hn rfl
        · simp at h
      · split at h
        · rename_i e; subst e; injection h with h; subst h; exact eqAt_cell hu hn rfl
        · simp at h
      · split at h
        · rename_i e; subst e; injection h with h; subst h; exact eqAt_cell hu hn rfl
        · simp at h
      · split at h
        · rename_i e; subst e; injection h with h; subst h; exact eqAt_cell hu hn rfl
        · simp at h
      · rename_i fs
        split at h
        · simp at h
        · rename_i hst
          split at h
          · rename_i l hl
            split at h
            · rename_i hln
              injection h with h; subst h; subst hln
              refine ⟨hn, ⟨_, hu, fun e => by simp [isAggD] at e⟩, ?_⟩
              intro D ρ w xs ys cs ds x' y' r hD h hx hy vx vy w1
              obtain ⟨u1, hu1, vx⟩ := vx
              obtain ⟨u2, hu2, vy⟩ := vy
              rw [hu] at hu1 hu2
              injection hu1 with hu1; injection hu2 with hu2
              subst hu1; subst hu2
              rw [if_pos (by rfl)] at vx vy
              subst vx; subst vy
              obtain ⟨D, rfl⟩ : ∃ m, D = m + 1 := ⟨D - 1, by omega⟩
              have hfo : P.fieldsOf t = fs := by simp [Program.fieldsOf, hu]
              rw [run_equalIn_struct w1 D t cs.toArray ds.toArray (by rw [hfo]; exact hu) (by simpa using hst), hfo]
              exact eqFields_ok fs.toList 0 l D xs ys _ _ r hl (fun t l h => eqB_ok d t l h) (by omega) (by simpa using h) (by simpa using hx) (by simpa using hy) w1
            · simp at h
          · simp at h
      · rename_i k e
        split at h
        · rename_i l hl
          split at h
          · rename_i hln
            injection h with h; subst h; subst hln
            have hlen : (List.replicate k l).flatten.length = k * l.length := by
              have : ∀ (n : Nat), (List.replicate n l).flatten.length = n * l.length := by
                intro n
                induction n with
                | zero => simp
                | succ n ih => rw [List.replicate_succ, List.flatten_cons, List.length_append, ih, Nat.succ_mul]; omega
              exact this k
            refine ⟨by rw [hlen]; exact hn, ⟨_, hu, fun e => by simp [isAggD] at e⟩, ?_⟩
            intro D ρ w xs ys cs ds x' y' r hD h hx hy vx vy w1
            obtain ⟨u1, hu1, vx⟩ := vx
            obtain ⟨u2, hu2, vy⟩ := vy
            rw [hu] at hu1 hu2
            injection hu1 with hu1; injection hu2 with hu2
            subst hu1; subst hu2
            rw [if_pos (by rfl)] at vx vy
            subst vx; subst vy
            obtain ⟨D, rfl⟩ : ∃ m, D = m + 1 := ⟨D - 1, by omega⟩
            have heq := eqB_ok d e l hl
            obtain ⟨i, hi⟩ : ∃ i, P.info? e = some i := by
              have := heq.1
              simp only [sizeV, Option.map_eq_some_iff] at this
              obtain ⟨i, hi, _⟩ := this; exact ⟨i, hi⟩
            have hco : P.cellsOf e = l.length := by
              have := heq.1
              simp only [sizeV, hi, Option.map_some] at this
              injection this with this
              simp [Program.cellsOf, hi, this]
            rw [run_equalIn_array w1 D cs.toArray ds.toArray hu hi, hco, List.range_eq_range']
            exact eqItems_ok heq k 0 D xs ys _ _ r (by omega) (by simpa using h) (by simpa using hx) (by simpa using hy) w1
          · simp at h
        · simp at h
      · simp at h
    · simp at h

end
end VE

namespace VE
open Go

def scalarD : TypeDesc → Bool
  | .bool | .int _ | .string => true
  | _ => false

/-- A key's type: bool, whole numbers, text, or a struct of these. -/
def keyB (P : Program) (t : TypeId) : Bool :=
  match P.underlying t with
  | some (.struct fs) => fs.toList.all fun f => match P.underlying f.type with
    | some d => scalarD d
    | none => false
  | some d => scalarD d
  | none => false

structure EnvOk (E : Env) : Prop where
  mixed : E.P.follows .mixedOrders = true
  eqs : ∀ t ks, E.eqs.lookup t = some ks → eqB E.P 100 t = some ks ∧ E.P.eqGuardType E.P.depth t = false
  keys : ∀ t ks, E.keys.lookup t = some ks → eqB E.P 100 t = some ks ∧ keyB E.P t = true

section
variable {E : Env} {lo : Nat} {ρ : Rho} {s s' : St} {w : World} {v : V}

theorem checkKey_scalar {P : Program} {t : TypeId} {d : TypeDesc} (hu : P.underlying t = some d) (hd : scalarD d = true) (b : Bool) (n : Nat) (x : Value) (w1 : World) : (Instr.checkKey b (n + 1) t x).run P w1 = .ok () w1 := by
  cases d <;> simp [scalarD] at hd <;> (simp only [Instr.checkKey, Sem.run_bind, r_und hu, Result.andThen_ok]; rfl)

theorem checkKey_ok {P : Program} {t : TypeId} {ks : List CK} {dd : Nat} (hk : keyB P t = true) (he : eqB P (dd + 1) t = some ks) {cs : List Value} {x : Value} (hl : cs.length = ks.length) (hv : valIs P t cs x) (b : Bool) (w1 : World) :
    ∀ N, (Instr.checkKey b (N + 2) t x).run P w1 = .ok () w1 := by
  intro N
  obtain ⟨d, hu, hv⟩ := hv
  unfold keyB at hk
  rw [hu] at hk
  by_cases hs : ∃ fs, d = .struct fs
  · obtain ⟨fs, rfl⟩ := hs
    simp only at hk
    rw [if_pos (by rfl)] at hv
    subst hv
    simp only [eqB, hu] at he
    split at he
    · rename_i u n hu' hn
      injection hu' with hu'; subst hu'
      simp only at he
      split at he
      · simp at he
      · split at he
        · rename_i l hf
          split at he
          · injection he with he; subst he
            rename_i hln
            have key : ∀ (fs : List Field) (off : Nat) (l : List CK), fieldsB P (eqB P dd) fs off = some l → off + l.length ≤ cs.length → (fs.all fun f => match P.underlying f.type with
                | some d => scalarD d
                | none => false) = true →
                (forIn (m := Sem) fs PUnit.unit fun f _ => do
                  if f.name ≠ "_" then Instr.checkKey b (N + 1) f.type (← part f.type cs.toArray f.offset)
                  pure (ForInStep.yield PUnit.unit)).run P w1 = .ok PUnit.unit w1 := by
              intro fs
              induction fs with
              | nil => intro off l _ _ _; rfl
              | cons f fs ih =>
                intro off l hf hle hall
                simp only [fieldsB] at hf
                split at hf
                · rename_i l1 hl1
                  split at hf
                  · rename_i hc
                    simp only [Bool.and_eq_true, bne_iff_ne, ne_eq] at hc
                    have ho : f.offset = off := Nat.eq_of_beq_eq_true hc.2
                    simp only [Option.map_eq_some_iff] at hf
                    obtain ⟨l2, hl2, rfl⟩ := hf
                    simp only [List.all_cons, Bool.and_eq_true] at hall
                    simp only [List.length_append] at hle
                    obtain ⟨hsz, ⟨u, hu2, hu3⟩, _⟩ := eqB_ok dd _ _ hl1
                    rw [hu2] at hall
                    obtain ⟨x', px, _⟩ := part_valIs (c := cs.toArray) (off := f.offset) hu2 hsz hu3 (by right; simp; omega) w1
                    have hk1 := checkKey_scalar hu2 hall.1 b N x' w1
                    have := ih (off + l1.length) l2 hl2 (by omega) hall.2
                    simp only [List.forIn_cons, Sem.run_bind, if_pos hc.1, px, hk1, Result.andThen_ok, Sem.run_pure]
                    exact this
                  · simp at hf
                · simp at hf
            have := key fs.toList 0 l hf (by omega) hk
            rw [Instr.checkKey]
            simp only [Sem.run_bind, r_und hu, Result.andThen_ok]
            rw [← Array.forIn_toList]
            rw [this]; rfl
          · simp at he
        · simp at he
    · simp at he
  · have hd : scalarD d = true := by
      cases d <;> first | (exact absurd ⟨_, rfl⟩ hs) | exact hk
    exact checkKey_scalar hu hd b (N + 1) x w1


theorem keq_ok {P : Program} {t : TypeId} {d : TypeDesc} {ks : List CK} {dd : Nat} (hu : P.underlying t = some d) (he : eqB P dd t = some ks) (hdd : dd ≤ Op.maxDepth) {x y : V} {x' y' : Value} {r : Bool} (hx : VRel ρ w x x') (hy : VRel ρ w y y')
    (h : keq (isAggD d) ks x y = some r) : (∀ w1 : World, (Op.equal t x' y').run P w1 = .ok r w1) ∧ valIs P t x'.cells.toList x' ∧ x'.cells.size = ks.length := by
  unfold keq at h
  split at h
  · rename_i hag
    simp only [Bool.and_eq_true, beq_iff_eq] at hag
    obtain ⟨h1, h2, h3⟩ := eqB_ok dd t ks he
    have vi : ∀ {z : V} {z' : Value}, VRel ρ w z z' → isAgV z = isAggD d → valIs P t z'.cells.toList z' := by
      intro z z' hz e
      refine ⟨d, hu, ?_⟩
      cases hd : isAggD d with
      | true =>
        rw [hd] at e
        cases z <;> simp [isAgV] at e
        obtain ⟨cs, _, rfl⟩ := hz.inv_ag
        simp [Value.cells]
      | false =>
        rw [hd] at e
        cases hz <;> first | (simp [isAgV] at e; done) | simp [Value.cells]
    have hl := ceqs_len h
    refine ⟨fun w1 => h3 Op.maxDepth ρ w _ _ _ _ x' y' r hdd h hx.cells hy.cells (vi hx hag.1) (vi hy hag.2) w1, vi hx hag.1, ?_⟩
    have := hx.cells.length
    simp at this; omega
  · simp at h

/-- A list of entries, and the model's. -/
def ERel (ρ : Rho) (w : World) (es : List (V × V)) (es' : List MapEntry) : Prop := VRelL ρ w (es.map (·.1)) (es'.map (·.key)) ∧ VRelL ρ w (es.map (·.2)) (es'.map (·.val))

theorem ERel.cons_inv {a u : V} {es : List (V × V)} {es' : List MapEntry} (h : ERel ρ w ((a, u) :: es) es') : ∃ e r, es' = e :: r ∧ VRel ρ w a e.key ∧ VRel ρ w u e.val ∧ ERel ρ w es r := by
  obtain ⟨h1, h2⟩ := h
  cases es' with
  | nil => cases h1
  | cons e r =>
    simp only [List.map_cons] at h1 h2
    cases h1 with | cons h1 t1 => cases h2 with | cons h2 t2 => exact ⟨e, r, rfl, h1, h2, t1, t2⟩

theorem ERel.nil_inv {es' : List MapEntry} (h : ERel ρ w [] es') : es' = [] := by
  cases es' with
  | nil => rfl
  | cons e r => obtain ⟨h, _⟩ := h; cases h

/-- Where a key is found, and what stands there. -/
def idxE (ag : Bool) (ks : List CK) (k : V) : List (V × V) → Option (Option Nat)
  | [] => some none
  | (a, _) :: r =>
    match keq ag ks k a with
    | some true => some (some 0)
    | some false => (idxE ag ks k r).map fun o => o.map (· + 1)
    | none => none

theorem findE_idx {ag : Bool} {ks : List CK} {k : V} : ∀ {es : List (V × V)} {r : Option V}, findE ag ks k es = some r → ∃ o, idxE ag ks k es = some o ∧ r = o.bind fun i => (es[i]?).map (·.2)
  | [], r, h => by simp [findE] at h; subst h; exact ⟨none, rfl, rfl⟩
  | (a, u) :: es, r, h => by
    simp only [findE] at h
    simp only [idxE]
    split at h
    · rename_i e; injection h with h; subst h; exact ⟨some 0, by rw [e], rfl⟩
    · rename_i e
      obtain ⟨o, h1, h2⟩ := findE_idx h
      refine ⟨o.map (· + 1), by rw [e, h1]; rfl, ?_⟩
      rw [h2]; cases o <;> rfl
    · simp at h

theorem putE_idx {ag : Bool} {ks : List CK} {k v : V} : ∀ {es es2 : List (V × V)}, putE ag ks k v es = some es2 → ∃ o, idxE ag ks k es = some o ∧
    es2 = (match o with | none => es ++ [(k, v)] | some i => es.set i (k, v))
  | [], es2, h => by simp [putE] at h; subst h; exact ⟨none, rfl, rfl⟩
  | (a, u) :: es, es2, h => by
    simp only [putE] at h
    simp only [idxE]
    split at h
    · rename_i e; injection h with h; subst h; exact ⟨some 0, by rw [e], rfl⟩
    · rename_i e
      simp only [Option.map_eq_some_iff] at h
      obtain ⟨es3, h1, rfl⟩ := h
      obtain ⟨o, h2, h3⟩ := putE_idx h1
      refine ⟨o.map (· + 1), by rw [e, h2]; rfl, ?_⟩
      rw [h3]; cases o <;> rfl
    · simp at h

/-- A key that is looked for. -/
theorem findAsking_ok {P : Program} {t : TypeId} {d : TypeDesc} {ks : List CK} {dd : Nat} (hu : P.underlying t = some d) (he : eqB P dd t = some ks) (hdd : dd ≤ Op.maxDepth) {k : V} {k' : Value} (hk : VRel ρ w k k') :
    ∀ (es : List (V × V)) (es' : List MapEntry) (j : Nat) (o : Option Nat), ERel ρ w es es' → idxE (isAggD d) ks k es = some o →
    ∀ w1 : World, (Instr.findAsking t k' es' j).run P w1 = .ok (o.bind fun i => (es'[i]?).map fun e => (j + i, e.val)) w1
  | [], es', j, o, hr, h, w1 => by
    have := hr.nil_inv; subst this
    simp [idxE] at h; subst h
    rfl
  | (a, u) :: es, es', j, o, hr, h, w1 => by
    obtain ⟨e, r, rfl, h1, h2, h3⟩ := hr.cons_inv
    simp only [idxE] at h
    split at h
    · rename_i hq
      injection h with h; subst h
      obtain ⟨q, _⟩ := keq_ok hu he hdd hk h1 hq
      simp [Instr.findAsking, q w1]
    · rename_i hq
      simp only [Option.map_eq_some_iff] at h
      obtain ⟨o', h4, rfl⟩ := h
      obtain ⟨q, _⟩ := keq_ok hu he hdd hk h1 hq
      have ih := findAsking_ok hu he hdd hk es r (j + 1) o' h3 h4 w1
      simp only [Instr.findAsking, Sem.run_bind, q w1, Result.andThen_ok, Bool.false_eq_true, if_false, ih]
      cases o' with
      | none => rfl
      | some i => simp [Nat.add_assoc, Nat.add_comm 1 i]
    · simp at h

theorem sameNow_keq {P : Program} {t : TypeId} {d : TypeDesc} {ks : List CK} {dd : Nat} (hu : P.underlying t = some d) (he : eqB P dd t = some ks) (hdd : dd ≤ Op.maxDepth) {x y : V} {x' y' : Value} {r b : Bool}
    (hx : VRel ρ w x x') (hy : VRel ρ w y y') (h : keq (isAggD d) ks x y = some r) (hn : Instr.sameNow d x' y' = some b) : b = r := by
  obtain ⟨q, _⟩ := keq_ok hu he hdd hx hy h
  have q := q w
  unfold Instr.sameNow at hn
  split at hn
  · split at hn
    · rename_i e; subst e; injection hn with hn; subst hn
      rw [Op.equal, show Op.maxDepth = 9999 + 1 from rfl, run_equalIn_int w 9999 t _ _ _ _ hu] at q
      injection q
    · simp at hn
  · injection hn with hn; subst hn
    rw [Op.equal, show Op.maxDepth = 9999 + 1 from rfl, run_equalIn_string w 9999 t _ _ hu, ← beq_toListBytes] at q
    injection q
  · injection hn with hn; subst hn
    rw [Op.equal, show Op.maxDepth = 9999 + 1 from rfl, run_equalIn_bool' w 9999 t _ _ hu] at q
    injection q
  · simp at hn

theorem findNow_ok {P : Program} {t : TypeId} {d : TypeDesc} {ks : List CK} {dd : Nat} (hu : P.underlying t = some d) (he : eqB P dd t = some ks) (hdd : dd ≤ Op.maxDepth) {k : V} {k' : Value} (hk : VRel ρ w k k') :
    ∀ (es : List (V × V)) (es' : List MapEntry) (j : Nat) (o : Option Nat) (res : Option (Nat × Value)), ERel ρ w es es' → idxE (isAggD d) ks k es = some o → Instr.findNow d k' es' j = some res →
      res = o.bind fun i => (es'[i]?).map fun e => (j + i, e.val)
  | [], es', j, o, res, hr, h, hf => by
    have := hr.nil_inv; subst this
    simp [idxE] at h; subst h
    simp [Instr.findNow] at hf; exact hf.symm
  | (a, u) :: es, es', j, o, res, hr, h, hf => by
    obtain ⟨e, r, rfl, h1, h2, h3⟩ := hr.cons_inv
    simp only [idxE] at h
    simp only [Instr.findNow] at hf
    split at h
    · rename_i hq
      injection h with h; subst h
      split at hf
      · injection hf with hf; subst hf; simp
      · rename_i hs; exact absurd (sameNow_keq hu he hdd hk h1 hq hs) (by simp)
      · simp at hf
    · rename_i hq
      simp only [Option.map_eq_some_iff] at h
      obtain ⟨o', h4, rfl⟩ := h
      split at hf
      · rename_i hs; exact absurd (sameNow_keq hu he hdd hk h1 hq hs) (by simp)
      · have ih := findNow_ok hu he hdd hk es r (j + 1) o' res h3 h4 hf
        rw [ih]
        cases o' with
        | none => rfl
        | some i => simp [Nat.add_assoc, Nat.add_comm 1 i]
      · simp at hf
    · simp at h

theorem findKey_ok {P : Program} {t : TypeId} {d : TypeDesc} {ks : List CK} {dd : Nat} (hu : P.underlying t = some d) (he : eqB P dd t = some ks) (hdd : dd ≤ Op.maxDepth) {k : V} {k' : Value} (hk : VRel ρ w k k')
    {es : List (V × V)} {es' : List MapEntry} {o : Option Nat} (hr : ERel ρ w es es') (h : idxE (isAggD d) ks k es = some o) (w1 : World) :
    (Instr.findKey t k' es').run P w1 = .ok (o.bind fun i => (es'[i]?).map fun e => (i, e.val)) w1 := by
  simp only [Instr.findKey, Sem.run_bind, r_und hu, Result.andThen_ok]
  split
  · rename_i res hf
    rw [findNow_ok hu he hdd hk es es' 0 o res hr h hf]
    simp
  · rw [findAsking_ok hu he hdd hk es es' 0 o hr h w1]
    simp

theorem idxE_lt {ag : Bool} {ks : List CK} {k : V} : ∀ {es : List (V × V)} {i : Nat}, idxE ag ks k es = some (some i) → ∃ a u, es[i]? = some (a, u) ∧ keq ag ks k a = some true
  | [], i, h => by simp [idxE] at h
  | (a, u) :: es, i, h => by
    simp only [idxE] at h
    split at h
    · rename_i e; injection h with h; injection h with h; subst h; exact ⟨a, u, rfl, e⟩
    · simp only [Option.map_eq_some_iff] at h
      obtain ⟨o, h1, h2⟩ := h
      cases o with
      | none => simp at h2
      | some j => simp at h2; subst h2; simpa using idxE_lt h1
    · simp at h

theorem keyConds {E : Env} (hE : EnvOk E) {t : TypeId} {ks : List CK} (h : E.keys.lookup t = some ks) : eqB E.P 100 t = some ks ∧ keyB E.P t = true ∧ 100 ≤ Op.maxDepth := by
  obtain ⟨a, b⟩ := hE.keys t ks h
  exact ⟨a, b, by decide⟩

/-- Every key in reach has the shape of its type: what is asked of one that is looked for in an empty map, too. -/
theorem lookup_ok (hE : EnvOk E) {t kt e : TypeId} {ks : List CK} {d : TypeDesc} {z : V} {ok : Bool} {mv kv : V} {m1 k1 : Value} (hw : WR E ρ s w) (ht : E.P.underlying t = some (.map kt e)) (hz : zeroV E.P e = some z)
    (hk : E.keys.lookup kt = some ks) (hd : E.P.underlying kt = some d) (hm : VRel ρ w mv m1) (hkv : VRel ρ w kv k1) {es : List (V × V)} {r : Option V} (hself : (keq (isAggD d) ks kv kv).isSome = true)
    (hes : (match mv with
        | .mn => some []
        | .m id => match s.heap.get id with
          | some (.map es) => some es
          | _ => none
        | _ => (none : Option (List (V × V)))) = some es) (hf : findE (isAggD d) ks kv es = some r) :
    ∃ v', (Instr.lookup t m1 k1 ok).run E.P w = .ok v' w ∧ VRel ρ w (lkV ok z r) v' := by
  obtain ⟨he, hkb, hdd⟩ := keyConds hE hk
  obtain ⟨o, h1, h2⟩ := findE_idx hf
  obtain ⟨z', hz1, hzr⟩ := r_zero hz w
  have hck : ∀ b w1, (Instr.checkKey b 10000 kt k1).run E.P w1 = .ok () w1 := by
    intro b w1
    cases hq : keq (isAggD d) ks kv kv with
    | none => rw [hq] at hself; simp at hself
    | some q =>
      obtain ⟨_, q2, q3⟩ := keq_ok hd he hdd hkv hkv hq
      exact checkKey_ok (dd := 99) hkb he (by simpa using q3) q2 b w1 9998
  have body : ∀ (arr : Array MapEntry), ERel ρ w es arr.toList → (do
        Instr.checkKey arr.isEmpty 10000 kt k1
        let (v, ok') ← match ← Instr.findKey kt k1 arr.toList with
          | some (_, v) => pure (v, true)
          | none => pure (← zeroValue e, false)
        pure (if ok then .tuple #[v, .bool ok'] else v) : Sem Value).run E.P w =
      .ok (match o.bind fun i => (arr.toList[i]?).map (·.val) with | some x => if ok then .tuple #[x, .bool true] else x | none => if ok then .tuple #[z', .bool false] else z') w := by
    intro arr hr
    have hfk := findKey_ok hd he hdd hkv hr h1 w
    simp only [Sem.run_bind, hck, Result.andThen_ok, hfk]
    cases o with
    | none => simp [hz1]
    | some i =>
      obtain ⟨a, u, g1, _⟩ := idxE_lt h1
      have hlt : i < es.length := (List.getElem?_eq_some_iff.1 g1).1
      have : arr.toList.length = es.length := by have := hr.1.length; simp at this ⊢; omega
      have hi : i < arr.toList.length := by omega
      simp [List.getElem?_eq_getElem hi] at *
      simp [show i < arr.size from by simpa using hi]
  have rel : ∀ (arr : Array MapEntry), ERel ρ w es arr.toList → VRel ρ w (lkV ok z r)
      (match o.bind fun i => (arr.toList[i]?).map (·.val) with | some x => if ok then .tuple #[x, .bool true] else x | none => if ok then .tuple #[z', .bool false] else z') := by
    intro arr hr
    rw [h2]
    cases o with
    | none =>
      simp only [Option.bind_none, lkV]
      cases ok with
      | true => exact .tu (.cons (hzr ρ w) (.cons (.b _) .nil))
      | false => exact hzr ρ w
    | some i =>
      obtain ⟨a, u, g1, _⟩ := idxE_lt h1
      obtain ⟨u', g2, g3⟩ := hr.2.get (show (es.map (·.2))[i]? = some u by simp [g1])
      rw [List.getElem?_map] at g2
      simp only [Option.bind_some, g1, Option.map_some, g2, lkV]
      cases ok with
      | true => exact .tu (.cons g3 (.cons (.b _) .nil))
      | false => exact g3
  cases mv <;> simp only [reduceCtorEq] at hes
  · rename_i id
    obtain ⟨b, sh, hρ, rfl⟩ := hm.inv_m
    split at hes
    · rename_i es0 hg
      injection hes with hes; subst hes
      obtain ⟨arr, clock, hb, hr1, hr2⟩ := hw.obj _ _ _ _ hρ hg
      refine ⟨_, ?_, rel arr ⟨hr1, hr2⟩⟩
      rw [← body arr ⟨hr1, hr2⟩]
      simp only [Instr.lookup, Sem.run_bind, r_und ht, Result.andThen_ok]
      have : (getObj b).run E.P w = .ok (.map arr clock) w := by simp [getObj, Sem.run, hb]
      simp only [this, Result.andThen_ok, Sem.run_bind, Sem.run_pure]
      rfl
    · simp at hes
  · injection hes with hes; subst hes
    rw [hm.inv_mn]
    refine ⟨_, ?_, rel #[] ⟨.nil, .nil⟩⟩
    rw [← body #[] ⟨.nil, .nil⟩]
    simp only [Instr.lookup, Sem.run_bind, r_und ht, Result.andThen_ok, Sem.run_pure]
    rfl


theorem sameBits_rel {ks : List CK} {ag : Bool} {x y : V} {x' y' : Value} (hx : VRel ρ w x x') (hy : VRel ρ w y y') (h : keq ag ks x y = some true) (hks : ∀ k ∈ ks, k = CK.b ∨ k = CK.i ∨ k = CK.s) (hval : (isAgV x = true → ∀ v ∈ x.cells, isAgV v = false) ) :
    ∀ n, Instr.sameBits (n + 1) y' x' = true := by
  have cell : ∀ (k : CK) (a b : V) (a' b' : Value) (r : Bool), (k = CK.b ∨ k = CK.i ∨ k = CK.s) → VRel ρ w a a' → VRel ρ w b b' → ceq k a b = some true → ∀ n, Instr.sameBits n b' a' = true := by
    intro k a b a' b' r hk ha hb hc n
    unfold ceq at hc
    split at hc
    · injection hc with hc
      rw [ha.inv_b, hb.inv_b]
      have := eq_of_beq hc; subst this
      simp [Instr.sameBits]
    · split at hc
      · rename_i e; subst e
        injection hc with hc
        rw [ha.inv_i, hb.inv_i]
        have := eq_of_beq hc; subst this
        simp [Instr.sameBits]
      · simp at hc
    · injection hc with hc
      rw [ha.inv_s, hb.inv_s]
      have := eq_of_beq hc; subst this
      simp [Instr.sameBits, beq_toListBytes]
    · simp at hk
    · simp at hk
    · simp at hc
  unfold keq at h
  split at h
  · rename_i hag
    simp only [Bool.and_eq_true, beq_iff_eq] at hag
    intro n
    cases hxa : isAgV x with
    | true =>
      rw [hxa] at hag
      cases x <;> simp [isAgV] at hxa
      cases y <;> simp [isAgV, ← hag.1] at hag
      rename_i l m
      obtain ⟨cs, hcs, rfl⟩ := hx.inv_ag
      obtain ⟨ds, hds, rfl⟩ := hy.inv_ag
      simp only [V.cells] at h
      have : ∀ (ks : List CK) (l m : List V) (cs ds : List Value), (∀ k ∈ ks, k = CK.b ∨ k = CK.i ∨ k = CK.s) → VRelL ρ w l cs → VRelL ρ w m ds → ceqs ks l m = some true → cs.length = ds.length ∧ ((ds.zip cs).all fun (x, y) => Instr.sameBits n x y) = true := by
        intro ks
        induction ks with
        | nil => intro l m cs ds _ h1 h2 h3; cases h1 <;> cases h2 <;> simp [ceqs] at h3 <;> simp
        | cons k ks ih =>
          intro l m cs ds hk h1 h2 h3
          cases h1 with
          | nil => simp [ceqs] at h3
          | cons a1 t1 => cases h2 with
            | nil => simp [ceqs] at h3
            | cons a2 t2 =>
              simp only [ceqs] at h3
              split at h3
              · rename_i a r e1 e2
                injection h3 with h3
                simp only [Bool.and_eq_true] at h3
                obtain ⟨rfl, rfl⟩ := h3
                obtain ⟨q1, q2⟩ := ih _ _ _ _ (fun k hk' => hk k (by simp [hk'])) t1 t2 e2
                refine ⟨by simp [q1], ?_⟩
                simp only [List.zip_cons_cons, List.all_cons, Bool.and_eq_true]
                exact ⟨cell k _ _ _ _ true (hk k (by simp)) a1 a2 e1 n, q2⟩
              · simp at h3
      obtain ⟨q1, q2⟩ := this ks l m _ _ hks hcs hds h
      simp only [Instr.sameBits, Bool.and_eq_true, beq_iff_eq]
      exact ⟨by simpa using q1.symm, q2⟩
    | false =>
      have e1 : x.cells = [x] := by cases x <;> simp [isAgV] at hxa <;> rfl
      have hya : isAgV y = false := by rw [hxa] at hag; rw [hag.2, ← hag.1]
      have e2 : y.cells = [y] := by cases y <;> simp [isAgV] at hya <;> rfl
      rw [e1, e2] at h
      cases ks with
      | nil => simp [ceqs] at h
      | cons k ks =>
        simp only [ceqs] at h
        split at h
        · rename_i a r g1 g2
          injection h with h
          simp only [Bool.and_eq_true] at h
          obtain ⟨rfl, _⟩ := h
          exact cell k _ _ _ _ true (hks k (by simp)) hx hy g1 (n + 1)
        · simp at h
  · simp at h

theorem keyKinds {P : Program} {t : TypeId} {ks : List CK} {dd : Nat} (hk : keyB P t = true) (he : eqB P (dd + 2) t = some ks) : ∀ k ∈ ks, k = CK.b ∨ k = CK.i ∨ k = CK.s := by
  have sc : ∀ (n : Nat) (t : TypeId) (d : TypeDesc) (ks : List CK), P.underlying t = some d → scalarD d = true → eqB P (n + 1) t = some ks → ∀ k ∈ ks, k = CK.b ∨ k = CK.i ∨ k = CK.s := by
    intro n t d ks hu hd he
    simp only [eqB, hu] at he
    split at he
    · rename_i u m hu' hn
      injection hu' with hu'; subst hu'
      cases d <;> simp [scalarD] at hd <;> simp at he <;> obtain ⟨_, rfl⟩ := he <;> simp
    · simp at he
  unfold keyB at hk
  split at hk
  · rename_i fs hu
    simp only [eqB, hu] at he
    split at he
    · rename_i u n hu' hn
      injection hu' with hu'; subst hu'
      simp only at he
      split at he
      · simp at he
      · split at he
        · rename_i l hf
          split at he
          · injection he with he; subst he
            have key : ∀ (fs : List Field) (off : Nat) (l : List CK), fieldsB P (eqB P (dd + 1)) fs off = some l → (fs.all fun f => match P.underlying f.type with
                | some d => scalarD d
                | none => false) = true → ∀ k ∈ l, k = CK.b ∨ k = CK.i ∨ k = CK.s := by
              intro fs
              induction fs with
              | nil => intro off l h _ k hk; simp [fieldsB] at h; subst h; simp at hk
              | cons f fs ih =>
                intro off l hf hall k hk
                simp only [fieldsB] at hf
                split at hf
                · rename_i l1 hl1
                  split at hf
                  · simp only [Option.map_eq_some_iff] at hf
                    obtain ⟨l2, hl2, rfl⟩ := hf
                    simp only [List.all_cons, Bool.and_eq_true] at hall
                    rcases List.mem_append.1 hk with h1 | h1
                    · cases hu2 : P.underlying f.type with
                      | none => rw [hu2] at hall; simp at hall
                      | some d2 => rw [hu2] at hall; exact sc dd _ d2 l1 hu2 hall.1 hl1 k h1
                    · exact ih _ l2 hl2 hall.2 k h1
                  · simp at hf
                · simp at hf
            exact key fs.toList 0 l hf hk
          · simp at he
        · simp at he
    · simp at he
  · rename_i d hne hu
    exact sc (dd + 1) t d ks hu hk he
  · simp at hk

end
end VE

