/- Rules to reckon what a call of the evaluator answers. -/
import Derived.Test.YtchccpmjhajcaaaGreatVf
import Derived.Test.YtchccpmjhajcaaaGreatVa
import Derived.IntWalk
set_option linter.unusedVariables false
set_option linter.unusedSimpArgs false
set_option linter.unusedSectionVars false
namespace VE
open Go

/-! ## What a run owes: conditions ahead, code taken from its end backwards -/

/-- A state that has all that another one has. -/
structure St.Le (s s' : St) : Prop where
  next : s.next ≤ s'.next
  get : ∀ id, id < s.next → s'.heap.get id = s.heap.get id

theorem St.Le.refl (s : St) : s.Le s := ⟨Nat.le_refl _, fun _ _ => rfl⟩
theorem St.Le.trans {s s1 s2 : St} (h : s.Le s1) (h' : s1.Le s2) : s.Le s2 :=
  ⟨Nat.le_trans h.next h'.next, fun id hi => (h'.get id (Nat.lt_of_lt_of_le hi h.next)).trans (h.get id hi)⟩
theorem St.Le.alloc {s s1 : St} (h : s.Le s1) (o : VO) : s.Le (s1.alloc o) :=
  ⟨Nat.le_trans h.next (Nat.le_succ _), fun id hi => by
    have := h.next
    rw [get_alloc, if_neg (by omega)]; exact h.get id hi⟩
theorem St.Le.put {s s1 : St} (h : s.Le s1) {k : Nat} (o : VO) (hk : s.next ≤ k) : s.Le (s1.put k o) :=
  ⟨h.next, fun id hi => by rw [get_put, if_neg (by omega)]; exact h.get id hi⟩

/-- The program, and the calls that are known. -/
class Pg where
  T : Tr VFn
  M : Tr (List Memo)

def bindO {α : Type} (x : Option α) (K : α → Prop) : Prop := ∃ a, x = some a ∧ K a

theorem bindO_some {α : Type} (a : α) (K : α → Prop) : bindO (some a) K = K a := by
  simp [bindO]

/-- Which way a test goes. -/
def condW (v : V) (A B : Unit → Prop) : Prop :=
  match v with
  | .b true => A ()
  | .b false => B ()
  | _ => False

theorem condW_true (A B : Unit → Prop) : condW (.b true) A B = A () := rfl
theorem condW_false (A B : Unit → Prop) : condW (.b false) A B = B () := rfl
theorem condW_ite {p : Bool} {A B : Unit → Prop} (h1 : p = true → A ()) (h2 : p = false → B ()) : condW (.b p) A B := by
  cases p with
  | true => exact h1 rfl
  | false => exact h2 rfl

section
variable [Pg]

abbrev Orn (n : Nat) : Orc := orcM Pg.T Pg.M n

/-- What some run, however deep, comes to. -/
def Ev {α : Type} (f : Orc → Option α) (Q : α → Prop) : Prop := ∃ r, (∃ n0, ∀ n, n0 ≤ n → f (Orn n) = some r) ∧ Q r

theorem Ev.mono {α : Type} {f : Orc → Option α} {Q R : α → Prop} (h : Ev f Q) (hq : ∀ r, Q r → R r) : Ev f R :=
  let ⟨r, h1, h2⟩ := h; ⟨r, h1, hq r h2⟩

theorem Ev.pure {α : Type} {f : Orc → Option α} {Q : α → Prop} {r : α} (h : ∀ o, f o = some r) (hq : Q r) : Ev f Q :=
  ⟨r, ⟨0, fun n _ => h _⟩, hq⟩

theorem Ev.bind {α β : Type} {f : Orc → Option α} {g : α → Orc → Option β} {h : Orc → Option β} {Q : β → Prop} (ha : Ev f fun a => Ev (g a) Q)
    (hh : ∀ o a, f o = some a → h o = g a o) : Ev h Q := by
  obtain ⟨a, ⟨n0, h0⟩, b, ⟨n1, h1⟩, hq⟩ := ha
  refine ⟨b, ⟨max n0 n1, fun n hn => ?_⟩, hq⟩
  rw [hh _ _ (h0 n (by omega))]
  exact h1 n (by omega)

/-- A call. -/
def CallW (lo k : Nat) (args : List V) (s : St) (K : V → St → Prop) : Prop := Ev (fun o => o.call lo k args s) fun r => K r.1 r.2
def RoundW (lo id : Nat) (args : List V) (s : St) (K : V → St → Prop) : Prop := Ev (fun o => o.round lo id args s) fun r => K r.1 r.2
def LoopW (lo : Nat) (keep : List Nat) (b : VC) (fr : Fr) (s : St) (K : VX → Fr → St → Prop) : Prop := Ev (fun o => o.loop lo keep b fr s) fun r => K r.1 r.2.1 r.2.2
def JumpW (lo : Nat) (b c : VC) (fr : Fr) (s : St) (K : VX → Fr → St → Prop) : Prop := Ev (fun o => o.jump lo b c fr s) fun r => K r.1 r.2.1 r.2.2
def RangeW (lo : Nat) (f : Operand) (ps : List Nat) (a b : VC) (fr : Fr) (s : St) (K : VX → Fr → St → Prop) : Prop := Ev (fun o => X o lo (.rangeFunc f ps a b) fr s) fun r => K r.1 r.2.1 r.2.2


theorem CallW.mono {lo k : Nat} {args : List V} {s : St} {K K' : V → St → Prop} (h : CallW lo k args s K) (hk : ∀ v s', K v s' → K' v s') : CallW lo k args s K' := Ev.mono h fun r => hk r.1 r.2
theorem RoundW.mono {lo id : Nat} {args : List V} {s : St} {K K' : V → St → Prop} (h : RoundW lo id args s K) (hk : ∀ v s', K v s' → K' v s') : RoundW lo id args s K' := Ev.mono h fun r => hk r.1 r.2
theorem LoopW.mono {lo : Nat} {keep : List Nat} {b : VC} {fr : Fr} {s : St} {K K' : VX → Fr → St → Prop} (h : LoopW lo keep b fr s K) (hk : ∀ x fr' s', K x fr' s' → K' x fr' s') : LoopW lo keep b fr s K' := Ev.mono h fun r => hk r.1 r.2.1 r.2.2
theorem JumpW.mono {lo : Nat} {b c : VC} {fr : Fr} {s : St} {K K' : VX → Fr → St → Prop} (h : JumpW lo b c fr s K) (hk : ∀ x fr' s', K x fr' s' → K' x fr' s') : JumpW lo b c fr s K' := Ev.mono h fun r => hk r.1 r.2.1 r.2.2

theorem RangeW.mono {lo : Nat} {f : Operand} {ps : List Nat} {a b : VC} {fr : Fr} {s : St} {K K' : VX → Fr → St → Prop} (h : RangeW lo f ps a b fr s K) (hk : ∀ x fr' s', K x fr' s' → K' x fr' s') : RangeW lo f ps a b fr s K' := Ev.mono h fun r => hk r.1 r.2.1 r.2.2

/-- A value that is called. -/
def CallV (lo : Nat) (f : V) (args : List V) (s : St) (K : V → St → Prop) : Prop :=
  match f with
  | .fn (.func k) first captured => CallW lo k (first ++ args ++ captured) s K
  | .yl id => RoundW lo id args s K
  | _ => False

theorem CallV_fn (lo k : Nat) (first captured args : List V) (s : St) (K : V → St → Prop) : CallV lo (.fn (.func k) first captured) args s K = CallW lo k (first ++ args ++ captured) s K := rfl
theorem CallV_yl (lo id : Nat) (args : List V) (s : St) (K : V → St → Prop) : CallV lo (.yl id) args s K = RoundW lo id args s K := rfl

/-- An evaluator of nothing. -/
def o0 : Orc := ⟨fun _ _ _ _ => none, fun _ _ _ _ _ => none, fun _ _ _ _ _ => none, fun _ _ _ _ => none⟩

/-- An operation. -/
def opW (lo : Nat) (fr : Fr) (op : VOp) (s : St) (K : V → St → Prop) : Prop :=
  match op with
  | .call f args => bindO (evO fr f) fun fv => bindO (evL fr args) fun vs => CallV lo fv vs s K
  | op => bindO (opV o0 lo fr op s) fun r => K r.1 r.2


theorem opV_o {o o' : Orc} {lo : Nat} {fr : Fr} {op : VOp} {s : St} (h : ∀ f args, op ≠ .call f args) : opV o lo fr op s = opV o' lo fr op s := by
  cases op <;> first | rfl | exact absurd rfl (h _ _)

theorem opW_ev {lo : Nat} {fr : Fr} {op : VOp} {s : St} {K : V → St → Prop} (h : opW lo fr op s K) : Ev (fun o => opV o lo fr op s) fun r => K r.1 r.2 := by
  by_cases hc : ∃ f args, op = .call f args
  · obtain ⟨f, args, rfl⟩ := hc
    simp only [opW] at h
    obtain ⟨fv, hf, vs, hv, h⟩ := h
    have e : ∀ o, opV o lo fr (.call f args) s = callV o lo fv vs s := fun o => by simp only [opV, hf, hv]
    simp only [e]
    unfold CallV at h
    split at h
    · exact h
    · exact h
    · exact h.elim
  · have hn : ∀ f args, op ≠ .call f args := fun f args e => hc ⟨f, args, e⟩
    have h' : bindO (opV o0 lo fr op s) fun r => K r.1 r.2 := by
      cases op <;> first | exact h | exact absurd rfl (hn _ _)
    obtain ⟨r, hr, h'⟩ := h'
    exact .pure (fun o => (opV_o hn).trans hr) h'

/-- Operations in their order. -/
def opsW (lo : Nat) : List VOper → Fr → St → (Fr → St → Prop) → Prop
  | [], fr, s, K => K fr s
  | x :: r, fr, s, K => bindO (wantedV fr x.guard) fun g =>
    match g with
    | true => opW lo fr x.op s fun v s' => opsW lo r (putD fr x.dst (some v)) s' K
    | false => opsW lo r (putD fr x.dst (some (.tu []))) s K


theorem opsW_ev {lo : Nat} : ∀ {l : List VOper} {fr : Fr} {s : St} {K : Fr → St → Prop}, opsW lo l fr s K → Ev (fun o => opsV o lo l fr s) fun r => K r.1 r.2
  | [], fr, s, K, h => .pure (fun _ => rfl) h
  | x :: r, fr, s, K, h => by
    simp only [opsW] at h
    obtain ⟨g, hg, h⟩ := h
    cases g with
    | true =>
      refine Ev.bind (g := fun a o => opsV o lo r (putD fr x.dst (some a.1)) a.2) ((opW_ev h).mono fun a ha => opsW_ev ha) ?_
      intro o a ha
      simp only [opsV, hg]
      try simp only at ha
      rw [ha]
    | false =>
      refine Ev.mono (f := fun o => opsV o lo (x :: r) fr s) ?_ (fun _ h => h)
      have := opsW_ev h
      have e : (fun o : Orc => opsV o lo (x :: r) fr s) = fun o => opsV o lo r (putD fr x.dst (some (.tu []))) s := by
        funext o; simp only [opsV, hg]
      rw [e]; exact this

/-- Operations whose order is drawn. -/
def drawW (lo : Nat) : Nat → List VDOper → List (Nat × Nat × Nat × Nat) → Fr → St → (Fr → St → Prop) → Prop
  | _, [], _, fr, s, K => K fr s
  | i, x :: r, ft, fr, s, K => bindO (wantedV fr x.o.guard) fun g =>
    match g with
    | true =>
      match footV fr s.next x.o.op with
      | some a => ftOk x.vs ft a = true ∧ opW (if x.cls = 1 then s.next else lo) fr x.o.op s fun v s' => drawW lo (i + 1) r ((i, a) :: ft) (putD fr x.o.dst (some v)) s' K
      | none => opW (if x.cls = 1 then s.next else lo) fr x.o.op s fun v s' => drawW lo (i + 1) r ft (putD fr x.o.dst (some v)) s' K
    | false => drawW lo (i + 1) r ft (putD fr x.o.dst (some (.tu []))) s K


theorem drawW_ev {lo : Nat} : ∀ {l : List VDOper} {i : Nat} {ft : List (Nat × Nat × Nat × Nat)} {fr : Fr} {s : St} {K : Fr → St → Prop}, drawW lo i l ft fr s K → Ev (fun o => drawV o lo i l ft fr s) fun r => K r.1 r.2
  | [], i, ft, fr, s, K, h => .pure (fun _ => rfl) h
  | x :: r, i, ft, fr, s, K, h => by
    simp only [drawW] at h
    obtain ⟨g, hg, h⟩ := h
    cases g with
    | true =>
      simp only at h
      split at h
      · rename_i a hf
        obtain ⟨h1, h⟩ := h
        refine Ev.bind (g := fun b o => drawV o lo (i + 1) r ((i, a) :: ft) (putD fr x.o.dst (some b.1)) b.2) ((opW_ev h).mono fun a ha => drawW_ev ha) ?_
        intro o b hb
        simp only [drawV, hg, hf, if_pos h1]
        try simp only at hb
        rw [hb]
      · rename_i hf
        refine Ev.bind (g := fun b o => drawV o lo (i + 1) r ft (putD fr x.o.dst (some b.1)) b.2) ((opW_ev h).mono fun a ha => drawW_ev ha) ?_
        intro o b hb
        simp only [drawV, hg, hf]
        try simp only at hb
        rw [hb]
    | false =>
      have := drawW_ev h
      have e : (fun o : Orc => drawV o lo i (x :: r) ft fr s) = fun o => drawV o lo (i + 1) r ft (putD fr x.o.dst (some (.tu []))) s := by
        funext o; simp only [drawV, hg]
      rw [e]; exact this

def seqK (b : Fr → St → Prop) (K : VX → Fr → St → Prop) (x : VX) (fr : Fr) (s : St) : Prop :=
  match x with
  | .nrm => b fr s
  | .exit id => K (.exit id) fr s
  | .goto l => K (.goto l) fr s
  | .ret => K .ret fr s

def blockK (id : Nat) (K : VX → Fr → St → Prop) (x : VX) (fr : Fr) (s : St) : Prop :=
  match x with
  | .exit id' => if id' = id then K .nrm fr s else K (.exit id') fr s
  | .nrm => K .nrm fr s
  | .goto l => K (.goto l) fr s
  | .ret => K .ret fr s

def XW (lo : Nat) : VC → Fr → St → (VX → Fr → St → Prop) → Prop
  | .skip, fr, s, K => K .nrm fr s
  | .ops l, fr, s, K => opsW lo l fr s (K .nrm)
  | .draw l, fr, s, K => drawW lo 0 l [] fr s (K .nrm)
  | .seq a b, fr, s, K => XW lo a fr s (seqK (fun fr' s' => XW lo b fr' s' K) K)
  | .cond c a b, fr, s, K => bindO (evO fr c) fun v => condW v (fun _ => XW lo a fr s K) (fun _ => XW lo b fr s K)
  | .block id b, fr, s, K => XW lo b fr s (blockK id K)
  | .loop keep b, fr, s, K => LoopW lo keep b (keepV fr keep) s K
  | .rangeFunc f ps a b, fr, s, K => RangeW lo f ps a b fr s K
  | .exit id, fr, s, K => K (.exit id) fr s
  | .scope b, fr, s, K => JumpW lo b b fr s K
  | .label _, fr, s, K => K .nrm fr s
  | .goto l, fr, s, K => K (.goto l) fr s
  | .ret, fr, s, K => K .ret fr s


theorem XW_ev {lo : Nat} : ∀ {c : VC} {fr : Fr} {s : St} {K : VX → Fr → St → Prop}, XW lo c fr s K → Ev (fun o => X o lo c fr s) fun r => K r.1 r.2.1 r.2.2 := by
  intro c
  induction c with
  | skip => intro fr s K h; exact .pure (fun _ => rfl) h
  | ops l =>
    intro fr s K h
    refine Ev.bind (g := fun a _ => some (.nrm, a.1, a.2)) ((opsW_ev h).mono fun a ha => .pure (fun _ => rfl) ha) ?_
    intro o a ha
    try simp only at ha
    simp only [X, ha]
  | draw l =>
    intro fr s K h
    refine Ev.bind (g := fun a _ => some (.nrm, a.1, a.2)) ((drawW_ev h).mono fun a ha => .pure (fun _ => rfl) ha) ?_
    intro o a ha
    try simp only at ha
    simp only [X, ha]
  | seq a b iha ihb =>
    intro fr s K h
    refine Ev.bind (g := fun r o => match r with | (.nrm, fr', s') => X o lo b fr' s' | r => some r) ((iha h).mono ?_) ?_
    · rintro ⟨x, fr', s'⟩ hx
      cases x with
      | nrm => exact ihb hx
      | exit id => exact .pure (fun _ => rfl) hx
      | goto l => exact .pure (fun _ => rfl) hx
      | ret => exact .pure (fun _ => rfl) hx
    · rintro o ⟨x, fr', s'⟩ hx
      try simp only at hx
      simp only [X, hx]
      cases x <;> rfl
  | cond c a b iha ihb =>
    intro fr s K h
    obtain ⟨v, hv, h⟩ := h
    unfold condW at h
    split at h
    · have e : (fun o : Orc => X o lo (.cond c a b) fr s) = fun o => X o lo a fr s := by funext o; simp only [X, hv]
      rw [e]; exact iha h
    · have e : (fun o : Orc => X o lo (.cond c a b) fr s) = fun o => X o lo b fr s := by funext o; simp only [X, hv]
      rw [e]; exact ihb h
    · exact h.elim
  | block id b ih =>
    intro fr s K h
    refine Ev.bind (g := fun r _ => match r with | (.exit id', fr', s') => if id' = id then some (.nrm, fr', s') else some (.exit id', fr', s') | r => some r) ((ih h).mono ?_) ?_
    · rintro ⟨x, fr', s'⟩ hx
      cases x with
      | nrm => exact .pure (fun _ => rfl) hx
      | exit id' =>
        simp only [blockK] at hx
        split at hx
        · rename_i he; exact .pure (r := (.nrm, fr', s')) (fun _ => by simp [he]) hx
        · rename_i he; exact .pure (r := (.exit id', fr', s')) (fun _ => by simp [he]) hx
      | goto l => exact .pure (fun _ => rfl) hx
      | ret => exact .pure (fun _ => rfl) hx
    · rintro o ⟨x, fr', s'⟩ hx
      try simp only at hx
      simp only [X, hx]
      cases x <;> rfl
  | loop keep b ih => intro fr s K h; exact h
  | rangeFunc f ps a b iha ihb => intro fr s K h; exact h
  | exit id => intro fr s K h; exact .pure (fun _ => rfl) h
  | scope b ih => intro fr s K h; exact h
  | label l => intro fr s K h; exact .pure (fun _ => rfl) h
  | goto l => intro fr s K h; exact .pure (fun _ => rfl) h
  | ret => intro fr s K h; exact .pure (fun _ => rfl) h

/-- Once round a loop. -/
theorem LoopW_once {lo : Nat} {keep : List Nat} {b : VC} {fr : Fr} {s : St} {K : VX → Fr → St → Prop} (h : XW lo b fr s (seqK (fun fr' s' => LoopW lo keep b (keepV fr' keep) s' K) K)) : LoopW lo keep b fr s K := by
  obtain ⟨⟨x, fr', s'⟩, ⟨n0, h0⟩, hx⟩ := XW_ev h
  have fin : K x fr' s' → x ≠ .nrm → LoopW lo keep b fr s K := by
    intro hk hn
    refine ⟨(x, fr', s'), ⟨n0 + 1, fun n hn1 => ?_⟩, hk⟩
    obtain ⟨m, rfl⟩ : ∃ m, n = m + 1 := ⟨n - 1, by omega⟩
    simp only [Orn, orcM]
    have := h0 m (by omega)
    try simp only at this
    rw [this]
    cases x <;> first | rfl | exact absurd rfl hn
  cases x with
  | nrm =>
    obtain ⟨r, ⟨n1, h1⟩, hr⟩ := hx
    refine ⟨r, ⟨max n0 n1 + 1, fun n hn1 => ?_⟩, hr⟩
    obtain ⟨m, rfl⟩ : ∃ m, n = m + 1 := ⟨n - 1, by omega⟩
    simp only [Orn, orcM]
    have := h0 m (by omega)
    try simp only at this
    rw [this]
    exact h1 m (by omega)
  | exit id => exact fin hx (by simp)
  | goto l => exact fin hx (by simp)
  | ret => exact fin hx (by simp)

theorem CallV.mono {lo : Nat} {f : V} {args : List V} {s : St} {K K' : V → St → Prop} (h : CallV lo f args s K) (hk : ∀ v s', K v s' → K' v s') : CallV lo f args s K' := by
  unfold CallV at h ⊢
  split at h
  · exact CallW.mono h hk
  · exact RoundW.mono h hk
  · exact h.elim

theorem opW_mono {lo : Nat} {fr : Fr} {op : VOp} {s : St} {K K' : V → St → Prop} (h : opW lo fr op s K) (hk : ∀ v s', K v s' → K' v s') : opW lo fr op s K' := by
  unfold opW at h ⊢
  split
  · obtain ⟨fv, hf, vs, hv, h⟩ := h; exact ⟨fv, hf, vs, hv, h.mono hk⟩
  · rename_i hn
    cases op <;> first | (obtain ⟨r, hr, h⟩ := h; exact ⟨r, hr, hk _ _ h⟩) | exact absurd rfl (hn _ _)

theorem opsW_mono {lo : Nat} : ∀ {l : List VOper} {fr : Fr} {s : St} {K K' : Fr → St → Prop}, opsW lo l fr s K → (∀ fr' s', K fr' s' → K' fr' s') → opsW lo l fr s K'
  | [], _, _, _, _, h, hk => hk _ _ h
  | x :: r, fr, s, K, K', h, hk => by
    simp only [opsW] at h ⊢
    obtain ⟨g, hg, h⟩ := h
    refine ⟨g, hg, ?_⟩
    cases g with
    | true => exact opW_mono h fun v s' h => opsW_mono h hk
    | false => exact opsW_mono h hk

theorem drawW_mono {lo : Nat} : ∀ {l : List VDOper} {i : Nat} {ft : List (Nat × Nat × Nat × Nat)} {fr : Fr} {s : St} {K K' : Fr → St → Prop}, drawW lo i l ft fr s K → (∀ fr' s', K fr' s' → K' fr' s') → drawW lo i l ft fr s K'
  | [], _, _, _, _, _, _, h, hk => hk _ _ h
  | x :: r, i, ft, fr, s, K, K', h, hk => by
    simp only [drawW] at h ⊢
    obtain ⟨g, hg, h⟩ := h
    refine ⟨g, hg, ?_⟩
    cases g with
    | true =>
      simp only at h ⊢
      split
      · rename_i a ha
        rw [ha] at h
        exact ⟨h.1, opW_mono h.2 fun v s' h => drawW_mono h hk⟩
      · rename_i ha
        rw [ha] at h
        exact opW_mono h fun v s' h => drawW_mono h hk
    | false => exact drawW_mono h hk

theorem XW_mono {lo : Nat} : ∀ {c : VC} {fr : Fr} {s : St} {K K' : VX → Fr → St → Prop}, XW lo c fr s K → (∀ x fr' s', K x fr' s' → K' x fr' s') → XW lo c fr s K' := by
  intro c
  induction c with
  | skip => intro fr s K K' h hk; exact hk _ _ _ h
  | ops l => intro fr s K K' h hk; exact opsW_mono h fun _ _ => hk _ _ _
  | draw l => intro fr s K K' h hk; exact drawW_mono h fun _ _ => hk _ _ _
  | seq a b iha ihb =>
    intro fr s K K' h hk
    refine iha h ?_
    intro x fr' s' hx
    cases x with
    | nrm => exact ihb hx hk
    | exit id => exact hk _ _ _ hx
    | goto l => exact hk _ _ _ hx
    | ret => exact hk _ _ _ hx
  | cond c a b iha ihb =>
    intro fr s K K' h hk
    obtain ⟨v, hv, h⟩ := h
    refine ⟨v, hv, ?_⟩
    unfold condW at h ⊢
    split at h
    · exact iha h hk
    · exact ihb h hk
    · exact h.elim
  | block id b ih =>
    intro fr s K K' h hk
    refine ih h ?_
    intro x fr' s' hx
    cases x with
    | nrm => exact hk _ _ _ hx
    | exit id' =>
      simp only [blockK] at hx ⊢
      split at hx
      · rename_i he; rw [if_pos he]; exact hk _ _ _ hx
      · rename_i he; rw [if_neg he]; exact hk _ _ _ hx
    | goto l => exact hk _ _ _ hx
    | ret => exact hk _ _ _ hx
  | loop keep b ih => intro fr s K K' h hk; exact LoopW.mono h hk
  | rangeFunc f ps a b iha ihb => intro fr s K K' h hk; exact RangeW.mono h hk
  | exit id => intro fr s K K' h hk; exact hk _ _ _ h
  | scope b ih => intro fr s K K' h hk; exact JumpW.mono h hk
  | label l => intro fr s K K' h hk; exact hk _ _ _ h
  | goto l => intro fr s K K' h hk; exact hk _ _ _ h
  | ret => intro fr s K K' h hk; exact hk _ _ _ h

/-- A loop, by what holds ahead of each round, and a measure. -/
theorem LoopW_inv {ι : Type} (I : ι → Fr → St → Prop) (m : ι → Nat) {lo : Nat} {keep : List Nat} {b : VC} {K : VX → Fr → St → Prop}
    (h : ∀ i fr s, I i fr s → XW lo b fr s (seqK (fun fr' s' => ∃ j, m j < m i ∧ I j (keepV fr' keep) s') K)) (i : ι) {fr : Fr} {s : St} (h0 : I i fr s) : LoopW lo keep b fr s K := by
  have : ∀ (n : Nat) (i : ι), m i = n → ∀ fr s, I i fr s → LoopW lo keep b fr s K := by
    intro n
    induction n using Nat.strongRecOn with
    | ind n ih =>
      intro i hi fr s h0
      refine LoopW_once (XW_mono (h i fr s h0) ?_)
      intro x fr' s' hx
      cases x with
      | nrm =>
        obtain ⟨j, hj, hI⟩ := hx
        exact ih (m j) (by omega) j rfl _ _ hI
      | exit id => exact hx
      | goto l => exact hx
      | ret => exact hx
  exact this _ i rfl _ _ h0

/-- Jumps. -/
def jumpK (lo : Nat) (b : VC) (K : VX → Fr → St → Prop) (x : VX) (fr : Fr) (s : St) : Prop :=
  match x with
  | .goto l => (match findLabelV b l with
    | some rest => JumpW lo b rest fr s K
    | none => K (.goto l) fr s)
  | .nrm => K .nrm fr s
  | .exit id => K (.exit id) fr s
  | .ret => K .ret fr s

theorem JumpW_once {lo : Nat} {b c : VC} {fr : Fr} {s : St} {K : VX → Fr → St → Prop} (h : XW lo c fr s (jumpK lo b K)) : JumpW lo b c fr s K := by
  obtain ⟨⟨x, fr', s'⟩, ⟨n0, h0⟩, hx⟩ := XW_ev h
  have fin : K x fr' s' → (∀ l, x = .goto l → findLabelV b l = none) → JumpW lo b c fr s K := by
    intro hk hn
    refine ⟨(x, fr', s'), ⟨n0 + 1, fun n hn1 => ?_⟩, hk⟩
    obtain ⟨m, rfl⟩ : ∃ m, n = m + 1 := ⟨n - 1, by omega⟩
    simp only [Orn, orcM]
    have := h0 m (by omega)
    try simp only at this
    rw [this]
    cases x with
    | goto l => simp only [hn l rfl]
    | _ => rfl
  cases x with
  | nrm => exact fin hx (by simp)
  | exit id => exact fin hx (by simp)
  | ret => exact fin hx (by simp)
  | goto l =>
    simp only [jumpK] at hx
    split at hx
    · rename_i rest hr
      obtain ⟨r, ⟨n1, h1⟩, hr'⟩ := hx
      refine ⟨r, ⟨max n0 n1 + 1, fun n hn1 => ?_⟩, hr'⟩
      obtain ⟨m, rfl⟩ : ∃ m, n = m + 1 := ⟨n - 1, by omega⟩
      simp only [Orn, orcM]
      have := h0 m (by omega)
      try simp only at this
      rw [this]
      simp only [hr]
      exact h1 m (by omega)
    · rename_i hr
      exact fin hx (fun l' e => by injection e with e; subst e; exact hr)

/-- A function's place in the table: it is called as it lies there. -/
structure Has (k : Nat) (f : VFn) : Prop where
  tab : Pg.T.get k = some f
  mem : Pg.M.get k = none

def retK (res : List VRes) (K : V → St → Prop) (x : VX) (fr : Fr) (s : St) : Prop :=
  match x with
  | .nrm => bindO (resL fr s res) fun vs => K (one vs) s
  | .ret => bindO (resL fr s res) fun vs => K (one vs) s
  | _ => False

/-- A call of a function of the table. -/
theorem CallW_of {lo k : Nat} {f : VFn} (hf : Has k f) {args : List V} {s : St} {K : V → St → Prop} (hl : args.length = f.params) (h : XW lo f.body (argsV 0 args) s (retK f.results K)) : CallW lo k args s K := by
  obtain ⟨⟨x, fr', s'⟩, ⟨n0, h0⟩, hx⟩ := XW_ev h
  have key : ∀ vs, resL fr' s' f.results = some vs → (x = .nrm ∨ x = .ret) → K (one vs) s' → CallW lo k args s K := by
    intro vs hvs hxx hk
    refine ⟨(one vs, s'), ⟨n0 + 1, fun n hn1 => ?_⟩, hk⟩
    obtain ⟨m, rfl⟩ : ∃ m, n = m + 1 := ⟨n - 1, by omega⟩
    have := h0 m (by omega)
    try simp only at this
    simp only [Orn, orcM, memoM, hf.mem, hf.tab, if_pos hl]
    rw [this]
    rcases hxx with rfl | rfl <;> simp [hvs]
  cases x with
  | nrm => obtain ⟨vs, hvs, hk⟩ := hx; exact key vs hvs (.inl rfl) hk
  | ret => obtain ⟨vs, hvs, hk⟩ := hx; exact key vs hvs (.inr rfl) hk
  | exit id => exact hx.elim
  | goto l => exact hx.elim

/-- A call whose outcome is told. -/
theorem CallW_eq {lo k : Nat} {args : List V} {s : St} {v : V} {s' : St} (h : CallW lo k args s fun v' s1 => v' = v ∧ s1 = s') (K : V → St → Prop) : CallW lo k args s K = K v s' := by
  obtain ⟨⟨v1, s1⟩, ⟨n0, h0⟩, h1, h2⟩ := h
  simp only at h1 h2
  subst h1; subst h2
  apply propext
  constructor
  · rintro ⟨⟨v2, s2⟩, ⟨n1, g1⟩, hk⟩
    have a := h0 (max n0 n1) (by omega)
    have b := g1 (max n0 n1) (by omega)
    try simp only at a b
    rw [a] at b; injection b with b; injection b with b1 b2; subst b1; subst b2; exact hk
  · intro hk
    exact ⟨(v1, s1), ⟨n0, h0⟩, hk⟩

/-- A call that is known. -/
theorem CallW_memo {lo k : Nat} {args : List V} {s : St} {K : V → St → Prop} {r : V × St} (h : memoM Pg.M k args s = some r) (hk : K r.1 r.2) : CallW lo k args s K := by
  refine ⟨r, ⟨1, fun n hn1 => ?_⟩, hk⟩
  obtain ⟨m, rfl⟩ : ∃ m, n = m + 1 := ⟨n - 1, by omega⟩
  simp only [Orn, orcM, h]

end
end VE

namespace VE
open Go

/-! ## Short words, for the printed tables -/

abbrev t (n : Nat) : Operand := .tmp n
abbrev n (i : Nat) : Operand := .const (.int .i64 (.ofNat i))
abbrev kb (b : Bool) : Operand := .const (.bool b)
abbrev fu (k : Nat) : Operand := .func k
abbrev z : V := .i .i64 (.ofNat 0)
abbrev O (d : Nat) (o : VOp) : VOper := ⟨some d, o, none⟩
abbrev N (o : VOp) : VOper := ⟨none, o, none⟩
abbrev G (d : Nat) (o : VOp) (c : Nat) (b : Bool) : VOper := ⟨some d, o, some (c, b)⟩
abbrev A (o : VOper) : VDOper := ⟨o, 0, []⟩
abbrev B (o : VOper) : VDOper := ⟨o, 1, []⟩
abbrev C (o : VOper) : VDOper := ⟨o, 2, []⟩
abbrev mv (d x : Nat) : VOper := ⟨some d, .mv (.tmp x), none⟩
abbrev add (d : Nat) (o : BinOp) (x y : Operand) : VOper := ⟨some d, .bin o x y, none⟩
abbrev fa (d o x : Nat) : VOper := ⟨some d, .fieldAddr o (.tmp x), none⟩
abbrev ld (d x : Nat) : VOper := ⟨some d, .load none (.tmp x), none⟩
abbrev call (d k : Nat) (l : List Operand) : VOper := ⟨some d, .call (.func k) l, none⟩
abbrev sq (a b : VC) : VC := .seq a b

end VE

namespace VE
open Go

/-! ## From what is checked to what is so -/

/-- Something holds of all that lies in a trie, by its place: a + b * k. -/
inductive AllT {α : Type} (p : Nat → α → Prop) : Nat → Nat → Tr α → Prop
  | e {a b : Nat} : AllT p a b .nil
  | o {a b : Nat} {l r : Tr α} : AllT p (a + b) (2 * b) l → AllT p (a + 2 * b) (2 * b) r → AllT p a b (.node l none r)
  | s {a b : Nat} {l r : Tr α} {v : α} : p a v → AllT p (a + b) (2 * b) l → AllT p (a + 2 * b) (2 * b) r → AllT p a b (.node l (some v) r)

theorem AllT.get {α : Type} {p : Nat → α → Prop} {a b : Nat} {t : Tr α} (h : AllT p a b t) : ∀ (n : Nat) (v : α), t.get n = some v → p (a + b * n) v := by
  have odd : ∀ {a b m : Nat}, m % 2 = 0 → a + b + 2 * b * (m / 2) = a + b * (m + 1) := by
    intro a b m hm
    obtain ⟨k, rfl⟩ : ∃ k, m = 2 * k := ⟨m / 2, by omega⟩
    rw [Nat.mul_div_cancel_left _ (by decide), Nat.mul_add, Nat.mul_comm 2 b, Nat.mul_assoc]; omega
  have even : ∀ {a b m : Nat}, m % 2 ≠ 0 → a + 2 * b + 2 * b * (m / 2) = a + b * (m + 1) := by
    intro a b m hm
    obtain ⟨k, rfl⟩ : ∃ k, m = 2 * k + 1 := ⟨m / 2, by omega⟩
    rw [show (2 * k + 1) / 2 = k by omega, show 2 * k + 1 + 1 = 2 * (k + 1) by omega, Nat.mul_comm 2 b, Nat.mul_assoc, Nat.mul_add, Nat.mul_add]; omega
  induction h with
  | e => intro n v h; simp [Tr.get_nil] at h
  | o _ _ ihl ihr =>
    intro n v h
    cases n with
    | zero => simp [Tr.get] at h
    | succ m =>
      simp only [Tr.get] at h
      cases hm : Nat.beq (m % 2) 0 with
      | true => rw [hm] at h; have := ihl _ _ h; rw [odd (Nat.eq_of_beq_eq_true hm)] at this; exact this
      | false => rw [hm] at h; have := ihr _ _ h; rw [even (Nat.ne_of_beq_eq_false hm)] at this; exact this
  | s hp _ _ ihl ihr =>
    intro n v h
    cases n with
    | zero => simp [Tr.get] at h; subst h; simpa using hp
    | succ m =>
      simp only [Tr.get] at h
      cases hm : Nat.beq (m % 2) 0 with
      | true => rw [hm] at h; have := ihl _ _ h; rw [odd (Nat.eq_of_beq_eq_true hm)] at this; exact this
      | false => rw [hm] at h; have := ihr _ _ h; rw [even (Nat.ne_of_beq_eq_false hm)] at this; exact this

/-- One function of a table. -/
def TabAt (E : Env) (k : Nat) (f : VFn) : Prop := ∃ fn hints, E.P.funcs[k]? = some fn ∧ compF E.P E.eqs E.keys hints fn = some f

theorem tabOk_of {E : Env} {T : Tr VFn} (h : AllT (TabAt E) 0 1 T) : TabOk E T := fun k f hk => by
  have := h.get k f hk
  rwa [Nat.zero_add, Nat.one_mul] at this

/-- Known calls of one function. -/
def MemAt (E : Env) (k : Nat) (l : List Memo) : Prop := ∀ e ∈ l, e.k = k ∧ Valid E e

theorem MemAt.nil {E : Env} {k : Nat} : MemAt E k [] := fun _ h => by simp at h
theorem MemAt.cons {E : Env} {k : Nat} {e : Memo} {l : List Memo} (hk : e.k = k) (hv : Valid E e) (h : MemAt E k l) : MemAt E k (e :: l) := fun x hx => by
  rcases List.mem_cons.1 hx with rfl | hx
  · exact ⟨hk, hv⟩
  · exact h x hx

theorem memoOk_of {E : Env} {M : Tr (List Memo)} (h : AllT (MemAt E) 0 1 M) : MemoOk E M := fun k l hk => by
  have := h.get k l hk
  rwa [Nat.zero_add, Nat.one_mul] at this

theorem memoOk_one {E : Env} {k : Nat} {e : Memo} (hk : e.k = k) (hv : Valid E e) : MemoOk E (Tr.nil.set k (some [e])) := fun k' l h x hx => by
  rw [Tr.get_set] at h
  split at h
  · rename_i hk'
    injection h with h; subst h
    rw [List.mem_singleton] at hx; subst hx
    exact ⟨by rw [hk, hk'], hv⟩
  · rw [Tr.get_nil] at h; simp at h

def eqsB (P : Program) (l : List (TypeId × List CK)) : Bool := l.all fun x => decide (eqB P 100 x.1 = some x.2) && !P.eqGuardType P.depth x.1
def keysB (P : Program) (l : List (TypeId × List CK)) : Bool := l.all fun x => decide (eqB P 100 x.1 = some x.2) && keyB P x.1

theorem lookup_mem {l : List (TypeId × List CK)} {t : TypeId} {ks : List CK} (h : l.lookup t = some ks) : (t, ks) ∈ l := by
  induction l with
  | nil => simp at h
  | cons x r ih =>
    obtain ⟨u, us⟩ := x
    rw [List.lookup_cons] at h
    split at h
    · rename_i e
      have : t = u := by simpa using e
      subst this; injection h with h; subst h; exact List.mem_cons_self ..
    · exact List.mem_cons_of_mem _ (ih h)

theorem envOk_of {E : Env} (h1 : E.P.follows .mixedOrders = true) (h2 : eqsB E.P E.eqs = true) (h3 : keysB E.P E.keys = true) : EnvOk E := by
  refine ⟨h1, fun t ks h => ?_, fun t ks h => ?_⟩
  · have := List.all_eq_true.1 h2 _ (lookup_mem h)
    simpa using this
  · have := List.all_eq_true.1 h3 _ (lookup_mem h)
    simpa using this

section
variable [Pg]

/-- What a run owes is what the call does. -/
theorem calls_of {E : Env} (hE : EnvOk E) (hT : TabOk E Pg.T) (hM : MemoOk E Pg.M) {k : Nat} {args : List V} {s : St} {K : V → St → Prop} (h : CallW s.next k args s K) {ρ : Rho} {w : World} {args' : Array Value}
    (ha : VRelL ρ w args args'.toList) (hw : WR E ρ s w) (hu : ∀ id, s.next ≤ id → ρ id = none) : ∃ v s', K v s' ∧ Calls E.P k args' w (RetPost E s.next ρ s w v s') := by
  obtain ⟨⟨v, s'⟩, ⟨n0, h0⟩, hk⟩ := h
  have h1 := h0 n0 (Nat.le_refl _)
  exact ⟨v, s', hk, callsIn_wide.1 ((orcM_ok hE hT hM n0).call h1 ha hw (fun id g _ => hu id g) (Nat.le_refl _)).2⟩

end
end VE

namespace VE
open Go

/-! ## The rules, one for each form: for simp -/

section
variable [Pg]
variable {lo : Nat} {fr : Fr} {s : St}

theorem opsW_nil (K : Fr → St → Prop) : opsW lo [] fr s K = K fr s := (rfl)
theorem opsW_set (d : Nat) (op : VOp) (r : List VOper) (K : Fr → St → Prop) : opsW lo (⟨some d, op, none⟩ :: r) fr s K = opW lo fr op s fun v s' => opsW lo r (fr.set d (some v)) s' K := by
  simp [opsW, wantedV, bindO_some, putD]
theorem opsW_do (op : VOp) (r : List VOper) (K : Fr → St → Prop) : opsW lo (⟨none, op, none⟩ :: r) fr s K = opW lo fr op s fun _ s' => opsW lo r fr s' K := by
  simp [opsW, wantedV, bindO_some, putD]

/-- Is it wanted? -/
def guardW (v : V) (want : Bool) (A B : Unit → Prop) : Prop :=
  match v with
  | .b x => if x = want then A () else B ()
  | .tu [] => B ()
  | _ => False
omit [Pg] in
theorem guardW_tu (want : Bool) (A B : Unit → Prop) : guardW (.tu []) want A B = B () := (rfl)
omit [Pg] in
theorem guardW_tt (A B : Unit → Prop) : guardW (.b true) true A B = A () := (rfl)
omit [Pg] in
theorem guardW_ff (A B : Unit → Prop) : guardW (.b false) false A B = A () := (rfl)
omit [Pg] in
theorem guardW_tf (A B : Unit → Prop) : guardW (.b true) false A B = B () := (rfl)
omit [Pg] in
theorem guardW_ft (A B : Unit → Prop) : guardW (.b false) true A B = B () := (rfl)
omit [Pg] in
theorem guardW_t {p : Bool} {A B : Unit → Prop} (h1 : p = true → A ()) (h2 : p = false → B ()) : guardW (.b p) true A B := by
  cases p with
  | true => exact h1 rfl
  | false => exact h2 rfl
omit [Pg] in
theorem guardW_f {p : Bool} {A B : Unit → Prop} (h1 : p = true → B ()) (h2 : p = false → A ()) : guardW (.b p) false A B := by
  cases p with
  | true => exact h1 rfl
  | false => exact h2 rfl

omit [Pg] in
theorem bindO_wanted (v : Option V) (want : Bool) (A B : Prop) :
    (bindO (match v with | some (.b x) => some (x == want) | some (.tu []) => some false | _ => none) fun g => match g with | true => A | false => B) = bindO v fun v => guardW v want (fun _ => A) (fun _ => B) := by
  cases v with
  | none => simp [bindO]
  | some v =>
    rw [bindO_some]
    cases v <;> try simp [bindO, guardW]
    · rename_i x; cases x <;> cases want <;> simp [bindO, guardW]
    · rename_i l; cases l <;> simp [bindO, guardW]

theorem opsW_guard (d : Nat) (op : VOp) (t : Nat) (b : Bool) (r : List VOper) (K : Fr → St → Prop) :
    opsW lo (⟨some d, op, some (t, b)⟩ :: r) fr s K = bindO (fr.get t) fun v => guardW v b (fun _ => opW lo fr op s fun v s' => opsW lo r (fr.set d (some v)) s' K) (fun _ => opsW lo r (fr.set d (some (.tu []))) s K) := by
  rw [← bindO_wanted]; rfl
theorem opsW_guardDo (op : VOp) (t : Nat) (b : Bool) (r : List VOper) (K : Fr → St → Prop) :
    opsW lo (⟨none, op, some (t, b)⟩ :: r) fr s K = bindO (fr.get t) fun v => guardW v b (fun _ => opW lo fr op s fun _ s' => opsW lo r fr s' K) (fun _ => opsW lo r fr s K) := by
  rw [← bindO_wanted]; rfl

/-! ### Regions that draw -/

/-- What an operation looks at has to be apart from what is named. -/
def footK (a : Option (Nat × Nat × Nat)) (i : Nat) (vs : List Nat) (ft : List (Nat × Nat × Nat × Nat)) (A : List (Nat × Nat × Nat × Nat) → Prop) : Prop :=
  match a with
  | some a => ftOk vs ft a = true ∧ A ((i, a) :: ft)
  | none => A ft
omit [Pg] in
theorem footK_none (i : Nat) (vs : List Nat) (ft : List (Nat × Nat × Nat × Nat)) (A : List (Nat × Nat × Nat × Nat) → Prop) : footK none i vs ft A = A ft := (rfl)
omit [Pg] in
theorem ftOk_nil (ft : List (Nat × Nat × Nat × Nat)) (a : Nat × Nat × Nat) : ftOk [] ft a = true := by
  unfold ftOk; rw [List.all_eq_true]; intro x _; simp
theorem footK_nil (a : Nat × Nat × Nat) (i : Nat) (ft : List (Nat × Nat × Nat × Nat)) (A : List (Nat × Nat × Nat × Nat) → Prop) : footK (some a) i [] ft A = A ((i, a) :: ft) := by
  simp [footK, ftOk_nil]
omit [Pg] in
theorem footK_cons (a : Nat × Nat × Nat) (i v : Nat) (vs : List Nat) (ft : List (Nat × Nat × Nat × Nat)) (A : List (Nat × Nat × Nat × Nat) → Prop) : footK (some a) i (v :: vs) ft A = (ftOk (v :: vs) ft a = true ∧ A ((i, a) :: ft)) := (rfl)

theorem drawW_nil (i : Nat) (ft : List (Nat × Nat × Nat × Nat)) (K : Fr → St → Prop) : drawW lo i [] ft fr s K = K fr s := (rfl)

theorem drawW_eq (i : Nat) (x : VDOper) (r : List VDOper) (ft : List (Nat × Nat × Nat × Nat)) (K : Fr → St → Prop) :
    drawW lo i (x :: r) ft fr s K = bindO (wantedV fr x.o.guard) fun g => match g with
      | true => footK (footV fr s.next x.o.op) i x.vs ft fun ft' => opW (if x.cls = 1 then s.next else lo) fr x.o.op s fun v s' => drawW lo (i + 1) r ft' (putD fr x.o.dst (some v)) s' K
      | false => drawW lo (i + 1) r ft (putD fr x.o.dst (some (.tu []))) s K := by
  conv => lhs; unfold drawW
  congr 1

theorem drawW_set0 (i d : Nat) (op : VOp) (r : List VDOper) (ft : List (Nat × Nat × Nat × Nat)) (K : Fr → St → Prop) (vs : List Nat) :
    drawW lo i (⟨⟨some d, op, none⟩, 0, vs⟩ :: r) ft fr s K = footK (footV fr s.next op) i vs ft fun ft' => opW lo fr op s fun v s' => drawW lo (i + 1) r ft' (fr.set d (some v)) s' K := by
  rw [drawW_eq]; simp [wantedV, bindO_some, putD]
theorem drawW_set1 (i d : Nat) (op : VOp) (r : List VDOper) (ft : List (Nat × Nat × Nat × Nat)) (K : Fr → St → Prop) (vs : List Nat) :
    drawW lo i (⟨⟨some d, op, none⟩, 1, vs⟩ :: r) ft fr s K = footK (footV fr s.next op) i vs ft fun ft' => opW s.next fr op s fun v s' => drawW lo (i + 1) r ft' (fr.set d (some v)) s' K := by
  rw [drawW_eq]; simp [wantedV, bindO_some, putD]
theorem drawW_set2 (i d : Nat) (op : VOp) (r : List VDOper) (ft : List (Nat × Nat × Nat × Nat)) (K : Fr → St → Prop) (vs : List Nat) :
    drawW lo i (⟨⟨some d, op, none⟩, 2, vs⟩ :: r) ft fr s K = footK (footV fr s.next op) i vs ft fun ft' => opW lo fr op s fun v s' => drawW lo (i + 1) r ft' (fr.set d (some v)) s' K := by
  rw [drawW_eq]; simp [wantedV, bindO_some, putD]
theorem drawW_do2 (i : Nat) (op : VOp) (r : List VDOper) (ft : List (Nat × Nat × Nat × Nat)) (K : Fr → St → Prop) (vs : List Nat) :
    drawW lo i (⟨⟨none, op, none⟩, 2, vs⟩ :: r) ft fr s K = footK (footV fr s.next op) i vs ft fun ft' => opW lo fr op s fun _ s' => drawW lo (i + 1) r ft' fr s' K := by
  rw [drawW_eq]; simp [wantedV, bindO_some, putD]
theorem drawW_guard0 (i d : Nat) (op : VOp) (t : Nat) (b : Bool) (r : List VDOper) (ft : List (Nat × Nat × Nat × Nat)) (K : Fr → St → Prop) (vs : List Nat) :
    drawW lo i (⟨⟨some d, op, some (t, b)⟩, 0, vs⟩ :: r) ft fr s K = bindO (fr.get t) fun v => guardW v b (fun _ => footK (footV fr s.next op) i vs ft fun ft' => opW lo fr op s fun v s' => drawW lo (i + 1) r ft' (fr.set d (some v)) s' K)
      (fun _ => drawW lo (i + 1) r ft (fr.set d (some (.tu []))) s K) := by
  rw [← bindO_wanted, drawW_eq]; rfl
theorem drawW_guard1 (i d : Nat) (op : VOp) (t : Nat) (b : Bool) (r : List VDOper) (ft : List (Nat × Nat × Nat × Nat)) (K : Fr → St → Prop) (vs : List Nat) :
    drawW lo i (⟨⟨some d, op, some (t, b)⟩, 1, vs⟩ :: r) ft fr s K = bindO (fr.get t) fun v => guardW v b (fun _ => footK (footV fr s.next op) i vs ft fun ft' => opW s.next fr op s fun v s' => drawW lo (i + 1) r ft' (fr.set d (some v)) s' K)
      (fun _ => drawW lo (i + 1) r ft (fr.set d (some (.tu []))) s K) := by
  rw [← bindO_wanted, drawW_eq]; rfl
theorem drawW_guard2 (i d : Nat) (op : VOp) (t : Nat) (b : Bool) (r : List VDOper) (ft : List (Nat × Nat × Nat × Nat)) (K : Fr → St → Prop) (vs : List Nat) :
    drawW lo i (⟨⟨some d, op, some (t, b)⟩, 2, vs⟩ :: r) ft fr s K = bindO (fr.get t) fun v => guardW v b (fun _ => footK (footV fr s.next op) i vs ft fun ft' => opW lo fr op s fun v s' => drawW lo (i + 1) r ft' (fr.set d (some v)) s' K)
      (fun _ => drawW lo (i + 1) r ft (fr.set d (some (.tu []))) s K) := by
  rw [← bindO_wanted, drawW_eq]; rfl

/-! ### Code -/

theorem XW_skip (K : VX → Fr → St → Prop) : XW lo .skip fr s K = K .nrm fr s := (rfl)
theorem XW_ops (l : List VOper) (K : VX → Fr → St → Prop) : XW lo (.ops l) fr s K = opsW lo l fr s (K .nrm) := (rfl)
theorem XW_draw (l : List VDOper) (K : VX → Fr → St → Prop) : XW lo (.draw l) fr s K = drawW lo 0 l [] fr s (K .nrm) := (rfl)
theorem XW_seq (a b : VC) (K : VX → Fr → St → Prop) : XW lo (.seq a b) fr s K = XW lo a fr s (seqK (fun fr' s' => XW lo b fr' s' K) K) := (rfl)
theorem XW_cond (c : Operand) (a b : VC) (K : VX → Fr → St → Prop) : XW lo (.cond c a b) fr s K = bindO (evO fr c) fun v => condW v (fun _ => XW lo a fr s K) (fun _ => XW lo b fr s K) := (rfl)
theorem XW_block (id : Nat) (b : VC) (K : VX → Fr → St → Prop) : XW lo (.block id b) fr s K = XW lo b fr s (blockK id K) := (rfl)
theorem XW_loop (keep : List Nat) (b : VC) (K : VX → Fr → St → Prop) : XW lo (.loop keep b) fr s K = LoopW lo keep b (keepV fr keep) s K := (rfl)
theorem XW_range (f : Operand) (ps : List Nat) (a b : VC) (K : VX → Fr → St → Prop) : XW lo (.rangeFunc f ps a b) fr s K = RangeW lo f ps a b fr s K := (rfl)
theorem XW_exit (id : Nat) (K : VX → Fr → St → Prop) : XW lo (.exit id) fr s K = K (.exit id) fr s := (rfl)
theorem XW_scope (b : VC) (K : VX → Fr → St → Prop) : XW lo (.scope b) fr s K = JumpW lo b b fr s K := (rfl)
theorem XW_label (l : Nat) (K : VX → Fr → St → Prop) : XW lo (.label l) fr s K = K .nrm fr s := (rfl)
theorem XW_goto (l : Nat) (K : VX → Fr → St → Prop) : XW lo (.goto l) fr s K = K (.goto l) fr s := (rfl)
theorem XW_ret (K : VX → Fr → St → Prop) : XW lo .ret fr s K = K .ret fr s := (rfl)

end

section
variable {fr : Fr} {s : St}
theorem seqK_nrm (b : Fr → St → Prop) (K : VX → Fr → St → Prop) : seqK b K .nrm fr s = b fr s := (rfl)
theorem seqK_exit (b : Fr → St → Prop) (K : VX → Fr → St → Prop) (id : Nat) : seqK b K (.exit id) fr s = K (.exit id) fr s := (rfl)
theorem seqK_goto (b : Fr → St → Prop) (K : VX → Fr → St → Prop) (l : Nat) : seqK b K (.goto l) fr s = K (.goto l) fr s := (rfl)
theorem seqK_ret (b : Fr → St → Prop) (K : VX → Fr → St → Prop) : seqK b K .ret fr s = K .ret fr s := (rfl)
theorem blockK_nrm (id : Nat) (K : VX → Fr → St → Prop) : blockK id K .nrm fr s = K .nrm fr s := (rfl)
theorem blockK_same (id : Nat) (K : VX → Fr → St → Prop) : blockK id K (.exit id) fr s = K .nrm fr s := by simp [blockK]
theorem blockK_exit {id i : Nat} (h : Nat.beq i id = false) (K : VX → Fr → St → Prop) : blockK id K (.exit i) fr s = K (.exit i) fr s := by
  simp [blockK, Nat.ne_of_beq_eq_false h]
theorem blockK_goto (id : Nat) (K : VX → Fr → St → Prop) (l : Nat) : blockK id K (.goto l) fr s = K (.goto l) fr s := (rfl)
theorem blockK_ret (id : Nat) (K : VX → Fr → St → Prop) : blockK id K .ret fr s = K .ret fr s := (rfl)

theorem bindO_pair {α β : Type} (a : α) (b : β) (K : α × β → Prop) : bindO (some (a, b)) K = K (a, b) := bindO_some _ _
theorem bindO_map {α β : Type} (x : Option α) (f : α → β) (K : β → Prop) : bindO (x.map f) K = bindO x fun a => K (f a) := by
  cases x with
  | none => simp [bindO]
  | some a => simp [bindO_some]
theorem bindO_bind {α β : Type} (x : Option α) (f : α → Option β) (K : β → Prop) : bindO (x.bind f) K = bindO x fun a => bindO (f a) K := by
  cases x with
  | none => simp [bindO]
  | some a => simp [bindO_some]
theorem bindO_if {α : Type} (c : Prop) [Decidable c] (x : Option α) (K : α → Prop) : bindO (if c then x else none) K = (c ∧ bindO x K) := by
  by_cases h : c <;> simp [h, bindO]

/-! ### What is looked up -/

theorem get_tr (t : Nat) (x : Option V) (n : Nat) (h : Nat.beq t n = false) : (fr.set n x).get t = fr.get t := Tr.get_set_ne _ _ (Nat.ne_of_beq_eq_false h)
theorem get_same (n : Nat) (x : Option V) : (fr.set n x).get n = x := Tr.get_set_same _ _ _
theorem get_nil (n : Nat) : (Tr.nil : Fr).get n = none := (rfl)
theorem evO_tmp (t : Nat) : evO fr (.tmp t) = fr.get t := (rfl)
theorem evO_bool (b : Bool) : evO fr (.const (.bool b)) = some (.b b) := (rfl)
theorem evO_int (k : IntKind) (n : Int) : evO fr (.const (.int k n)) = some (.i k n) := (rfl)
theorem evO_float (k : FloatKind) (n : Nat) : evO fr (.const (.float k n)) = some (.f k n) := (rfl)
theorem evO_complex (k : FloatKind) (n m : Nat) : evO fr (.const (.complex k n m)) = some (.c k n m) := (rfl)
theorem evO_string (x : ByteArray) : evO fr (.const (.string x)) = some (.s x.data.toList) := (rfl)
theorem evO_pn : evO fr (.const (.pointer none)) = some .pn := (rfl)
theorem evO_sn : evO fr (.const (.slice none 0 0)) = some .sn := (rfl)
theorem evO_mn : evO fr (.const (.map none)) = some .mn := (rfl)
theorem evO_fnn : evO fr (.const .nilFunc) = some .fnn := (rfl)
theorem evO_itn : evO fr (.const .nilIface) = some .itn := (rfl)
theorem evO_func (f : Nat) : evO fr (.func f) = some (.fn (.func f) [] []) := (rfl)
theorem evL_nil : evL fr [] = some [] := (rfl)

def consO (x : Option V) (y : Option (List V)) : Option (List V) := x.bind fun v => y.map (v :: ·)
theorem evL_cons (x : Operand) (r : List Operand) : evL fr (x :: r) = consO (evO fr x) (evL fr r) := by
  simp only [evL, consO]; cases evO fr x <;> cases evL fr r <;> rfl
theorem consO_some (v : V) (l : List V) : consO (some v) (some l) = some (v :: l) := (rfl)
def consC (n : Nat) (x : Option V) (y : Option (List (Nat × V))) : Option (List (Nat × V)) := x.bind fun v => y.map ((n, v) :: ·)
theorem evC_nil : evC fr [] = some [] := (rfl)
theorem evC_cons (n : Nat) (x : Operand) (r : List (Nat × Operand)) : evC fr ((n, x) :: r) = consC n (evO fr x) (evC fr r) := by
  simp only [evC, consC]; cases evO fr x <;> cases evC fr r <;> rfl
theorem consC_some (n : Nat) (v : V) (l : List (Nat × V)) : consC n (some v) (some l) = some ((n, v) :: l) := (rfl)
theorem evP_nil : evP fr [] = some [] := (rfl)
def consP (a b : Nat) (x : Option V) (y : Option (List (Nat × Nat × V))) : Option (List (Nat × Nat × V)) := x.bind fun v => y.map ((a, b, v) :: ·)
theorem evP_cons (a b : Nat) (x : Operand) (r : List (Nat × Nat × Operand)) : evP fr ((a, b, x) :: r) = consP a b (evO fr x) (evP fr r) := by
  simp only [evP, consP]; cases evO fr x <;> cases evP fr r <;> rfl
theorem consP_some (a b : Nat) (v : V) (l : List (Nat × Nat × V)) : consP a b (some v) (some l) = some ((a, b, v) :: l) := (rfl)
theorem evOp_none : evOp fr none = some none := (rfl)
theorem evOp_some (x : Operand) : evOp fr (some x) = (evO fr x).map some := (rfl)

theorem argsV_nil (k : Nat) : argsV k [] = .nil := (rfl)
theorem argsV_cons (k : Nat) (v : V) (r : List V) : argsV k (v :: r) = (argsV (k + 1) r).set k (some v) := (rfl)
theorem keepV_nil : keepV fr [] = .nil := (rfl)
theorem keepV_cons (t : Nat) (r : List Nat) : keepV fr (t :: r) = (keepV fr r).set t (fr.get t) := (rfl)

theorem resL_nil : resL fr s [] = some [] := (rfl)
theorem resL_cons (x : VRes) (r : List VRes) : resL fr s (x :: r) = consO (resV fr s x) (resL fr s r) := by
  simp only [resL, consO]; cases resV fr s x <;> cases resL fr s r <;> rfl
theorem resV_tmp (t : Nat) : resV fr s (.tmp t) = fr.get t := (rfl)
def cellV (s : St) (ag : Option Nat) (v : V) : Option V :=
  match v with
  | .p id off => (s.rd id off (agN ag)).bind (mkAg ag)
  | _ => none
theorem resV_cell (t : Nat) (ag : Option Nat) : resV fr s (.cell t ag) = (fr.get t).bind (cellV s ag) := by
  simp only [resV]
  cases fr.get t with
  | none => rfl
  | some v => cases v <;> rfl
theorem cellV_p (id off : Nat) (ag : Option Nat) : cellV s ag (.p id off) = (s.rd id off (agN ag)).bind (mkAg ag) := (rfl)
theorem retK_ret (f : List VRes) (K : V → St → Prop) : retK f K .ret fr s = bindO (resL fr s f) fun vs => K (one vs) s := (rfl)
theorem retK_nrm (f : List VRes) (K : V → St → Prop) : retK f K .nrm fr s = bindO (resL fr s f) fun vs => K (one vs) s := (rfl)
theorem one_one (v : V) : one [v] = v := (rfl)
theorem one_two (v w : V) (r : List V) : one (v :: w :: r) = .tu (v :: w :: r) := (rfl)
theorem mkAg_none (v : V) (r : List V) : mkAg none (v :: r) = some v := (rfl)
theorem mkAg_some (n : Nat) (l : List V) : mkAg (some n) l = some (.ag l) := (rfl)
theorem agN_none : agN none = 1 := (rfl)
theorem agN_some (n : Nat) : agN (some n) = n := (rfl)

end

theorem bindO_none {α : Type} (K : α → Prop) : bindO none K = False := by unfold bindO; simp
attribute [local simp] bindO_some bindO_none bindO_map bindO_bind bindO_if

section
variable [Pg]
variable {lo : Nat} {fr : Fr} {s : St} {K : V → St → Prop}

/-! ### Operations -/

theorem opW_call (f : Operand) (args : List Operand) : opW lo fr (.call f args) s K = bindO (evO fr f) fun fv => bindO (evL fr args) fun vs => CallV lo fv vs s K := (rfl)

theorem opW_mv (x : Operand) : opW lo fr (.mv x) s K = bindO (evO fr x) fun v => K v s := by
  simp only [opW, opV, bindO_map]
theorem opW_pick (c a b : Operand) : opW lo fr (.pick c a b) s K = bindO (evO fr c) fun v => condW v (fun _ => bindO (evO fr a) fun v => K v s) (fun _ => bindO (evO fr b) fun v => K v s) := by
  simp only [opW, opV]
  cases evO fr c with
  | none => simp
  | some v => rw [bindO_some]; cases v <;> (try simp [condW]); rename_i x; cases x <;> simp only [condW, bindO_map]
theorem opW_alloc (z : List V) : opW lo fr (.alloc z) s K = K (.p s.next 0) (s.alloc (.cells z)) := by simp only [opW, opV, bindO_some]
theorem opW_box (x : Operand) : opW lo fr (.box x) s K = bindO (evO fr x) fun v => K (.p s.next 0) (s.alloc (.cells v.cells)) := by
  simp only [opW, opV]; cases evO fr x <;> simp
theorem opW_build (z : List V) (parts : List (Nat × Nat × Operand)) : opW lo fr (.build z parts) s K = bindO (evP fr parts) fun vs => bindO (fillV z vs) fun cs => K (.ag cs) s := by
  simp only [opW, opV]; cases evP fr parts <;> simp
theorem opW_buildC (parts : List (Nat × Operand)) : opW lo fr (.buildC parts) s K = bindO (evC fr parts) fun vs => bindO (concatV vs) fun cs => K (.ag cs) s := by
  simp only [opW, opV]; cases evC fr parts <;> simp
theorem opW_bslice (z : List V) (sz len : Nat) (parts : List (Nat × Nat × Operand)) :
    opW lo fr (.bslice z sz len parts) s K = bindO (evP fr parts) fun vs => bindO (fillV (reps len z) vs) fun cs => K (.sl s.next 0 len len sz true) (s.alloc (.cells cs)) := by
  simp only [opW, opV]; cases evP fr parts with
  | none => simp
  | some vs => simp only [bindO_some]; cases fillV (reps len z) vs <;> simp
theorem opW_bsliceC (sz len : Nat) (parts : List (Nat × Operand)) :
    opW lo fr (.bsliceC sz len parts) s K = bindO (evC fr parts) fun vs => bindO (concatV vs) fun cs => K (.sl s.next 0 len len sz true) (s.alloc (.cells cs)) := by
  simp only [opW, opV]; cases evC fr parts with
  | none => simp
  | some vs => simp only [bindO_some]; cases concatV vs <;> simp

def loadO (ag : Option Nat) (s : St) : V → Option V
  | .p id off => (s.rd id off (agN ag)).bind (mkAg ag)
  | _ => none
omit [Pg] in
theorem loadO_p (ag : Option Nat) (s : St) (id off : Nat) : loadO ag s (.p id off) = (s.rd id off (agN ag)).bind (mkAg ag) := (rfl)
theorem opW_load (ag : Option Nat) (a : Operand) : opW lo fr (.load ag a) s K = bindO (evO fr a) fun v => bindO (loadO ag s v) fun x => K x s := by
  simp only [opW, opV]; cases evO fr a with
  | none => simp
  | some v => rw [bindO_some]; cases v <;> (try simp [loadO]) <;> (rename_i id off; cases s.rd id off (agN ag) <;> simp)

/-- The cells of a block that may be written to. -/
def St.cellsAt (s : St) (id : Nat) : Option (List V) :=
  match s.heap.get id with
  | some (.cells cs) => some cs
  | _ => none

def wrW (lo : Nat) (s : St) (id off : Nat) (vs : List V) (K : St → Prop) : Prop :=
  lo ≤ id ∧ bindO (s.cellsAt id) fun cs => (off + vs.length ≤ cs.length ∧ vs.all V.ok1 = true) ∧ K (s.put id (.cells (splice cs off vs)))
omit [Pg] in
theorem bindO_wr (lo : Nat) (s : St) (id off : Nat) (vs : List V) (K : St → Prop) : bindO (s.wr lo id off vs) K = wrW lo s id off vs K := by
  unfold wrW St.wr St.cellsAt
  by_cases h : id < lo
  · rw [if_pos h]; simp; have : ¬ lo ≤ id := by omega
    simp [this]
  · rw [if_neg h]
    have : lo ≤ id := by omega
    simp only [this, true_and]
    cases s.heap.get id with
    | none => simp
    | some o => cases o <;> simp only [bindO_some, bindO_if] <;> simp

def storeW (lo n : Nat) (s : St) (p v : V) (K : St → Prop) : Prop :=
  match p with
  | .p id off => v.cells.length = n ∧ wrW lo s id off v.cells K
  | _ => False
omit [Pg] in
theorem storeW_p (lo n : Nat) (s : St) (id off : Nat) (v : V) (K : St → Prop) : storeW lo n s (.p id off) v K = (v.cells.length = n ∧ wrW lo s id off v.cells K) := (rfl)
theorem opW_store (n : Nat) (a x : Operand) : opW lo fr (.store n a x) s K = bindO (evO fr a) fun p => bindO (evO fr x) fun v => storeW lo n s p v (K (.tu [])) := by
  simp only [opW, opV]; cases evO fr a with
  | none => simp
  | some p => rw [bindO_some]; cases evO fr x with
    | none => cases p <;> simp
    | some v => rw [bindO_some]; cases p <;> simp only [storeW] <;> try simp
                rw [← bindO_wr]; rename_i id off
                by_cases h : v.cells.length = n
                · simp only [h, if_true, true_and]; cases s.wr lo id off v.cells <;> simp
                · simp [h]

def nilO : V → Option V
  | .p id off => some (.p id off)
  | .it t v => some (.it t v)
  | .fn (.func k) a c => some (.fn (.func k) a c)
  | .yl id => some (.yl id)
  | _ => none
omit [Pg] in
theorem nilO_p (id off : Nat) : nilO (.p id off) = some (.p id off) := (rfl)
omit [Pg] in
theorem nilO_it (t : Nat) (v : V) : nilO (.it t v) = some (.it t v) := (rfl)
omit [Pg] in
theorem nilO_fn (k : Nat) (a c : List V) : nilO (.fn (.func k) a c) = some (.fn (.func k) a c) := (rfl)
omit [Pg] in
theorem nilO_yl (id : Nat) : nilO (.yl id) = some (.yl id) := (rfl)
theorem opW_nilCheck (x : Operand) : opW lo fr (.nilCheck x) s K = bindO (evO fr x) fun v => bindO (nilO v) fun v => K v s := by
  simp only [opW, opV]; cases evO fr x with
  | none => simp
  | some v => rw [bindO_some]; cases v <;> (try simp [nilO]); rename_i f a c; cases f <;> simp [nilO]
theorem opW_bin (op : BinOp) (x y : Operand) : opW lo fr (.bin op x y) s K = bindO (evO fr x) fun a => bindO (evO fr y) fun b => bindO (binV op a b) fun v => K v s := by
  simp only [opW, opV]; cases evO fr x <;> cases evO fr y <;> simp
theorem opW_isNil (k : Nat) (neg : Bool) (x : Operand) : opW lo fr (.isNil k neg x) s K = bindO (evO fr x) fun a => bindO (isNilV k a) fun r => K (.b (r != neg)) s := by
  simp only [opW, opV]; cases evO fr x <;> simp
def eqBO (neg : Bool) : V → V → Option V
  | .b a, .b b => some (.b ((a == b) != neg))
  | _, _ => none
omit [Pg] in
theorem eqBO_b (neg a b : Bool) : eqBO neg (.b a) (.b b) = some (.b ((a == b) != neg)) := (rfl)
theorem opW_eqB (neg : Bool) (x y : Operand) : opW lo fr (.eqB neg x y) s K = bindO (evO fr x) fun a => bindO (evO fr y) fun b => bindO (eqBO neg a b) fun v => K v s := by
  simp only [opW, opV]; cases evO fr x with
  | none => simp
  | some a => cases evO fr y with
    | none => cases a <;> simp
    | some b => cases a <;> cases b <;> simp [eqBO]
def eqAgO (neg : Bool) (ks : List CK) : V → V → Option V
  | .ag xs, .ag ys => (ceqs ks xs ys).map fun r => .b (r != neg)
  | _, _ => none
omit [Pg] in
theorem eqAgO_ag (neg : Bool) (ks : List CK) (xs ys : List V) : eqAgO neg ks (.ag xs) (.ag ys) = (ceqs ks xs ys).map fun r => .b (r != neg) := (rfl)
theorem opW_eqAg (neg : Bool) (ks : List CK) (x y : Operand) : opW lo fr (.eqAg neg ks x y) s K = bindO (evO fr x) fun a => bindO (evO fr y) fun b => bindO (eqAgO neg ks a b) fun v => K v s := by
  simp only [opW, opV]; cases evO fr x with
  | none => simp
  | some a => cases evO fr y with
    | none => cases a <;> simp
    | some b => cases a <;> cases b <;> simp [eqAgO]
theorem opW_un (op : UnOp) (x : Operand) : opW lo fr (.un op x) s K = bindO (evO fr x) fun a => bindO (unV op a) fun v => K v s := by
  simp only [opW, opV]; cases evO fr x <;> simp
theorem opW_toInt (k : IntKind) (x : Operand) : opW lo fr (.toInt k x) s K = bindO (evO fr x) fun a => bindO (toIntV k a) fun v => K v s := by
  simp only [opW, opV, bindO_map, bindO_bind]
theorem opW_toFloat (k : FloatKind) (x : Operand) : opW lo fr (.toFloat k x) s K = bindO (evO fr x) fun a => bindO (toFloatV k a) fun v => K v s := by
  simp only [opW, opV, bindO_map, bindO_bind]
def toStrO : V → Option V
  | .s bs => some (.s bs)
  | .i _ n => some (.s (Utf8.encode n).data.toList)
  | _ => none
omit [Pg] in
theorem toStrO_s (bs : List UInt8) : toStrO (.s bs) = some (.s bs) := (rfl)
omit [Pg] in
theorem toStrO_i (k : IntKind) (n : Int) : toStrO (.i k n) = some (.s (Utf8.encode n).data.toList) := (rfl)
theorem opW_toStr (x : Operand) : opW lo fr (.toStr x) s K = bindO (evO fr x) fun a => bindO (toStrO a) fun v => K v s := by
  simp only [opW, opV]; cases evO fr x with
  | none => simp
  | some v => rw [bindO_some]; cases v <;> simp [toStrO]
def bytesStrO (s : St) : V → Option V
  | .sn => some (.s [])
  | .sl id off len _ sz _ => if sz = 1 then (s.rd id off len).bind fun cs => (bytesOf cs).map .s else none
  | _ => none
theorem opW_bytesStr (x : Operand) : opW lo fr (.bytesStr x) s K = bindO (evO fr x) fun a => bindO (bytesStrO s a) fun v => K v s := by
  simp only [opW, opV]; cases evO fr x with
  | none => simp
  | some v =>
    rw [bindO_some]; cases v <;> (try simp [bytesStrO])
    rename_i id off len lb sz ex
    by_cases h : sz = 1
    · simp only [h, if_true]; cases s.rd id off len <;> simp
    · simp [h]
def runesStrO (s : St) : V → Option V
  | .sn => some (.s [])
  | .sl id off len _ sz _ => if sz = 1 then (s.rd id off len).bind fun cs => (runesOf cs).map .s else none
  | _ => none
theorem opW_runesStr (x : Operand) : opW lo fr (.runesStr x) s K = bindO (evO fr x) fun a => bindO (runesStrO s a) fun v => K v s := by
  simp only [opW, opV]; cases evO fr x with
  | none => simp
  | some v =>
    rw [bindO_some]; cases v <;> (try simp [runesStrO])
    rename_i id off len lb sz ex
    by_cases h : sz = 1
    · simp only [h, if_true]; cases s.rd id off len <;> simp
    · simp [h]
theorem opW_mkIface (t : TypeId) (x : Operand) : opW lo fr (.mkIface t x) s K = bindO (evO fr x) fun v => K (.it t v) s := by
  simp only [opW, opV, bindO_map]
theorem opW_mkFunc (k : Nat) (first captured : List Operand) : opW lo fr (.mkFunc (.func k) first captured) s K = bindO (evL fr first) fun a => bindO (evL fr captured) fun c => K (.fn (.func k) a c) s := by
  simp only [opW, opV]; cases evL fr first <;> cases evL fr captured <;> simp
theorem opW_mkMap : opW lo fr .mkMap s K = K (.m s.next) (s.alloc (.map [])) := by simp only [opW, opV, bindO_some]
def mkSliceW (z : List V) (sz bytes : Nat) (s : St) (l c : V) (K : V → St → Prop) : Prop :=
  match l, c with
  | .i _ l, .i _ c => (0 ≤ l ∧ l ≤ c ∧ bytes * c ≤ 1099511627776 ∧ c ≤ 1099511627776) ∧ K (.sl s.next 0 l.toNat c.toNat sz true) (s.alloc (.cells (reps c.toNat z)))
  | _, _ => False
omit [Pg] in
theorem mkSliceW_i (z : List V) (sz bytes : Nat) (s : St) (k k' : IntKind) (l c : Int) (K : V → St → Prop) : mkSliceW z sz bytes s (.i k l) (.i k' c) K =
    ((0 ≤ l ∧ l ≤ c ∧ bytes * c ≤ 1099511627776 ∧ c ≤ 1099511627776) ∧ K (.sl s.next 0 l.toNat c.toNat sz true) (s.alloc (.cells (reps c.toNat z)))) := (rfl)
theorem opW_mkSlice (z : List V) (sz bytes : Nat) (len cap : Operand) : opW lo fr (.mkSlice z sz bytes len cap) s K = bindO (evO fr len) fun l => bindO (evO fr cap) fun c => mkSliceW z sz bytes s l c K := by
  simp only [opW, opV]; cases evO fr len with
  | none => simp
  | some a => cases evO fr cap with
    | none => cases a <;> simp
    | some b =>
      cases a <;> cases b <;> simp only [bindO_some, mkSliceW] <;> try simp
def slStrO (x : V) (l h : Option V) : Option V :=
  match x with
  | .s bs => (bnd bs.length h bs.length).bind fun h => (bnd h l 0).map fun l => .s ((bs.drop l).take (h - l))
  | _ => none
omit [Pg] in
theorem slStrO_s (bs : List UInt8) (l h : Option V) : slStrO (.s bs) l h = (bnd bs.length h bs.length).bind fun h => (bnd h l 0).map fun l => .s ((bs.drop l).take (h - l)) := (rfl)
theorem opW_slStr (x : Operand) (l h : Option Operand) : opW lo fr (.slStr x l h) s K = bindO (evO fr x) fun a => bindO (evOp fr l) fun l => bindO (evOp fr h) fun h => bindO (slStrO a l h) fun v => K v s := by
  simp only [opW, opV]; cases evO fr x with
  | none => simp
  | some a => cases evOp fr l with
    | none => cases a <;> simp
    | some lv => cases evOp fr h with
      | none => cases a <;> simp
      | some hv =>
        cases a <;> simp only [bindO_some, slStrO] <;> try simp
        rename_i bs
        cases hb : bnd bs.length hv bs.length with
        | none => simp
        | some h' => cases hl : bnd h' lv 0 <;> simp [hl]
def slSlO (sz : Nat) (x : V) (l h m : Option V) : Option V :=
  match x with
  | .sl id off len lb sz' ex => if sz' = sz then sliceV sz id off len lb ex l h m else none
  | .sn => match bnd 0 h 0, bnd 0 l 0, bnd 0 m 0 with
      | some _, some _, some _ => if m.isSome && h.isNone then none else some .sn
      | _, _, _ => none
  | _ => none
theorem opW_slSl (sz : Nat) (x : Operand) (l h m : Option Operand) : opW lo fr (.slSl sz x l h m) s K = bindO (evO fr x) fun a => bindO (evOp fr l) fun l => bindO (evOp fr h) fun h => bindO (evOp fr m) fun m => bindO (slSlO sz a l h m) fun v => K v s := by
  simp only [opW, opV]; cases evO fr x with
  | none => simp
  | some a => cases evOp fr l with
    | none => cases a <;> simp
    | some lv => cases evOp fr h with
      | none => cases a <;> simp
      | some hv => cases evOp fr m with
        | none => cases a <;> simp
        | some mv =>
          cases a <;> simp only [bindO_some, slSlO] <;> try simp
          cases bnd 0 hv 0 <;> cases bnd 0 lv 0 <;> cases bnd 0 mv 0 <;> simp
          split <;> simp
def slArrO (n sz : Nat) (s : St) (x : V) (l h m : Option V) : Option V :=
  match x, m with
  | .p id off, none => (s.rd id off (n * sz)).bind fun _ => sliceV sz id off n n true l h none
  | _, _ => none
omit [Pg] in
theorem slArrO_p (n sz : Nat) (s : St) (id off : Nat) (l h : Option V) : slArrO n sz s (.p id off) l h none = (s.rd id off (n * sz)).bind fun _ => sliceV sz id off n n true l h none := (rfl)
theorem opW_slArr (n sz : Nat) (x : Operand) (l h m : Option Operand) : opW lo fr (.slArr n sz x l h m) s K = bindO (evO fr x) fun a => bindO (evOp fr l) fun l => bindO (evOp fr h) fun h => bindO (evOp fr m) fun m => bindO (slArrO n sz s a l h m) fun v => K v s := by
  simp only [opW, opV]; cases evO fr x with
  | none => simp
  | some a => cases evOp fr l with
    | none => cases a <;> simp
    | some lv => cases evOp fr h with
      | none => cases a <;> simp
      | some hv => cases evOp fr m with
        | none => cases a <;> simp
        | some mv =>
          cases a <;> cases mv <;> simp only [bindO_some, slArrO] <;> try simp
          rename_i id off
          cases s.rd id off (n * sz) <;> simp
def faO (off : Nat) : V → Option V
  | .p id a => some (.p id (a + off))
  | _ => none
omit [Pg] in
theorem faO_p (off id a : Nat) : faO off (.p id a) = some (.p id (a + off)) := (rfl)
theorem opW_fieldAddr (off : Nat) (x : Operand) : opW lo fr (.fieldAddr off x) s K = bindO (evO fr x) fun v => bindO (faO off v) fun v => K v s := by
  simp only [opW, opV]; cases evO fr x with
  | none => simp
  | some v => rw [bindO_some]; cases v <;> simp [faO]
def fieldO (off : Nat) (ag : Option Nat) : V → Option V
  | .ag cs => partV ag cs off
  | _ => none
omit [Pg] in
theorem fieldO_ag (off : Nat) (ag : Option Nat) (cs : List V) : fieldO off ag (.ag cs) = partV ag cs off := (rfl)
theorem opW_field (off : Nat) (ag : Option Nat) (x : Operand) : opW lo fr (.field off ag x) s K = bindO (evO fr x) fun v => bindO (fieldO off ag v) fun v => K v s := by
  simp only [opW, opV]; cases evO fr x with
  | none => simp
  | some v => rw [bindO_some]; cases v <;> simp [fieldO]

def idxSlW (sz : Nat) (x i : V) (K : V → Prop) : Prop :=
  match x, i with
  | .sl id off len _ sz' _, .i _ n => (sz' = sz ∧ 0 ≤ n ∧ n < len) ∧ K (.p id (off + n.toNat * sz))
  | _, _ => False
omit [Pg] in
theorem idxSlW_sl (sz id off len lb : Nat) (ex : Bool) (k : IntKind) (n : Int) (K : V → Prop) : idxSlW sz (.sl id off len lb sz ex) (.i k n) K = ((0 ≤ n ∧ n < len) ∧ K (.p id (off + n.toNat * sz))) := by simp [idxSlW]
theorem opW_idxSl (sz : Nat) (x i : Operand) : opW lo fr (.idxSl sz x i) s K = bindO (evO fr x) fun a => bindO (evO fr i) fun b => idxSlW sz a b fun v => K v s := by
  simp only [opW, opV]; cases evO fr x with
  | none => simp
  | some a => cases evO fr i with
    | none => cases a <;> simp
    | some b => cases a <;> cases b <;> simp only [bindO_some, idxSlW] <;> simp
def idxArrW (len sz : Nat) (x i : V) (K : V → Prop) : Prop :=
  match x, i with
  | .p id off, .i _ n => (0 ≤ n ∧ n < len) ∧ K (.p id (off + n.toNat * sz))
  | _, _ => False
omit [Pg] in
theorem idxArrW_p (len sz id off : Nat) (k : IntKind) (n : Int) (K : V → Prop) : idxArrW len sz (.p id off) (.i k n) K = ((0 ≤ n ∧ n < len) ∧ K (.p id (off + n.toNat * sz))) := (rfl)
theorem opW_idxArr (len sz : Nat) (x i : Operand) : opW lo fr (.idxArr len sz x i) s K = bindO (evO fr x) fun a => bindO (evO fr i) fun b => idxArrW len sz a b fun v => K v s := by
  simp only [opW, opV]; cases evO fr x with
  | none => simp
  | some a => cases evO fr i with
    | none => cases a <;> simp
    | some b => cases a <;> cases b <;> simp only [bindO_some, idxArrW] <;> simp
def idxStrW (x i : V) (K : V → Prop) : Prop :=
  match x, i with
  | .s bs, .i _ n => 0 ≤ n ∧ bindO bs[n.toNat]? fun b => K (.i .u8 b.toNat)
  | _, _ => False
omit [Pg] in
theorem idxStrW_s (bs : List UInt8) (k : IntKind) (n : Int) (K : V → Prop) : idxStrW (.s bs) (.i k n) K = (0 ≤ n ∧ bindO bs[n.toNat]? fun b => K (.i .u8 b.toNat)) := (rfl)
theorem opW_idxStr (x i : Operand) : opW lo fr (.idxStr x i) s K = bindO (evO fr x) fun a => bindO (evO fr i) fun b => idxStrW a b fun v => K v s := by
  simp only [opW, opV]; cases evO fr x with
  | none => simp
  | some a => cases evO fr i with
    | none => cases a <;> simp
    | some b =>
      cases a <;> cases b <;> simp only [bindO_some, idxStrW] <;> try simp
      rename_i bs k n
      by_cases h : 0 ≤ n
      · simp only [h, if_true, true_and]; cases bs[n.toNat]? <;> simp
      · simp [h]
def idxAgW (len sz : Nat) (ag : Option Nat) (x i : V) (K : V → Prop) : Prop :=
  match x, i with
  | .ag cs, .i _ n => (0 ≤ n ∧ n < len) ∧ bindO (partV ag cs (n.toNat * sz)) K
  | _, _ => False
omit [Pg] in
theorem idxAgW_ag (len sz : Nat) (ag : Option Nat) (cs : List V) (k : IntKind) (n : Int) (K : V → Prop) : idxAgW len sz ag (.ag cs) (.i k n) K = ((0 ≤ n ∧ n < len) ∧ bindO (partV ag cs (n.toNat * sz)) K) := (rfl)
theorem opW_idxAg (len sz : Nat) (ag : Option Nat) (x i : Operand) : opW lo fr (.idxAg len sz ag x i) s K = bindO (evO fr x) fun a => bindO (evO fr i) fun b => idxAgW len sz ag a b fun v => K v s := by
  simp only [opW, opV]; cases evO fr x with
  | none => simp
  | some a => cases evO fr i with
    | none => cases a <;> simp
    | some b =>
      cases a <;> cases b <;> simp only [bindO_some, idxAgW] <;> try simp
def extractO (i : Nat) : V → Option V
  | .tu l => l[i]?
  | _ => none
omit [Pg] in
theorem extractO_tu (i : Nat) (l : List V) : extractO i (.tu l) = l[i]? := (rfl)
theorem opW_extract (x : Operand) (i : Nat) : opW lo fr (.extract x i) s K = bindO (evO fr x) fun v => bindO (extractO i v) fun v => K v s := by
  simp only [opW, opV]; cases evO fr x with
  | none => simp
  | some v => rw [bindO_some]; cases v <;> simp [extractO]
def lenStrO : V → Option V
  | .s bs => some (.i .i64 bs.length)
  | _ => none
omit [Pg] in
theorem lenStrO_s (bs : List UInt8) : lenStrO (.s bs) = some (.i .i64 bs.length) := (rfl)
theorem opW_lenStr (x : Operand) : opW lo fr (.lenStr x) s K = bindO (evO fr x) fun v => bindO (lenStrO v) fun v => K v s := by
  simp only [opW, opV]; cases evO fr x with
  | none => simp
  | some v => rw [bindO_some]; cases v <;> simp [lenStrO]
def lenSlO : V → Option V
  | .sn => some (.i .i64 0)
  | .sl _ _ len _ _ _ => some (.i .i64 len)
  | _ => none
omit [Pg] in
theorem lenSlO_sn : lenSlO .sn = some (.i .i64 0) := (rfl)
omit [Pg] in
theorem lenSlO_sl (id off len lb sz : Nat) (ex : Bool) : lenSlO (.sl id off len lb sz ex) = some (.i .i64 len) := (rfl)
theorem opW_lenSl (x : Operand) : opW lo fr (.lenSl x) s K = bindO (evO fr x) fun v => bindO (lenSlO v) fun v => K v s := by
  simp only [opW, opV]; cases evO fr x with
  | none => simp
  | some v => rw [bindO_some]; cases v <;> simp [lenSlO]
theorem opW_lenC (n : Nat) : opW lo fr (.lenC n) s K = K (.i .i64 n) s := by simp only [opW, opV, bindO_some]
def capO : V → Option V
  | .sn => some (.i .i64 0)
  | .sl _ _ _ lb _ true => some (.i .i64 lb)
  | _ => none
omit [Pg] in
theorem capO_sn : capO .sn = some (.i .i64 0) := (rfl)
omit [Pg] in
theorem capO_sl (id off len lb sz : Nat) : capO (.sl id off len lb sz true) = some (.i .i64 lb) := (rfl)
theorem opW_cap (x : Operand) : opW lo fr (.cap x) s K = bindO (evO fr x) fun v => bindO (capO v) fun v => K v s := by
  simp only [opW, opV]; cases evO fr x with
  | none => simp
  | some v => rw [bindO_some]; cases v <;> (try simp [capO]); rename_i ex; cases ex <;> simp [capO]
theorem opW_append (mk : Bool) (z : List V) (sz bytes : Nat) (a x : Operand) : opW lo fr (.append mk z sz bytes a x) s K = bindO (evO fr a) fun av => bindO (evO fr x) fun xv => bindO (appendV lo mk z sz bytes av xv s) fun r => K r.1 r.2 := by
  simp only [opW, opV]; cases evO fr a <;> cases evO fr x <;> simp
theorem opW_mnmx (mx : Bool) (x : Operand) (l : List Operand) : opW lo fr (.mnmx mx x l) s K = bindO (evO fr x) fun v => bindO (evL fr l) fun vs => bindO (mnmxV mx v vs) fun v => K v s := by
  simp only [opW, opV]; cases evO fr x <;> cases evL fr l <;> simp
def complexO : V → V → Option V
  | .f k a, .f k' b => if k = k' then some (.c k a b) else none
  | _, _ => none
omit [Pg] in
theorem complexO_f (k : FloatKind) (a b : Nat) : complexO (.f k a) (.f k b) = some (.c k a b) := by simp [complexO]
theorem opW_complex (x y : Operand) : opW lo fr (.complex x y) s K = bindO (evO fr x) fun a => bindO (evO fr y) fun b => bindO (complexO a b) fun v => K v s := by
  simp only [opW, opV]; cases evO fr x with
  | none => simp
  | some a => cases evO fr y with
    | none => cases a <;> simp
    | some b =>
      cases a <;> cases b <;> simp only [bindO_some, complexO] <;> try simp
def realO : V → Option V
  | .c k a _ => some (.f k a)
  | _ => none
omit [Pg] in
theorem realO_c (k : FloatKind) (a b : Nat) : realO (.c k a b) = some (.f k a) := (rfl)
theorem opW_real (x : Operand) : opW lo fr (.real x) s K = bindO (evO fr x) fun v => bindO (realO v) fun v => K v s := by
  simp only [opW, opV]; cases evO fr x with
  | none => simp
  | some v => rw [bindO_some]; cases v <;> simp [realO]
def imagO : V → Option V
  | .c k _ b => some (.f k b)
  | _ => none
omit [Pg] in
theorem imagO_c (k : FloatKind) (a b : Nat) : imagO (.c k a b) = some (.f k b) := (rfl)
theorem opW_imag (x : Operand) : opW lo fr (.imag x) s K = bindO (evO fr x) fun v => bindO (imagO v) fun v => K v s := by
  simp only [opW, opV]; cases evO fr x with
  | none => simp
  | some v => rw [bindO_some]; cases v <;> simp [imagO]
theorem opW_range (x : Operand) : opW lo fr (.range x) s K = bindO (evO fr x) fun v => (match v with | .s bs => K (.p s.next 0) (s.alloc (.iter bs 0)) | _ => False) := by
  simp only [opW, opV]; cases evO fr x with
  | none => simp
  | some v => rw [bindO_some]; cases v <;> simp
/-- Whatever else: as it lies. -/
theorem opW_raw (op : VOp) (h : ∀ f args, op ≠ .call f args) : opW lo fr op s K = bindO (opV o0 lo fr op s) fun r => K r.1 r.2 := by
  cases op <;> first | rfl | exact absurd rfl (h _ _)

end
end VE

namespace VE
open Go

/-! ## Values -/

theorem wr64 {n : Int} (h1 : -9223372036854775808 ≤ n) (h2 : n ≤ 9223372036854775807) : IntKind.i64.wrap n = n := IntWalk.i64_in n ⟨h1, h2⟩
theorem wr64_nat (n : Nat) (h2 : n ≤ 9223372036854775807) : IntKind.i64.wrap (n : Int) = n := wr64 (by omega) (by omega)

theorem binV_add (k : IntKind) (a b : Int) : binV .add (.i k a) (.i k b) = some (.i k (k.wrap (a + b))) := by simp [binV, ibin]
theorem binV_sub (k : IntKind) (a b : Int) : binV .sub (.i k a) (.i k b) = some (.i k (k.wrap (a - b))) := by simp [binV, ibin]
theorem binV_mul (k : IntKind) (a b : Int) : binV .mul (.i k a) (.i k b) = some (.i k (k.wrap (a * b))) := by simp [binV, ibin]
theorem binV_eql (k : IntKind) (a b : Int) : binV .eql (.i k a) (.i k b) = some (.b (decide (a = b))) := by simp [binV, ibin]; rfl
theorem binV_neq (k : IntKind) (a b : Int) : binV .neq (.i k a) (.i k b) = some (.b (!decide (a = b))) := by simp [binV, ibin]; rfl
theorem binV_lss (k : IntKind) (a b : Int) : binV .lss (.i k a) (.i k b) = some (.b (decide (a < b))) := by simp [binV, ibin]
theorem binV_leq (k : IntKind) (a b : Int) : binV .leq (.i k a) (.i k b) = some (.b (decide (a ≤ b))) := by simp [binV, ibin]
theorem binV_gtr (k : IntKind) (a b : Int) : binV .gtr (.i k a) (.i k b) = some (.b (decide (b < a))) := by simp [binV, ibin]
theorem binV_geq (k : IntKind) (a b : Int) : binV .geq (.i k a) (.i k b) = some (.b (decide (b ≤ a))) := by simp [binV, ibin]
theorem binV_quo (k : IntKind) (a b : Int) (h : b ≠ 0) : binV .quo (.i k a) (.i k b) = some (.i k (k.wrap (a.tdiv b))) := by simp [binV, ibin, h]
theorem binV_rem (k : IntKind) (a b : Int) (h : b ≠ 0) : binV .rem (.i k a) (.i k b) = some (.i k (a.tmod b)) := by simp [binV, ibin, h]
theorem beq_dec (a b : List UInt8) : (a == b) = decide (a = b) := by rw [Bool.eq_iff_iff]; simp
theorem binV_sadd (a b : List UInt8) : binV .add (.s a) (.s b) = if a.length + b.length ≤ 1099511627776 then some (.s (a ++ b)) else none := (rfl)
theorem binV_seql (a b : List UInt8) : binV .eql (.s a) (.s b) = some (.b (decide (a = b))) := by simp only [binV, sbin, beq_dec]
theorem binV_sneq (a b : List UInt8) : binV .neq (.s a) (.s b) = some (.b (!decide (a = b))) := by simp only [binV, sbin, beq_dec]
theorem unV_not (b : Bool) : unV .not (.b b) = some (.b !b) := (rfl)
theorem unV_neg (k : IntKind) (n : Int) : unV .neg (.i k n) = some (.i k (k.wrap (0 - n))) := (rfl)
theorem toIntV_i (k k' : IntKind) (n : Int) : toIntV k (.i k' n) = some (.i k (k.wrap n)) := (rfl)

theorem ceqs_nil : ceqs [] [] [] = some true := (rfl)
theorem ceqs_i (k : IntKind) (a b : Int) (ks : List CK) (xs ys : List V) : ceqs (.i :: ks) (.i k a :: xs) (.i k b :: ys) = (ceqs ks xs ys).map (decide (a = b) && ·) := by
  simp only [ceqs, ceq, if_true]; cases ceqs ks xs ys <;> rfl
theorem ceqs_s (a b : List UInt8) (ks : List CK) (xs ys : List V) : ceqs (.s :: ks) (.s a :: xs) (.s b :: ys) = (ceqs ks xs ys).map (decide (a = b) && ·) := by
  simp only [ceqs, ceq, beq_dec]; cases ceqs ks xs ys <;> rfl
theorem ceqs_b (a b : Bool) (ks : List CK) (xs ys : List V) : ceqs (.b :: ks) (.b a :: xs) (.b b :: ys) = (ceqs ks xs ys).map ((a == b) && ·) := by
  simp only [ceqs, ceq]; cases ceqs ks xs ys <;> rfl

theorem isNilV_sn : isNilV 1 .sn = some true := (rfl)
theorem isNilV_sl (id off len lb sz : Nat) (ex : Bool) : isNilV 1 (.sl id off len lb sz ex) = some false := (rfl)
theorem isNilV_pn : isNilV 0 .pn = some true := (rfl)
theorem isNilV_p (id off : Nat) : isNilV 0 (.p id off) = some false := (rfl)
theorem isNilV_fn (f : Fn) (a c : List V) : isNilV 3 (.fn f a c) = some false := (rfl)

theorem mnmx_min (k : IntKind) (a b : Int) : mnmxV false (.i k a) [.i k b] = some (.i k (min a b)) := by
  simp only [mnmxV, mnmx2]; simp; split <;> omega
theorem mnmx_max (k : IntKind) (a b : Int) : mnmxV true (.i k a) [.i k b] = some (.i k (max a b)) := by
  simp only [mnmxV, mnmx2]; simp; split <;> omega

theorem cells_b (x : Bool) : V.cells (.b x) = [.b x] := (rfl)
theorem cells_i (k : IntKind) (n : Int) : V.cells (.i k n) = [.i k n] := (rfl)
theorem cells_s (x : List UInt8) : V.cells (.s x) = [.s x] := (rfl)
theorem cells_p (a b : Nat) : V.cells (.p a b) = [.p a b] := (rfl)
theorem cells_sl (a b c d e : Nat) (f : Bool) : V.cells (.sl a b c d e f) = [.sl a b c d e f] := (rfl)
theorem cells_sn : V.cells .sn = [.sn] := (rfl)
theorem cells_pn : V.cells .pn = [.pn] := (rfl)
theorem cells_m (a : Nat) : V.cells (.m a) = [.m a] := (rfl)
theorem cells_fn (f : Fn) (a c : List V) : V.cells (.fn f a c) = [.fn f a c] := (rfl)
theorem cells_ag (l : List V) : V.cells (.ag l) = l := (rfl)

/-! ## Memory -/

theorem rd_alloc (s : St) (cs : List V) (id off n : Nat) : (s.alloc (.cells cs)).rd id off n = if id = s.next then (if off + n ≤ cs.length then some ((cs.drop off).take n) else none) else s.rd id off n := by
  unfold St.rd; rw [get_alloc]; by_cases h : id = s.next <;> simp [h]
theorem rd_put (s : St) (cs : List V) (k id off n : Nat) : (s.put k (.cells cs)).rd id off n = if id = k then (if off + n ≤ cs.length then some ((cs.drop off).take n) else none) else s.rd id off n := by
  unfold St.rd; rw [get_put]; by_cases h : id = k <;> simp [h]
theorem rd_alloc_ne {s : St} {id : Nat} (o : VO) (off n : Nat) (h : id ≠ s.next) : (s.alloc o).rd id off n = s.rd id off n := by
  unfold St.rd; rw [get_alloc, if_neg h]
theorem rd_put_ne {s : St} {id k : Nat} (o : VO) (off n : Nat) (h : id ≠ k) : (s.put k o).rd id off n = s.rd id off n := by
  unfold St.rd; rw [get_put, if_neg h]
theorem cellsAt_alloc (s : St) (cs : List V) (id : Nat) : (s.alloc (.cells cs)).cellsAt id = if id = s.next then some cs else s.cellsAt id := by
  unfold St.cellsAt; rw [get_alloc]; by_cases h : id = s.next <;> simp [h]
theorem cellsAt_put (s : St) (cs : List V) (k id : Nat) : (s.put k (.cells cs)).cellsAt id = if id = k then some cs else s.cellsAt id := by
  unfold St.cellsAt; rw [get_put]; by_cases h : id = k <;> simp [h]

theorem St.Le.rd {s s' : St} (h : s.Le s') {id : Nat} (hi : id < s.next) (off n : Nat) : s'.rd id off n = s.rd id off n := rd_congr (h.get id hi) _ _
theorem St.Le.cellsAt {s s' : St} (h : s.Le s') {id : Nat} (hi : id < s.next) : s'.cellsAt id = s.cellsAt id := by
  unfold St.cellsAt; rw [h.get id hi]
theorem rd_lt {s : St} {id off n : Nat} {cs : List V} (hf : ∀ id, s.next ≤ id → s.heap.get id = none) (h : s.rd id off n = some cs) : id < s.next := by
  rcases Nat.lt_or_ge id s.next with h0 | h0
  · exact h0
  · obtain ⟨o, ho, _⟩ := rd_alive h; rw [hf id h0] at ho; simp at ho

theorem splice_all (cs vs : List V) (h : vs.length = cs.length) : splice cs 0 vs = vs := by
  unfold splice; simp [h]

end VE

namespace VE
open Go

/-! ## The same, as a machine: what is left to do is data, so that simp walks -/

inductive Kt where
  | seq (b : VC)
  | block (id : Nat)

inductive Tl where
  | o (r : List VOper)
  | d (i : Nat) (r : List VDOper) (ft : List (Nat × Nat × Nat × Nat))

section
variable [Pg]

abbrev Qt := VX → Fr → St → Prop

def unK (lo : Nat) : List Kt → Qt → Qt
  | [], Q => Q
  | .seq b :: st, Q => seqK (fun fr s => XW lo b fr s (unK lo st Q)) (unK lo st Q)
  | .block id :: st, Q => blockK id (unK lo st Q)

def XK (lo : Nat) (c : VC) (fr : Fr) (s : St) (st : List Kt) (Q : Qt) : Prop := XW lo c fr s (unK lo st Q)
def RK (lo : Nat) (x : VX) (fr : Fr) (s : St) (st : List Kt) (Q : Qt) : Prop := unK lo st Q x fr s
def TK (lo : Nat) (t : Tl) (fr : Fr) (s : St) (st : List Kt) (Q : Qt) : Prop :=
  match t with
  | .o r => opsW lo r fr s (unK lo st Q .nrm)
  | .d i r ft => drawW lo i r ft fr s (unK lo st Q .nrm)
/-- An operation, then the rest. -/
def PK (l : Nat) (op : VOp) (d : Option Nat) (lo : Nat) (t : Tl) (fr : Fr) (s : St) (st : List Kt) (Q : Qt) : Prop := opW l fr op s fun v s' => TK lo t (putD fr d (some v)) s' st Q
/-- A value that is reckoned, then the rest. -/
def VK' (e : Option V) (d : Option Nat) (lo : Nat) (t : Tl) (fr : Fr) (s : St) (st : List Kt) (Q : Qt) : Prop := bindO e fun v => TK lo t (putD fr d (some v)) s st Q
/-- A guard. -/
def GK (g : Option V) (want : Bool) (l : Nat) (op : VOp) (d : Option Nat) (lo : Nat) (t u : Tl) (fr : Fr) (s : St) (st : List Kt) (Q : Qt) : Prop :=
  bindO g fun v => guardW v want (fun _ => PK l op d lo t fr s st Q) (fun _ => TK lo u (putD fr d (some (.tu []))) s st Q)
/-- A test. -/
def TestK (c : Option V) (lo : Nat) (a b : VC) (fr : Fr) (s : St) (st : List Kt) (Q : Qt) : Prop := bindO c fun v => condW v (fun _ => XK lo a fr s st Q) (fun _ => XK lo b fr s st Q)

variable {lo l : Nat} {fr : Fr} {s : St} {st : List Kt} {Q : Qt} {t u : Tl} {d : Option Nat}

/-! ### Code -/
theorem XK_skip : XK lo .skip fr s st Q = RK lo .nrm fr s st Q := (rfl)
theorem XK_ops (r : List VOper) : XK lo (.ops r) fr s st Q = TK lo (.o r) fr s st Q := (rfl)
theorem XK_draw (r : List VDOper) : XK lo (.draw r) fr s st Q = TK lo (.d 0 r []) fr s st Q := (rfl)
theorem XK_seq (a b : VC) : XK lo (.seq a b) fr s st Q = XK lo a fr s (.seq b :: st) Q := (rfl)
theorem XK_cond (c : Operand) (a b : VC) : XK lo (.cond c a b) fr s st Q = TestK (evO fr c) lo a b fr s st Q := (rfl)
theorem XK_block (id : Nat) (b : VC) : XK lo (.block id b) fr s st Q = XK lo b fr s (.block id :: st) Q := (rfl)
theorem XK_loop (keep : List Nat) (b : VC) : XK lo (.loop keep b) fr s st Q = LoopW lo keep b (keepV fr keep) s (unK lo st Q) := (rfl)
theorem XK_range (f : Operand) (ps : List Nat) (a b : VC) : XK lo (.rangeFunc f ps a b) fr s st Q = RangeW lo f ps a b fr s (unK lo st Q) := (rfl)
theorem XK_exit (id : Nat) : XK lo (.exit id) fr s st Q = RK lo (.exit id) fr s st Q := (rfl)
theorem XK_scope (b : VC) : XK lo (.scope b) fr s st Q = JumpW lo b b fr s (unK lo st Q) := (rfl)
theorem XK_label (i : Nat) : XK lo (.label i) fr s st Q = RK lo .nrm fr s st Q := (rfl)
theorem XK_goto (i : Nat) : XK lo (.goto i) fr s st Q = RK lo (.goto i) fr s st Q := (rfl)
theorem XK_ret : XK lo .ret fr s st Q = RK lo .ret fr s st Q := (rfl)
theorem RK_nil (x : VX) : RK lo x fr s [] Q = Q x fr s := (rfl)
theorem RK_nrm_seq (b : VC) : RK lo .nrm fr s (.seq b :: st) Q = XK lo b fr s st Q := (rfl)
theorem RK_exit_seq (i : Nat) (b : VC) : RK lo (.exit i) fr s (.seq b :: st) Q = RK lo (.exit i) fr s st Q := (rfl)
theorem RK_goto_seq (i : Nat) (b : VC) : RK lo (.goto i) fr s (.seq b :: st) Q = RK lo (.goto i) fr s st Q := (rfl)
theorem RK_ret_seq (b : VC) : RK lo .ret fr s (.seq b :: st) Q = RK lo .ret fr s st Q := (rfl)
theorem RK_nrm_block (i : Nat) : RK lo .nrm fr s (.block i :: st) Q = RK lo .nrm fr s st Q := (rfl)
theorem RK_exit_block (i j : Nat) : RK lo (.exit i) fr s (.block j :: st) Q = if i = j then RK lo .nrm fr s st Q else RK lo (.exit i) fr s st Q := (rfl)
theorem RK_goto_block (i j : Nat) : RK lo (.goto i) fr s (.block j :: st) Q = RK lo (.goto i) fr s st Q := (rfl)
theorem RK_ret_block (i : Nat) : RK lo .ret fr s (.block i :: st) Q = RK lo .ret fr s st Q := (rfl)
theorem TestK_true (a b : VC) : TestK (some (.b true)) lo a b fr s st Q = XK lo a fr s st Q := by simp only [TestK, bindO_some, condW_true]
theorem TestK_false (a b : VC) : TestK (some (.b false)) lo a b fr s st Q = XK lo b fr s st Q := by simp only [TestK, bindO_some, condW_false]
theorem TestK_ite {p : Bool} {a b : VC} (h1 : p = true → XK lo a fr s st Q) (h2 : p = false → XK lo b fr s st Q) : TestK (some (.b p)) lo a b fr s st Q := by
  simp only [TestK, bindO_some]; exact condW_ite h1 h2

/-! ### Rows of operations -/
theorem TK_nil : TK lo (.o []) fr s st Q = RK lo .nrm fr s st Q := (rfl)
theorem TK_dnil (i : Nat) (ft : List (Nat × Nat × Nat × Nat)) : TK lo (.d i [] ft) fr s st Q = RK lo .nrm fr s st Q := (rfl)
theorem TK_op (dst : Option Nat) (op : VOp) (r : List VOper) : TK lo (.o (⟨dst, op, none⟩ :: r)) fr s st Q = PK lo op dst lo (.o r) fr s st Q := by
  cases dst with
  | none => simp only [TK, PK, opsW_do]; rfl
  | some x => simp only [TK, PK, opsW_set]; rfl
theorem TK_guard (dst : Option Nat) (op : VOp) (k : Nat) (b : Bool) (r : List VOper) : TK lo (.o (⟨dst, op, some (k, b)⟩ :: r)) fr s st Q = GK (fr.get k) b lo op dst lo (.o r) (.o r) fr s st Q := by
  simp only [GK]; rw [← bindO_wanted]; rfl
/-- What an operation looks at, apart from what is named. -/
def FK (a : Option (Nat × Nat × Nat)) (i : Nat) (vs : List Nat) (l : Nat) (op : VOp) (d : Option Nat) (lo : Nat) (r : List VDOper) (ft : List (Nat × Nat × Nat × Nat)) (fr : Fr) (s : St) (st : List Kt) (Q : Qt) : Prop :=
  footK a i vs ft fun ft' => PK l op d lo (.d (i + 1) r ft') fr s st Q
theorem FK_none (i : Nat) (vs : List Nat) (op : VOp) (r : List VDOper) (ft : List (Nat × Nat × Nat × Nat)) : FK none i vs l op d lo r ft fr s st Q = PK l op d lo (.d (i + 1) r ft) fr s st Q := (rfl)
theorem FK_nil (a : Nat × Nat × Nat) (i : Nat) (op : VOp) (r : List VDOper) (ft : List (Nat × Nat × Nat × Nat)) : FK (some a) i [] l op d lo r ft fr s st Q = PK l op d lo (.d (i + 1) r ((i, a) :: ft)) fr s st Q := footK_nil _ _ _ _
theorem FK_cons (a : Nat × Nat × Nat) (i v : Nat) (vs : List Nat) (op : VOp) (r : List VDOper) (ft : List (Nat × Nat × Nat × Nat)) :
    FK (some a) i (v :: vs) l op d lo r ft fr s st Q = (ftOk (v :: vs) ft a = true ∧ PK l op d lo (.d (i + 1) r ((i, a) :: ft)) fr s st Q) := (rfl)
theorem TK_d0 (i : Nat) (dst : Option Nat) (op : VOp) (r : List VDOper) (ft : List (Nat × Nat × Nat × Nat)) (vs : List Nat) :
    TK lo (.d i (⟨⟨dst, op, none⟩, 0, vs⟩ :: r) ft) fr s st Q = FK (footV fr s.next op) i vs lo op dst lo r ft fr s st Q := by
  simp only [TK, drawW_eq, wantedV, bindO_some]; rfl
theorem TK_d1 (i : Nat) (dst : Option Nat) (op : VOp) (r : List VDOper) (ft : List (Nat × Nat × Nat × Nat)) (vs : List Nat) :
    TK lo (.d i (⟨⟨dst, op, none⟩, 1, vs⟩ :: r) ft) fr s st Q = FK (footV fr s.next op) i vs s.next op dst lo r ft fr s st Q := by
  simp only [TK, drawW_eq, wantedV, bindO_some]; rfl
theorem TK_d2 (i : Nat) (dst : Option Nat) (op : VOp) (r : List VDOper) (ft : List (Nat × Nat × Nat × Nat)) (vs : List Nat) :
    TK lo (.d i (⟨⟨dst, op, none⟩, 2, vs⟩ :: r) ft) fr s st Q = FK (footV fr s.next op) i vs lo op dst lo r ft fr s st Q := by
  simp only [TK, drawW_eq, wantedV, bindO_some]; rfl
/-- A guard in a region that draws. -/
def HK (g : Option V) (want : Bool) (i : Nat) (vs : List Nat) (l : Nat) (op : VOp) (d : Option Nat) (lo : Nat) (r : List VDOper) (ft : List (Nat × Nat × Nat × Nat)) (fr : Fr) (s : St) (st : List Kt) (Q : Qt) : Prop :=
  bindO g fun v => guardW v want (fun _ => FK (footV fr s.next op) i vs l op d lo r ft fr s st Q) (fun _ => TK lo (.d (i + 1) r ft) (putD fr d (some (.tu []))) s st Q)
theorem TK_g0 (i : Nat) (dst : Option Nat) (op : VOp) (k : Nat) (b : Bool) (r : List VDOper) (ft : List (Nat × Nat × Nat × Nat)) (vs : List Nat) :
    TK lo (.d i (⟨⟨dst, op, some (k, b)⟩, 0, vs⟩ :: r) ft) fr s st Q = HK (fr.get k) b i vs lo op dst lo r ft fr s st Q := by
  simp only [HK, TK]; rw [← bindO_wanted, drawW_eq]; rfl
theorem TK_g1 (i : Nat) (dst : Option Nat) (op : VOp) (k : Nat) (b : Bool) (r : List VDOper) (ft : List (Nat × Nat × Nat × Nat)) (vs : List Nat) :
    TK lo (.d i (⟨⟨dst, op, some (k, b)⟩, 1, vs⟩ :: r) ft) fr s st Q = HK (fr.get k) b i vs s.next op dst lo r ft fr s st Q := by
  simp only [HK, TK]; rw [← bindO_wanted, drawW_eq]; rfl
theorem TK_g2 (i : Nat) (dst : Option Nat) (op : VOp) (k : Nat) (b : Bool) (r : List VDOper) (ft : List (Nat × Nat × Nat × Nat)) (vs : List Nat) :
    TK lo (.d i (⟨⟨dst, op, some (k, b)⟩, 2, vs⟩ :: r) ft) fr s st Q = HK (fr.get k) b i vs lo op dst lo r ft fr s st Q := by
  simp only [HK, TK]; rw [← bindO_wanted, drawW_eq]; rfl
theorem GK_tu (want : Bool) (op : VOp) : GK (some (.tu [])) want l op d lo t u fr s st Q = TK lo u (putD fr d (some (.tu []))) s st Q := by simp only [GK, bindO_some]; rfl
theorem GK_tt (op : VOp) : GK (some (.b true)) true l op d lo t u fr s st Q = PK l op d lo t fr s st Q := by simp only [GK, bindO_some]; rfl
theorem GK_ff (op : VOp) : GK (some (.b false)) false l op d lo t u fr s st Q = PK l op d lo t fr s st Q := by simp only [GK, bindO_some]; rfl
theorem GK_tf (op : VOp) : GK (some (.b true)) false l op d lo t u fr s st Q = TK lo u (putD fr d (some (.tu []))) s st Q := by simp only [GK, bindO_some]; rfl
theorem GK_ft (op : VOp) : GK (some (.b false)) true l op d lo t u fr s st Q = TK lo u (putD fr d (some (.tu []))) s st Q := by simp only [GK, bindO_some]; rfl
theorem GK_ite {p want : Bool} {op : VOp} (h1 : p = true → GK (some (.b true)) want l op d lo t u fr s st Q) (h2 : p = false → GK (some (.b false)) want l op d lo t u fr s st Q) : GK (some (.b p)) want l op d lo t u fr s st Q := by
  cases p with
  | true => exact h1 rfl
  | false => exact h2 rfl
section
variable {i : Nat} {vs : List Nat} {op : VOp} {r : List VDOper} {ft : List (Nat × Nat × Nat × Nat)}
theorem HK_tu (want : Bool) : HK (some (.tu [])) want i vs l op d lo r ft fr s st Q = TK lo (.d (i + 1) r ft) (putD fr d (some (.tu []))) s st Q := by simp only [HK, bindO_some]; rfl
theorem HK_tt : HK (some (.b true)) true i vs l op d lo r ft fr s st Q = FK (footV fr s.next op) i vs l op d lo r ft fr s st Q := by simp only [HK, bindO_some]; rfl
theorem HK_ff : HK (some (.b false)) false i vs l op d lo r ft fr s st Q = FK (footV fr s.next op) i vs l op d lo r ft fr s st Q := by simp only [HK, bindO_some]; rfl
theorem HK_tf : HK (some (.b true)) false i vs l op d lo r ft fr s st Q = TK lo (.d (i + 1) r ft) (putD fr d (some (.tu []))) s st Q := by simp only [HK, bindO_some]; rfl
theorem HK_ft : HK (some (.b false)) true i vs l op d lo r ft fr s st Q = TK lo (.d (i + 1) r ft) (putD fr d (some (.tu []))) s st Q := by simp only [HK, bindO_some]; rfl
theorem HK_ite {p want : Bool} (h1 : p = true → HK (some (.b true)) want i vs l op d lo r ft fr s st Q) (h2 : p = false → HK (some (.b false)) want i vs l op d lo r ft fr s st Q) : HK (some (.b p)) want i vs l op d lo r ft fr s st Q := by
  cases p with
  | true => exact h1 rfl
  | false => exact h2 rfl
end
theorem VK'_some (v : V) (x : Nat) : VK' (some v) (some x) lo t fr s st Q = TK lo t (fr.set x (some v)) s st Q := by simp only [VK', bindO_some]; rfl
theorem VK'_none (v : V) : VK' (some v) none lo t fr s st Q = TK lo t fr s st Q := by simp only [VK', bindO_some]; rfl
omit [Pg] in
theorem putD_some (x : Nat) (v : Option V) : putD fr (some x) v = fr.set x v := (rfl)
omit [Pg] in
theorem putD_none (v : Option V) : putD fr none v = fr := (rfl)

/-! ### Operations -/
theorem PK_mv (x : Operand) : PK l (.mv x) d lo t fr s st Q = VK' (evO fr x) d lo t fr s st Q := by
  simp only [PK, VK', opW_mv]
def pickO (c a b : Option V) : Option V :=
  match c with
  | some (.b true) => a
  | some (.b false) => b
  | _ => none
omit [Pg] in
theorem pickO_true (a b : Option V) : pickO (some (.b true)) a b = a := (rfl)
omit [Pg] in
theorem pickO_false (a b : Option V) : pickO (some (.b false)) a b = b := (rfl)
omit [Pg] in
theorem pickO_if (p : Bool) (v w : V) : pickO (some (.b p)) (some v) (some w) = some (if p then v else w) := by cases p <;> rfl
theorem PK_pick (c a b : Operand) : PK l (.pick c a b) d lo t fr s st Q = VK' (pickO (evO fr c) (evO fr a) (evO fr b)) d lo t fr s st Q := by
  simp only [PK, VK', opW_pick]
  cases evO fr c with
  | none => simp [bindO_none, pickO]
  | some v => rw [bindO_some]; cases v <;> (try simp [condW, pickO, bindO_none]); rename_i y; cases y <;> simp [pickO]
theorem PK_alloc (z : List V) : PK l (.alloc z) d lo t fr s st Q = TK lo t (putD fr d (some (.p s.next 0))) (s.alloc (.cells z)) st Q := by
  simp only [PK, opW_alloc]
/-- A new block. -/
def BK (e : Option V) (d : Option Nat) (lo : Nat) (t : Tl) (fr : Fr) (s : St) (st : List Kt) (Q : Qt) : Prop := bindO e fun v => TK lo t (putD fr d (some (.p s.next 0))) (s.alloc (.cells v.cells)) st Q
theorem BK_some (v : V) : BK (some v) d lo t fr s st Q = TK lo t (putD fr d (some (.p s.next 0))) (s.alloc (.cells v.cells)) st Q := by simp only [BK, bindO_some]
theorem PK_box (x : Operand) : PK l (.box x) d lo t fr s st Q = BK (evO fr x) d lo t fr s st Q := by
  simp only [PK, BK, opW_box]
def buildO (z : List V) (vs : Option (List (Nat × Nat × V))) : Option V := vs.bind fun vs => (fillV z vs).map .ag
omit [Pg] in
theorem buildO_some (z : List V) (vs : List (Nat × Nat × V)) : buildO z (some vs) = (fillV z vs).map .ag := (rfl)
def buildCO (vs : Option (List (Nat × V))) : Option V := vs.bind fun vs => (concatV vs).map .ag
omit [Pg] in
theorem buildCO_some (vs : List (Nat × V)) : buildCO (some vs) = (concatV vs).map .ag := (rfl)
theorem PK_build (z : List V) (parts : List (Nat × Nat × Operand)) : PK l (.build z parts) d lo t fr s st Q = VK' (buildO z (evP fr parts)) d lo t fr s st Q := by
  simp only [PK, VK', opW_build, buildO, bindO_bind, bindO_map]
theorem PK_buildC (parts : List (Nat × Operand)) : PK l (.buildC parts) d lo t fr s st Q = VK' (buildCO (evC fr parts)) d lo t fr s st Q := by
  simp only [PK, VK', opW_buildC, buildCO, bindO_bind, bindO_map]
/-- A new slice of such cells. -/
def ZK (cs : Option (List V)) (len sz : Nat) (d : Option Nat) (lo : Nat) (t : Tl) (fr : Fr) (s : St) (st : List Kt) (Q : Qt) : Prop := bindO cs fun cs => TK lo t (putD fr d (some (.sl s.next 0 len len sz true))) (s.alloc (.cells cs)) st Q
theorem ZK_some (cs : List V) (len sz : Nat) : ZK (some cs) len sz d lo t fr s st Q = TK lo t (putD fr d (some (.sl s.next 0 len len sz true))) (s.alloc (.cells cs)) st Q := by simp only [ZK, bindO_some]
theorem PK_bslice (z : List V) (sz len : Nat) (parts : List (Nat × Nat × Operand)) : PK l (.bslice z sz len parts) d lo t fr s st Q = ZK ((evP fr parts).bind fun vs => fillV (reps len z) vs) len sz d lo t fr s st Q := by
  simp only [PK, ZK, opW_bslice, bindO_bind]
theorem PK_bsliceC (sz len : Nat) (parts : List (Nat × Operand)) : PK l (.bsliceC sz len parts) d lo t fr s st Q = ZK ((evC fr parts).bind concatV) len sz d lo t fr s st Q := by
  simp only [PK, ZK, opW_bsliceC, bindO_bind]
theorem PK_load (ag : Option Nat) (x : Operand) : PK l (.load ag x) d lo t fr s st Q = VK' ((evO fr x).bind (loadO ag s)) d lo t fr s st Q := by
  simp only [PK, VK', opW_load, bindO_bind]
/-- A store. -/
def SK (l n : Nat) (p v : Option V) (d : Option Nat) (lo : Nat) (t : Tl) (fr : Fr) (s : St) (st : List Kt) (Q : Qt) : Prop := bindO p fun p => bindO v fun v => storeW l n s p v fun s' => TK lo t (putD fr d (some (.tu []))) s' st Q
/-- A store into such a block. -/
def WK (l : Nat) (cs : Option (List V)) (id off : Nat) (vs : List V) (d : Option Nat) (lo : Nat) (t : Tl) (fr : Fr) (s : St) (st : List Kt) (Q : Qt) : Prop :=
  l ≤ id ∧ bindO cs fun cs => (off + vs.length ≤ cs.length ∧ vs.all V.ok1 = true) ∧ TK lo t (putD fr d (some (.tu []))) (s.put id (.cells (splice cs off vs))) st Q
theorem SK_p (n id off : Nat) (v : V) : SK l n (some (.p id off)) (some v) d lo t fr s st Q = (v.cells.length = n ∧ WK l (s.cellsAt id) id off v.cells d lo t fr s st Q) := by
  simp only [SK, bindO_some, storeW_p]; rfl
theorem WK_some (cs : List V) (id off : Nat) (vs : List V) : WK l (some cs) id off vs d lo t fr s st Q = (l ≤ id ∧ (off + vs.length ≤ cs.length ∧ vs.all V.ok1 = true) ∧ TK lo t (putD fr d (some (.tu []))) (s.put id (.cells (splice cs off vs))) st Q) := by
  simp only [WK, bindO_some]
theorem PK_store (n : Nat) (a x : Operand) : PK l (.store n a x) d lo t fr s st Q = SK l n (evO fr a) (evO fr x) d lo t fr s st Q := by
  simp only [PK, SK, opW_store]
theorem PK_nilCheck (x : Operand) : PK l (.nilCheck x) d lo t fr s st Q = VK' ((evO fr x).bind (nilO)) d lo t fr s st Q := by
  simp only [PK, VK', opW_nilCheck, bindO_bind]
def two (f : V → V → Option V) (a b : Option V) : Option V := a.bind fun a => b.bind fun b => f a b
omit [Pg] in
theorem two_some (f : V → V → Option V) (a b : V) : two f (some a) (some b) = f a b := (rfl)
theorem PK_bin (op : BinOp) (x y : Operand) : PK l (.bin op x y) d lo t fr s st Q = VK' (two (binV op) (evO fr x) (evO fr y)) d lo t fr s st Q := by
  simp only [PK, VK', opW_bin, two, bindO_bind]
theorem PK_eqB (neg : Bool) (x y : Operand) : PK l (.eqB neg x y) d lo t fr s st Q = VK' (two (eqBO neg) (evO fr x) (evO fr y)) d lo t fr s st Q := by
  simp only [PK, VK', opW_eqB, two, bindO_bind]
theorem PK_eqAg (neg : Bool) (ks : List CK) (x y : Operand) : PK l (.eqAg neg ks x y) d lo t fr s st Q = VK' (two (eqAgO neg ks) (evO fr x) (evO fr y)) d lo t fr s st Q := by
  simp only [PK, VK', opW_eqAg, two, bindO_bind]
theorem PK_isNil (k : Nat) (neg : Bool) (x : Operand) : PK l (.isNil k neg x) d lo t fr s st Q = VK' ((evO fr x).bind fun a => (isNilV k a).map fun r => .b (r != neg)) d lo t fr s st Q := by
  simp only [PK, VK', opW_isNil, bindO_bind, bindO_map]
theorem PK_un (op : UnOp) (x : Operand) : PK l (.un op x) d lo t fr s st Q = VK' ((evO fr x).bind (unV op)) d lo t fr s st Q := by
  simp only [PK, VK', opW_un, bindO_bind]
theorem PK_toInt (k : IntKind) (x : Operand) : PK l (.toInt k x) d lo t fr s st Q = VK' ((evO fr x).bind (toIntV k)) d lo t fr s st Q := by
  simp only [PK, VK', opW_toInt, bindO_bind]
theorem PK_toFloat (k : FloatKind) (x : Operand) : PK l (.toFloat k x) d lo t fr s st Q = VK' ((evO fr x).bind (toFloatV k)) d lo t fr s st Q := by
  simp only [PK, VK', opW_toFloat, bindO_bind]
theorem PK_toStr (x : Operand) : PK l (.toStr x) d lo t fr s st Q = VK' ((evO fr x).bind (toStrO)) d lo t fr s st Q := by
  simp only [PK, VK', opW_toStr, bindO_bind]
theorem PK_bytesStr (x : Operand) : PK l (.bytesStr x) d lo t fr s st Q = VK' ((evO fr x).bind (bytesStrO s)) d lo t fr s st Q := by
  simp only [PK, VK', opW_bytesStr, bindO_bind]
theorem PK_runesStr (x : Operand) : PK l (.runesStr x) d lo t fr s st Q = VK' ((evO fr x).bind (runesStrO s)) d lo t fr s st Q := by
  simp only [PK, VK', opW_runesStr, bindO_bind]
theorem PK_mkIface (ty : TypeId) (x : Operand) : PK l (.mkIface ty x) d lo t fr s st Q = VK' ((evO fr x).map (.it ty)) d lo t fr s st Q := by
  simp only [PK, VK', opW_mkIface, bindO_map]
def funcO (k : Nat) (a c : Option (List V)) : Option V := a.bind fun a => c.map fun c => .fn (.func k) a c
omit [Pg] in
theorem funcO_some (k : Nat) (a c : List V) : funcO k (some a) (some c) = some (.fn (.func k) a c) := (rfl)
theorem PK_mkFunc (k : Nat) (first captured : List Operand) : PK l (.mkFunc (.func k) first captured) d lo t fr s st Q = VK' (funcO k (evL fr first) (evL fr captured)) d lo t fr s st Q := by
  simp only [PK, VK', opW_mkFunc, funcO, bindO_bind, bindO_map]
theorem PK_mkMap  : PK l (.mkMap) d lo t fr s st Q = TK lo t (putD fr d (some (.m s.next))) (s.alloc (.map [])) st Q := by
  simp only [PK, opW_mkMap]
def MK (z : List V) (sz bytes : Nat) (n c : Option V) (d : Option Nat) (lo : Nat) (t : Tl) (fr : Fr) (s : St) (st : List Kt) (Q : Qt) : Prop := bindO n fun n => bindO c fun c => mkSliceW z sz bytes s n c fun v s' => TK lo t (putD fr d (some v)) s' st Q
theorem MK_i (z : List V) (sz bytes : Nat) (k k' : IntKind) (n c : Int) : MK z sz bytes (some (.i k n)) (some (.i k' c)) d lo t fr s st Q =
    ((0 ≤ n ∧ n ≤ c ∧ bytes * c ≤ 1099511627776 ∧ c ≤ 1099511627776) ∧ TK lo t (putD fr d (some (.sl s.next 0 n.toNat c.toNat sz true))) (s.alloc (.cells (reps c.toNat z))) st Q) := by
  simp only [MK, bindO_some, mkSliceW_i]
theorem PK_mkSlice (z : List V) (sz bytes : Nat) (n c : Operand) : PK l (.mkSlice z sz bytes n c) d lo t fr s st Q = MK z sz bytes (evO fr n) (evO fr c) d lo t fr s st Q := by
  simp only [PK, MK, opW_mkSlice]
def slO (f : V → Option V → Option V → Option V → Option V) (x : Option V) (a b c : Option (Option V)) : Option V := x.bind fun x => a.bind fun a => b.bind fun b => c.bind fun c => f x a b c
omit [Pg] in
theorem slO_some (f : V → Option V → Option V → Option V → Option V) (x : V) (a b c : Option V) : slO f (some x) (some a) (some b) (some c) = f x a b c := (rfl)
theorem PK_slStr (x : Operand) (a b : Option Operand) : PK l (.slStr x a b) d lo t fr s st Q = VK' (slO (fun x a b _ => slStrO x a b) (evO fr x) (evOp fr a) (evOp fr b) (some none)) d lo t fr s st Q := by
  simp only [PK, VK', opW_slStr, slO, bindO_bind, bindO_some]
theorem PK_slSl (sz : Nat) (x : Operand) (a b c : Option Operand) : PK l (.slSl sz x a b c) d lo t fr s st Q = VK' (slO (slSlO sz) (evO fr x) (evOp fr a) (evOp fr b) (evOp fr c)) d lo t fr s st Q := by
  simp only [PK, VK', opW_slSl, slO, bindO_bind]
theorem PK_slArr (n sz : Nat) (x : Operand) (a b c : Option Operand) : PK l (.slArr n sz x a b c) d lo t fr s st Q = VK' (slO (slArrO n sz s) (evO fr x) (evOp fr a) (evOp fr b) (evOp fr c)) d lo t fr s st Q := by
  simp only [PK, VK', opW_slArr, slO, bindO_bind]
theorem PK_fieldAddr (off : Nat) (x : Operand) : PK l (.fieldAddr off x) d lo t fr s st Q = VK' ((evO fr x).bind (faO off)) d lo t fr s st Q := by
  simp only [PK, VK', opW_fieldAddr, bindO_bind]
theorem PK_field (off : Nat) (ag : Option Nat) (x : Operand) : PK l (.field off ag x) d lo t fr s st Q = VK' ((evO fr x).bind (fieldO off ag)) d lo t fr s st Q := by
  simp only [PK, VK', opW_field, bindO_bind]
/-- An index. -/
def IK (f : V → V → (V → Prop) → Prop) (x i : Option V) (d : Option Nat) (lo : Nat) (t : Tl) (fr : Fr) (s : St) (st : List Kt) (Q : Qt) : Prop := bindO x fun x => bindO i fun i => f x i fun v => TK lo t (putD fr d (some v)) s st Q
theorem IK_sl (sz id off len lb : Nat) (ex : Bool) (k : IntKind) (n : Int) : IK (idxSlW sz) (some (.sl id off len lb sz ex)) (some (.i k n)) d lo t fr s st Q = ((0 ≤ n ∧ n < len) ∧ TK lo t (putD fr d (some (.p id (off + n.toNat * sz)))) s st Q) := by
  simp only [IK, bindO_some, idxSlW_sl]
theorem IK_arr (len sz id off : Nat) (k : IntKind) (n : Int) : IK (idxArrW len sz) (some (.p id off)) (some (.i k n)) d lo t fr s st Q = ((0 ≤ n ∧ n < len) ∧ TK lo t (putD fr d (some (.p id (off + n.toNat * sz)))) s st Q) := by
  simp only [IK, bindO_some, idxArrW_p]
theorem IK_str (bs : List UInt8) (k : IntKind) (n : Int) : IK idxStrW (some (.s bs)) (some (.i k n)) d lo t fr s st Q = (0 ≤ n ∧ VK' (bs[n.toNat]?.map fun b => .i .u8 b.toNat) d lo t fr s st Q) := by
  simp only [IK, bindO_some, idxStrW_s, VK', bindO_map]
theorem IK_ag (len sz : Nat) (ag : Option Nat) (cs : List V) (k : IntKind) (n : Int) : IK (idxAgW len sz ag) (some (.ag cs)) (some (.i k n)) d lo t fr s st Q = ((0 ≤ n ∧ n < len) ∧ VK' (partV ag cs (n.toNat * sz)) d lo t fr s st Q) := by
  simp only [IK, bindO_some, idxAgW_ag, VK']
theorem PK_idxSl (sz : Nat) (x i : Operand) : PK l (.idxSl sz x i) d lo t fr s st Q = IK (idxSlW sz) (evO fr x) (evO fr i) d lo t fr s st Q := by
  simp only [PK, IK, opW_idxSl]
theorem PK_idxArr (n sz : Nat) (x i : Operand) : PK l (.idxArr n sz x i) d lo t fr s st Q = IK (idxArrW n sz) (evO fr x) (evO fr i) d lo t fr s st Q := by
  simp only [PK, IK, opW_idxArr]
theorem PK_idxStr (x i : Operand) : PK l (.idxStr x i) d lo t fr s st Q = IK idxStrW (evO fr x) (evO fr i) d lo t fr s st Q := by
  simp only [PK, IK, opW_idxStr]
theorem PK_idxAg (n sz : Nat) (ag : Option Nat) (x i : Operand) : PK l (.idxAg n sz ag x i) d lo t fr s st Q = IK (idxAgW n sz ag) (evO fr x) (evO fr i) d lo t fr s st Q := by
  simp only [PK, IK, opW_idxAg]
theorem PK_extract (x : Operand) (i : Nat) : PK l (.extract x i) d lo t fr s st Q = VK' ((evO fr x).bind (extractO i)) d lo t fr s st Q := by
  simp only [PK, VK', opW_extract, bindO_bind]
theorem PK_lenStr (x : Operand) : PK l (.lenStr x) d lo t fr s st Q = VK' ((evO fr x).bind (lenStrO)) d lo t fr s st Q := by
  simp only [PK, VK', opW_lenStr, bindO_bind]
theorem PK_lenSl (x : Operand) : PK l (.lenSl x) d lo t fr s st Q = VK' ((evO fr x).bind (lenSlO)) d lo t fr s st Q := by
  simp only [PK, VK', opW_lenSl, bindO_bind]
theorem PK_lenC (n : Nat) : PK l (.lenC n) d lo t fr s st Q = VK' (some (.i .i64 n)) d lo t fr s st Q := by
  simp only [PK, VK', opW_lenC, bindO_some]
theorem PK_cap (x : Operand) : PK l (.cap x) d lo t fr s st Q = VK' ((evO fr x).bind (capO)) d lo t fr s st Q := by
  simp only [PK, VK', opW_cap, bindO_bind]
/-- An append. -/
def AK (l : Nat) (mk : Bool) (z : List V) (sz bytes : Nat) (a x : Option V) (d : Option Nat) (lo : Nat) (t : Tl) (fr : Fr) (s : St) (st : List Kt) (Q : Qt) : Prop :=
  bindO a fun a => bindO x fun x => bindO (appendV l mk z sz bytes a x s) fun r => TK lo t (putD fr d (some r.1)) r.2 st Q
theorem AK_some (mk : Bool) (z : List V) (sz bytes : Nat) (a x : V) {v : V} {s' : St} (h : appendV l mk z sz bytes a x s = some (v, s')) : AK l mk z sz bytes (some a) (some x) d lo t fr s st Q = TK lo t (putD fr d (some v)) s' st Q := by
  simp only [AK, bindO_some, h]
theorem PK_append (mk : Bool) (z : List V) (sz bytes : Nat) (a x : Operand) : PK l (.append mk z sz bytes a x) d lo t fr s st Q = AK l mk z sz bytes (evO fr a) (evO fr x) d lo t fr s st Q := by
  simp only [PK, AK, opW_append]
def mnO (mx : Bool) (x : Option V) (vs : Option (List V)) : Option V := x.bind fun x => vs.bind (mnmxV mx x)
omit [Pg] in
theorem mnO_some (mx : Bool) (x : V) (vs : List V) : mnO mx (some x) (some vs) = mnmxV mx x vs := (rfl)
theorem PK_mnmx (mx : Bool) (x : Operand) (r : List Operand) : PK l (.mnmx mx x r) d lo t fr s st Q = VK' (mnO mx (evO fr x) (evL fr r)) d lo t fr s st Q := by
  simp only [PK, VK', opW_mnmx, mnO, bindO_bind]
theorem PK_complex (x y : Operand) : PK l (.complex x y) d lo t fr s st Q = VK' (two (complexO) (evO fr x) (evO fr y)) d lo t fr s st Q := by
  simp only [PK, VK', opW_complex, two, bindO_bind]
theorem PK_real (x : Operand) : PK l (.real x) d lo t fr s st Q = VK' ((evO fr x).bind (realO)) d lo t fr s st Q := by
  simp only [PK, VK', opW_real, bindO_bind]
theorem PK_imag (x : Operand) : PK l (.imag x) d lo t fr s st Q = VK' ((evO fr x).bind (imagO)) d lo t fr s st Q := by
  simp only [PK, VK', opW_imag, bindO_bind]
/-- A call, then the rest. -/
def LK (l : Nat) (f : Option V) (args : Option (List V)) (d : Option Nat) (lo : Nat) (t : Tl) (fr : Fr) (s : St) (st : List Kt) (Q : Qt) : Prop := bindO f fun f => bindO args fun args => CallV l f args s fun v s' => TK lo t (putD fr d (some v)) s' st Q
theorem LK_fn (k : Nat) (first captured args : List V) : LK l (some (.fn (.func k) first captured)) (some args) d lo t fr s st Q = CallW l k (first ++ args ++ captured) s fun v s' => TK lo t (putD fr d (some v)) s' st Q := by
  simp only [LK, bindO_some]; rfl
theorem LK_yl (id : Nat) (args : List V) : LK l (some (.yl id)) (some args) d lo t fr s st Q = RoundW l id args s fun v s' => TK lo t (putD fr d (some v)) s' st Q := by
  simp only [LK, bindO_some]; rfl
theorem PK_call (f : Operand) (args : List Operand) : PK l (.call f args) d lo t fr s st Q = LK l (evO fr f) (evL fr args) d lo t fr s st Q := by
  simp only [PK, LK, opW_call]

/-! ### In and out of a function -/
/-- Results that are handed on. -/
def OutK (vs : Option (List V)) (K : V → St → Prop) (s : St) : Prop := bindO vs fun vs => K (one vs) s
omit [Pg] in
theorem OutK_some (vs : List V) (K : V → St → Prop) : OutK (some vs) K s = K (one vs) s := by simp only [OutK, bindO_some]
omit [Pg] in
theorem retK_out (f : List VRes) (K : V → St → Prop) : retK f K .ret fr s = OutK (resL fr s f) K s := (rfl)
omit [Pg] in
theorem retK_out' (f : List VRes) (K : V → St → Prop) : retK f K .nrm fr s = OutK (resL fr s f) K s := (rfl)
theorem CallK_of {k : Nat} {f : VFn} (hf : Has k f) {args : List V} {K : V → St → Prop} (hl : args.length = f.params) (h : XK lo f.body (argsV 0 args) s [] (retK f.results K)) : CallW lo k args s K := CallW_of hf hl h

theorem TestK_dec {p : Prop} [Decidable p] {a b : VC} (h1 : p → XK lo a fr s st Q) (h2 : ¬p → XK lo b fr s st Q) : TestK (some (.b (decide p))) lo a b fr s st Q :=
  TestK_ite (fun h => h1 (of_decide_eq_true h)) (fun h => h2 (of_decide_eq_false h))
theorem GK_dec {p : Prop} [Decidable p] {want : Bool} {op : VOp} (h1 : p → GK (some (.b true)) want l op d lo t u fr s st Q) (h2 : ¬p → GK (some (.b false)) want l op d lo t u fr s st Q) : GK (some (.b (decide p))) want l op d lo t u fr s st Q :=
  GK_ite (fun h => h1 (of_decide_eq_true h)) (fun h => h2 (of_decide_eq_false h))
theorem HK_dec {p : Prop} [Decidable p] {want : Bool} {i : Nat} {vs : List Nat} {op : VOp} {r : List VDOper} {ft : List (Nat × Nat × Nat × Nat)} (h1 : p → HK (some (.b true)) want i vs l op d lo r ft fr s st Q) (h2 : ¬p → HK (some (.b false)) want i vs l op d lo r ft fr s st Q) :
    HK (some (.b (decide p))) want i vs l op d lo r ft fr s st Q :=
  HK_ite (fun h => h1 (of_decide_eq_true h)) (fun h => h2 (of_decide_eq_false h))

/-! ### Footprints -/
def isFoot : VOp → Bool
  | .alloc _ | .box _ | .bslice .. | .bsliceC .. | .mkMap | .mkSlice .. | .range _ | .load .. | .slArr .. | .store .. | .append .. => true
  | _ => false
omit [Pg] in
theorem footV_no (nx : Nat) (op : VOp) (h : isFoot op = false) : footV fr nx op = none := by
  cases op <;> first | rfl | (simp [isFoot] at h)

end

attribute [simp ↓] retK_out retK_out' OutK_some XK_skip XK_ops XK_draw XK_seq XK_cond XK_block XK_loop XK_range XK_exit XK_scope XK_label XK_goto XK_ret RK_nil RK_nrm_seq RK_exit_seq RK_goto_seq RK_ret_seq RK_nrm_block RK_exit_block RK_goto_block RK_ret_block
  TestK_true TestK_false TK_nil TK_dnil TK_op TK_guard FK_none FK_nil TK_d0 TK_d1 TK_d2 TK_g0 TK_g1 TK_g2 GK_tu GK_tt GK_ff GK_tf GK_ft HK_tu HK_tt HK_ff HK_tf HK_ft VK'_some VK'_none BK_some ZK_some SK_p WK_some MK_i IK_sl IK_arr IK_str IK_ag LK_fn LK_yl
  PK_mv PK_pick PK_alloc PK_box PK_build PK_buildC PK_bslice PK_bsliceC PK_load PK_store PK_nilCheck PK_bin PK_eqB PK_eqAg PK_isNil PK_un PK_toInt PK_toFloat PK_toStr PK_bytesStr PK_runesStr PK_mkIface PK_mkFunc PK_mkMap PK_mkSlice PK_slStr PK_slSl PK_slArr PK_fieldAddr PK_field PK_idxSl PK_idxArr PK_idxStr PK_idxAg PK_extract PK_lenStr PK_lenSl PK_lenC PK_cap PK_append PK_mnmx PK_complex PK_real PK_imag PK_call
attribute [simp] putD_some putD_none pickO_true pickO_false pickO_if buildO_some buildCO_some two_some funcO_some slO_some mnO_some footV Option.bind_some Option.map_some Option.bind_none Option.map_none
  get_nil evO_tmp evO_bool evO_int evO_float evO_complex evO_string evO_pn evO_sn evO_mn evO_fnn evO_itn evO_func evL_nil evL_cons consO_some evC_nil evC_cons consC_some evP_nil evP_cons consP_some evOp_none evOp_some
  argsV_nil argsV_cons keepV_nil keepV_cons resL_nil resL_cons resV_tmp resV_cell cellV_p one_one one_two mkAg_none mkAg_some agN_none agN_some
  loadO_p nilO_p nilO_it nilO_fn nilO_yl eqBO_b eqAgO_ag toStrO_s toStrO_i slStrO_s slArrO_p faO_p fieldO_ag extractO_tu lenStrO_s lenSlO_sn lenSlO_sl capO_sn capO_sl complexO_f realO_c imagO_c
  binV_add binV_sub binV_mul binV_eql binV_neq binV_lss binV_leq binV_gtr binV_geq binV_quo binV_rem binV_sadd binV_seql binV_sneq unV_not unV_neg toIntV_i ceqs_nil ceqs_i ceqs_s ceqs_b isNilV_sn isNilV_sl isNilV_pn isNilV_p isNilV_fn mnmx_min mnmx_max
  cells_b cells_i cells_s cells_p cells_sl cells_sn cells_pn cells_m cells_fn cells_ag
  rd_alloc rd_put cellsAt_alloc cellsAt_put next_alloc next_put wr64 V.ok1 fillV concatV splice partV bnd sliceV Tr.get_set
end VE

namespace VE
open Go

/-! ## Data as it lies in memory -/

/-- What lies in so many cells, and has no part elsewhere. -/
class El (α : Type) where
  sz : Nat
  ag : Option Nat
  cells : α → List V
  val : α → V
  sz_eq : agN ag = sz
  len : ∀ a, (cells a).length = sz
  val_eq : ∀ a, mkAg ag (cells a) = some (val a)
  val_cells : ∀ a, (val a).cells = cells a
  ok1 : ∀ a, (cells a).all V.ok1 = true

instance : El Int where
  sz := 1
  ag := none
  cells n := [.i .i64 n]
  val n := .i .i64 n
  sz_eq := rfl
  len _ := rfl
  val_eq _ := rfl
  val_cells _ := rfl
  ok1 _ := rfl

theorem flat_len {α : Type} [El α] (l : List α) : (l.flatMap El.cells).length = l.length * El.sz α := by
  induction l with
  | nil => simp
  | cons a l ih => simp only [List.flatMap_cons, List.length_append, El.len, ih, List.length_cons, Nat.succ_mul]; omega

theorem flat_at {α : Type} [El α] : ∀ (l : List α) (i : Nat) (h : i < l.length), ((l.flatMap El.cells).drop (i * El.sz α)).take (El.sz α) = El.cells l[i]
  | a :: l, 0, _ => by
    simp only [Nat.zero_mul, List.drop_zero, List.flatMap_cons, List.getElem_cons_zero]
    rw [List.take_append_of_le_length (by rw [El.len]; exact Nat.le_refl _), List.take_of_length_le (by rw [El.len]; exact Nat.le_refl _)]
  | a :: l, i + 1, h => by
    simp only [List.flatMap_cons, List.getElem_cons_succ, Nat.succ_mul]
    rw [List.drop_append, List.drop_of_length_le (by rw [El.len]; omega), List.nil_append, El.len, Nat.add_sub_cancel]
    exact flat_at l i (by simpa using h)

/-- A slice reads as a list. -/
def RdS {α : Type} [El α] (s : St) (v : V) (l : List α) : Prop :=
  (v = .sn ∧ l = []) ∨ ∃ id off lb ex, v = .sl id off l.length lb (El.sz α) ex ∧ id < s.next ∧ (l.length ≤ lb ∧ l.length ≤ 140737488355328) ∧ s.rd id off (l.length * El.sz α) = some (l.flatMap El.cells)

theorem RdS.sn {α : Type} [El α] (s : St) : RdS s .sn ([] : List α) := .inl ⟨rfl, rfl⟩

theorem RdS.le {α : Type} [El α] {s s' : St} {v : V} {l : List α} (h : RdS s v l) (hl : s.Le s') : RdS s' v l := by
  rcases h with h | ⟨id, off, lb, ex, h1, h2, h3, h4⟩
  · exact .inl h
  · exact .inr ⟨id, off, lb, ex, h1, Nat.lt_of_lt_of_le h2 hl.next, h3, by rw [hl.rd h2]; exact h4⟩

theorem RdS.len {α : Type} [El α] {s : St} {v : V} {l : List α} (h : RdS s v l) : lenSlO v = some (.i .i64 l.length) := by
  rcases h with ⟨rfl, rfl⟩ | ⟨id, off, lb, ex, rfl, _⟩ <;> rfl

theorem RdS.bound {α : Type} [El α] {s : St} {v : V} {l : List α} (h : RdS s v l) : l.length ≤ 140737488355328 := by
  rcases h with ⟨rfl, rfl⟩ | ⟨id, off, lb, ex, rfl, _, ⟨_, h⟩, _⟩
  · simp
  · exact h

theorem rd_sub {s : St} {id off n : Nat} {cs : List V} (h : s.rd id off n = some cs) (i m : Nat) (hm : i + m ≤ n) : s.rd id (off + i) m = some ((cs.drop i).take m) := by
  rcases rd_some h with ⟨c, h1, h2, rfl⟩ | ⟨c, h1, h2, h3⟩
  · unfold St.rd; rw [h1]; simp only; rw [if_pos (by omega)]
    congr 1
    rw [List.drop_take, List.drop_drop, List.take_take, Nat.min_eq_left (by omega)]
  · unfold St.rd; rw [h1]; simp only; rw [if_pos (by omega)]
    have e := allS_get h3
    have : ((c.drop (off + i)).take m) = (((cs.drop i).take m)).map some := by
      rw [List.map_take, List.map_drop, ← e, List.drop_take, List.drop_drop, List.take_take, Nat.min_eq_left (by omega)]
    rw [this]
    generalize (cs.drop i).take m = l
    induction l with
    | nil => rfl
    | cons a l ih => simp only [List.map_cons, allS, ih]

/-- A slice that is not nil, cell by cell. -/
theorem RdS.at {α : Type} [El α] {s : St} {l : List α} {id off : Nat} (h4 : s.rd id off (l.length * El.sz α) = some (l.flatMap El.cells)) (i : Nat) (hi : i < l.length) :
    s.rd id (off + i * El.sz α) (El.sz α) = some (El.cells l[i]) := by
  have hm : i * El.sz α + El.sz α ≤ l.length * El.sz α := by rw [← Nat.succ_mul]; exact Nat.mul_le_mul_right _ hi
  rw [rd_sub h4 _ _ hm, flat_at l i hi]

/-- One of a slice's. -/
theorem RdS.el {α : Type} [El α] {s : St} {v : V} {l : List α} (H : RdS s v l) (i : Nat) (hi : i < l.length) :
    ∃ id off lb ex, v = .sl id off l.length lb (El.sz α) ex ∧ id < s.next ∧ l.length ≤ lb ∧ s.rd id (off + i * El.sz α) (El.sz α) = some (El.cells l[i]) := by
  rcases H with ⟨rfl, rfl⟩ | ⟨id, off, lb, ex, h1, h2, h3, h4⟩
  · simp at hi
  · exact ⟨id, off, lb, ex, h1, h2, h3.1, RdS.at h4 i hi⟩

/-- The first of a slice's. -/
theorem RdS.take {α : Type} [El α] {s : St} {id off lb : Nat} {ex : Bool} {l : List α} (H : RdS s (.sl id off l.length lb (El.sz α) ex) l) (i : Nat) (hi : i ≤ l.length) :
    RdS s (.sl id off i lb (El.sz α) ex) (l.take i) := by
  rcases H with ⟨h, _⟩ | ⟨id', off', lb', ex', h1, h2, h3, h4⟩
  · simp at h
  · injection h1 with e1 e2 e3 e4 e5 e6
    subst e1 e2 e4 e6
    refine .inr ⟨id, off, lb, ex, by simp [Nat.min_eq_left hi], h2, by simp; omega, ?_⟩
    have hm : i * El.sz α ≤ l.length * El.sz α := Nat.mul_le_mul_right _ hi
    have := rd_sub h4 0 (i * El.sz α) (by omega)
    rw [Nat.add_zero, List.drop_zero] at this
    rw [List.length_take, Nat.min_eq_left hi, this]
    congr 1
    conv => lhs; rw [← List.take_append_drop i l, List.flatMap_append]
    rw [List.take_append_of_le_length (by rw [flat_len, List.length_take, Nat.min_eq_left hi]; exact Nat.le_refl _), List.take_of_length_le (by rw [flat_len, List.length_take, Nat.min_eq_left hi]; exact Nat.le_refl _)]

/-- What a pointer into a slice leads to. -/
theorem RdS.load {α : Type} [El α] {s : St} {l : List α} {id off : Nat} (h4 : s.rd id off (l.length * El.sz α) = some (l.flatMap El.cells)) (i : Nat) (hi : i < l.length) :
    loadO (El.ag α) s (.p id (off + i * El.sz α)) = some (El.val l[i]) := by
  rw [loadO_p, El.sz_eq, RdS.at h4 i hi]
  exact El.val_eq _


section
variable [Pg]
theorem LK_of {lo l : Nat} {fr : Fr} {s : St} {st : List Kt} {Q : Qt} {t : Tl} {d : Option Nat} {f : V} {args : List V} (h : CallV l f args s fun v s' => TK lo t (putD fr d (some v)) s' st Q) : LK l (some f) (some args) d lo t fr s st Q := by
  simp only [LK, bindO_some]; exact h
theorem LoopW_K {lo : Nat} {keep : List Nat} {b : VC} {fr : Fr} {s : St} {st : List Kt} {Q : Qt} (h : XK lo b fr s [] (seqK (fun fr' s' => LoopW lo keep b (keepV fr' keep) s' (unK lo st Q)) (unK lo st Q))) : LoopW lo keep b fr s (unK lo st Q) := LoopW_once h
/-- A loop: by what its frame is at each number. -/
theorem LoopW_cnt {lo : Nat} {keep : List Nat} {b : VC} {st : List Kt} {Q : Qt} (n : Nat) (F : Nat → Fr) (I : Nat → St → Prop)
    (h : ∀ i s, i ≤ n → I i s → XK lo b (F i) s [] (seqK (fun fr' s' => i < n ∧ keepV fr' keep = F (i + 1) ∧ I (i + 1) s') (unK lo st Q)))
    {fr : Fr} {s : St} (h0 : fr = F 0) (h1 : I 0 s) : LoopW lo keep b fr s (unK lo st Q) := by
  refine LoopW_inv (fun i fr s => i ≤ n ∧ fr = F i ∧ I i s) (fun i => n - i) ?_ 0 ⟨Nat.zero_le _, h0, h1⟩
  rintro i fr s ⟨hi, rfl, hI⟩
  refine XW_mono (h i s hi hI) ?_
  intro x fr' s' hx
  cases x with
  | nrm =>
    obtain ⟨h2, h3, h4⟩ := hx
    exact ⟨i + 1, by omega, by omega, h3, h4⟩
  | exit id => exact hx
  | goto l => exact hx
  | ret => exact hx
end

/-- What seqK and unK come to. -/
theorem unK_nil [Pg] {lo : Nat} {Q : Qt} : unK lo [] Q = Q := (rfl)
theorem unK_ret [Pg] {lo : Nat} {fr : Fr} {s : St} : ∀ {st : List Kt} {Q : Qt}, unK lo st Q .ret fr s = Q .ret fr s
  | [], _ => (rfl)
  | .seq b :: st, Q => (unK_ret (st := st) (Q := Q))
  | .block i :: st, Q => (unK_ret (st := st) (Q := Q))
theorem unK_RK [Pg] {lo : Nat} {x : VX} {fr : Fr} {s : St} {st : List Kt} {Q : Qt} : unK lo st Q x fr s = RK lo x fr s st Q := (rfl)
attribute [simp] seqK_nrm seqK_exit seqK_goto seqK_ret unK_RK

theorem St.Le.step {s s1 : St} (h : s.Le s1) (o : VO) : s.Le (s1.alloc o) := h.alloc o

/-- The first place of something in a list, or -1. -/
def idxS {α : Type} (p : α → Bool) (l : List α) : Int := match l.findIdx? p with | some i => i | none => -1
theorem idxS_at {α : Type} {p : α → Bool} {l : List α} {i : Nat} (hp : ∀ k (_ : k < i) (h' : k < l.length), p l[k] = false) (h : i < l.length) (hc : p l[i] = true) : idxS p l = i := by
  have : l.findIdx? p = some i := by
    rw [List.findIdx?_eq_some_iff_getElem]
    exact ⟨h, hc, fun j hj => by rw [hp j hj (by omega)]; simp⟩
  simp [idxS, this]
theorem idxS_none {α : Type} {p : α → Bool} {l : List α} (hp : ∀ k (h' : k < l.length), p l[k] = false) : idxS p l = -1 := by
  have : l.findIdx? p = none := by
    rw [List.findIdx?_eq_none_iff]
    intro x hx
    obtain ⟨k, hk, rfl⟩ := List.getElem_of_mem hx
    exact hp k hk
  simp [idxS, this]
theorem idxS_any {α : Type} (p : α → Bool) (l : List α) : decide (0 ≤ idxS p l) = l.any p := by
  unfold idxS
  cases h : l.findIdx? p with
  | none =>
    have := List.findIdx?_eq_none_iff.1 h
    symm; simp; exact this
  | some i =>
    obtain ⟨h1, h2, _⟩ := List.findIdx?_eq_some_iff_getElem.1 h
    symm; simp; exact ⟨_, List.getElem_mem h1, h2⟩
/-- It comes back with this, and all that was there stays. -/
def Ret (s : St) (v : V) (v' : V) (s' : St) : Prop := v' = v ∧ s.Le s'
theorem Ret_iff (s : St) (v v' : V) (s' : St) : Ret s v v' s' = (v' = v ∧ s.Le s') := (rfl)
theorem CallW.use [Pg] {lo k : Nat} {args : List V} {s : St} {v : V} {K : V → St → Prop} (h : CallW lo k args s (Ret s v)) (hk : ∀ s', s.Le s' → K v s') : CallW lo k args s K :=
  h.mono fun _ s' ⟨e, hl⟩ => by subst e; exact hk s' hl
theorem CallW.useB [Pg] {lo k : Nat} {args : List V} {s : St} {p : Bool} {K : V → St → Prop} (h : CallW lo k args s (Ret s (.b p))) (h1 : ∀ s', s.Le s' → p = true → K (.b true) s') (h2 : ∀ s', s.Le s' → p = false → K (.b false) s') : CallW lo k args s K :=
  h.use fun s' hl => by cases p with
    | true => exact h1 s' hl rfl
    | false => exact h2 s' hl rfl
theorem St.Le.box {s s1 : St} {cs : List V} (h : (s.alloc (.cells cs)).Le s1) (off n : Nat) : s1.rd s.next off n = if off + n ≤ cs.length then some ((cs.drop off).take n) else none := by
  rw [h.rd (by simp [next_alloc]), rd_alloc, if_pos rfl]
theorem St.Le.unbox {s s1 : St} {o : VO} (h : (s.alloc o).Le s1) : s.Le s1 := ((St.Le.refl s).alloc o).trans h
theorem St.Le.lt {s s1 : St} {o : VO} (h : (s.alloc o).Le s1) : s.next + 1 ≤ s1.next := h.next
theorem ne_a1 (n : Nat) : (n = n + 1) = False := eq_false (by omega)
theorem ne_b1 (n : Nat) : (n + 1 = n) = False := eq_false (by omega)
theorem ne_a2 (n : Nat) : (n = n + 1 + 1) = False := eq_false (by omega)
theorem ne_b2 (n : Nat) : (n + 1 + 1 = n) = False := eq_false (by omega)
theorem ne_a3 (n : Nat) : (n = n + 1 + 1 + 1) = False := eq_false (by omega)
theorem ne_b3 (n : Nat) : (n + 1 + 1 + 1 = n) = False := eq_false (by omega)
theorem ne_a4 (n : Nat) : (n = n + 1 + 1 + 1 + 1) = False := eq_false (by omega)
theorem ne_b4 (n : Nat) : (n + 1 + 1 + 1 + 1 = n) = False := eq_false (by omega)
theorem ne_a5 (n : Nat) : (n = n + 1 + 1 + 1 + 1 + 1) = False := eq_false (by omega)
theorem ne_b5 (n : Nat) : (n + 1 + 1 + 1 + 1 + 1 = n) = False := eq_false (by omega)
theorem ne_a6 (n : Nat) : (n = n + 1 + 1 + 1 + 1 + 1 + 1) = False := eq_false (by omega)
theorem ne_b6 (n : Nat) : (n + 1 + 1 + 1 + 1 + 1 + 1 = n) = False := eq_false (by omega)
theorem ne_a7 (n : Nat) : (n = n + 1 + 1 + 1 + 1 + 1 + 1 + 1) = False := eq_false (by omega)
theorem ne_b7 (n : Nat) : (n + 1 + 1 + 1 + 1 + 1 + 1 + 1 = n) = False := eq_false (by omega)
theorem ne_a8 (n : Nat) : (n = n + 1 + 1 + 1 + 1 + 1 + 1 + 1 + 1) = False := eq_false (by omega)
theorem ne_b8 (n : Nat) : (n + 1 + 1 + 1 + 1 + 1 + 1 + 1 + 1 = n) = False := eq_false (by omega)
theorem lt_a1 (n : Nat) : (n < n + 1) = True := eq_true (by omega)
theorem le_a1 (n : Nat) : (n ≤ n + 1) = True := eq_true (by omega)
theorem lt_a2 (n : Nat) : (n < n + 1 + 1) = True := eq_true (by omega)
theorem le_a2 (n : Nat) : (n ≤ n + 1 + 1) = True := eq_true (by omega)
theorem lt_a3 (n : Nat) : (n < n + 1 + 1 + 1) = True := eq_true (by omega)
theorem le_a3 (n : Nat) : (n ≤ n + 1 + 1 + 1) = True := eq_true (by omega)
theorem lt_a4 (n : Nat) : (n < n + 1 + 1 + 1 + 1) = True := eq_true (by omega)
theorem le_a4 (n : Nat) : (n ≤ n + 1 + 1 + 1 + 1) = True := eq_true (by omega)
theorem lt_a5 (n : Nat) : (n < n + 1 + 1 + 1 + 1 + 1) = True := eq_true (by omega)
theorem le_a5 (n : Nat) : (n ≤ n + 1 + 1 + 1 + 1 + 1) = True := eq_true (by omega)
theorem lt_a6 (n : Nat) : (n < n + 1 + 1 + 1 + 1 + 1 + 1) = True := eq_true (by omega)
theorem le_a6 (n : Nat) : (n ≤ n + 1 + 1 + 1 + 1 + 1 + 1) = True := eq_true (by omega)
theorem lt_a7 (n : Nat) : (n < n + 1 + 1 + 1 + 1 + 1 + 1 + 1) = True := eq_true (by omega)
theorem le_a7 (n : Nat) : (n ≤ n + 1 + 1 + 1 + 1 + 1 + 1 + 1) = True := eq_true (by omega)
theorem lt_a8 (n : Nat) : (n < n + 1 + 1 + 1 + 1 + 1 + 1 + 1 + 1) = True := eq_true (by omega)
theorem le_a8 (n : Nat) : (n ≤ n + 1 + 1 + 1 + 1 + 1 + 1 + 1 + 1) = True := eq_true (by omega)
attribute [simp] lt_a1 le_a1 lt_a2 le_a2 lt_a3 le_a3 lt_a4 le_a4 lt_a5 le_a5 lt_a6 le_a6 lt_a7 le_a7 lt_a8 le_a8
theorem ftOk_none (vs : List Nat) (a : Nat × Nat × Nat) : ftOk vs [] a = true := (rfl)
theorem ftOk_more (vs : List Nat) (e : Nat × Nat × Nat × Nat) (r : List (Nat × Nat × Nat × Nat)) (a : Nat × Nat × Nat) : ftOk vs (e :: r) a = ((!vs.contains e.1 || apartS e.2 a) && ftOk vs r a) := (rfl)
theorem nat_beq (a b : Nat) : Nat.beq a b = decide (a = b) := by rw [Bool.eq_iff_iff]; simp
theorem nat_ble (a b : Nat) : Nat.ble a b = decide (a ≤ b) := by rw [Bool.eq_iff_iff]; simp
theorem apartS_eq (a b : Nat × Nat × Nat) : apartS a b = (!decide (a.1 = b.1) || ((decide (a.2.1 + a.2.2 ≤ b.2.1) || decide (b.2.1 + b.2.2 ≤ a.2.1)) && decide (a.2.2 < whole) && decide (b.2.2 < whole))) := by
  simp only [apartS, nat_beq, nat_ble, Nat.blt]; rfl
attribute [simp] ftOk_none ftOk_more apartS_eq FK_cons

/-- An append of a slice's to an empty one of known size: a copy. -/
theorem append_copy {α : Type} [El α] {lo : Nat} {s : St} {z : List V} {bytes id off : Nat} {v : V} {l : List α} (H : RdS s v l) (hid : ∃ cs, s.rd id off 0 = some cs) (hb : bytes ≤ 1024) (hl : l.length * bytes ≤ 140737488355328) :
    ∃ v' s', appendV lo false z (El.sz α) bytes (.sl id off 0 0 (El.sz α) true) v s = some (v', s') ∧ ((l = [] ∧ v' = .sl id off 0 0 (El.sz α) true ∧ s' = s) ∨ (l ≠ [] ∧ v' = .sl s.next 0 l.length l.length (El.sz α) false ∧ s' = s.alloc (.cells (l.flatMap El.cells)))) := by
  obtain ⟨cs0, hcs⟩ := hid
  have hc0 : cs0 = [] := by
    rcases rd_some hcs with ⟨c, h1, h2, rfl⟩ | ⟨c, h1, h2, h3⟩
    · simp
    · simp [allS] at h3; exact h3
  subst hc0
  have hlen := H.bound
  have hnew : newV false z (El.sz α) v s = some (l.length, l.flatMap El.cells) := by
    rcases H with ⟨rfl, rfl⟩ | ⟨i, o, lb, ex, rfl, h2, h3, h4⟩
    · simp [newV, lenV, srcV]
    · simp [newV, lenV, srcV, h4]
  cases l with
  | nil =>
    refine ⟨_, _, ?_, .inl ⟨rfl, rfl, rfl⟩⟩
    simp only [appendV, hnew, List.length_nil, if_true]
  | cons a l =>
    refine ⟨_, _, ?_, .inr ⟨by simp, rfl, rfl⟩⟩
    have hr : roomA true 0 (l.length + 1) bytes = true := by
      simp only [roomA, Bool.and_eq_true, Bool.or_eq_true, Nat.ble_eq, Nat.blt_eq]
      simp only [List.length_cons] at hl hlen
      exact ⟨hb, .inr ⟨⟨⟨trivial, by omega⟩, hl⟩, hlen⟩⟩
    simp only [appendV, hnew, List.length_cons, Nat.zero_add, hr, and_self, if_true]
    rw [if_neg (by omega)]
    simp only [Nat.zero_mul, hcs, List.nil_append]

theorem RdS.fresh {α : Type} [El α] (s : St) (l : List α) (lb : Nat) (ex : Bool) (h1 : l.length ≤ lb) (h2 : l.length ≤ 140737488355328) : RdS (s.alloc (.cells (l.flatMap El.cells))) (.sl s.next 0 l.length lb (El.sz α) ex) l :=
  .inr ⟨_, _, _, _, rfl, by simp [next_alloc], ⟨h1, h2⟩, by rw [rd_alloc, if_pos rfl, if_pos (by rw [flat_len]; omega), List.drop_zero, List.take_of_length_le (by rw [flat_len]; exact Nat.le_refl _)]⟩
theorem RdS.empty {α : Type} [El α] {s : St} {id off : Nat} {ex : Bool} (hid : id < s.next) {cs : List V} (h : s.rd id off 0 = some cs) : RdS s (.sl id off 0 0 (El.sz α) ex) ([] : List α) := by
  have hc0 : cs = [] := by
    rcases rd_some h with ⟨c, h1, h2, rfl⟩ | ⟨c, h1, h2, h3⟩
    · simp
    · simp [allS] at h3; exact h3
  subst hc0
  exact .inr ⟨_, _, _, _, rfl, hid, by simp, by simpa using h⟩
theorem RdS.put {α : Type} [El α] {s : St} {id off len lb sz : Nat} {ex : Bool} {l : List α} (H : RdS s (.sl id off len lb sz ex) l) {k : Nat} (hk : id ≠ k) (o : VO) : RdS (s.put k o) (.sl id off len lb sz ex) l := by
  rcases H with ⟨h, _⟩ | ⟨id', off', lb', ex', h1, h2, h3, h4⟩
  · simp at h
  · refine .inr ⟨id', off', lb', ex', h1, h2, h3, ?_⟩
    injection h1 with e1
    rw [rd_put_ne o _ _ (by omega)]; exact h4
theorem RdS.cells1 {α : Type} [El α] {s : St} {v : V} {l : List α} (H : RdS s v l) : v.cells = [v] := by
  rcases H with ⟨rfl, _⟩ | ⟨id', off', lb', ex', rfl, _⟩ <;> rfl
theorem RdS.ok {α : Type} [El α] {s : St} {v : V} {l : List α} (H : RdS s v l) : V.ok1 v = true := by
  rcases H with ⟨rfl, _⟩ | ⟨id', off', lb', ex', rfl, _⟩ <;> rfl
theorem AK_copy [Pg] {α : Type} [El α] {lo l' : Nat} {fr : Fr} {s : St} {st : List Kt} {Q : Qt} {t : Tl} {d : Option Nat} {z : List V} {sz bytes id off : Nat} {v : V} {l : List α} (H : RdS s v l) (hsz : sz = El.sz α) (hlt : id < s.next) (hid : ∃ cs, s.rd id off 0 = some cs) (hb : bytes ≤ 1024) (hl : l.length * bytes ≤ 140737488355328)
    (hk : ∀ v' s', s.Le s' → RdS s' v' l → (∀ s'' k o, s'.Le s'' → k < id → RdS (s''.put k o) v' l) → TK lo t (putD fr d (some v')) s' st Q) : AK l' false z sz bytes (some (.sl id off 0 0 sz true)) (some v) d lo t fr s st Q := by
  subst hsz
  obtain ⟨v', s', h1, h2⟩ := append_copy (lo := l') (z := z) H hid hb hl
  rw [AK_some _ _ _ _ _ _ h1]
  rcases h2 with ⟨rfl, rfl, rfl⟩ | ⟨_, rfl, rfl⟩
  · obtain ⟨cs, hcs⟩ := hid
    have R := RdS.empty (α := α) (ex := true) hlt hcs
    exact hk _ _ (.refl _) R fun s'' k o h1 h2 => (R.le h1).put (by omega) o
  · have R := RdS.fresh s l l.length false (Nat.le_refl _) H.bound
    exact hk _ _ (by simp [St.Le.alloc, St.Le.refl]) R fun s'' k o h1 h2 => (R.le h1).put (by omega) o
attribute [simp] ne_a1 ne_b1 ne_a2 ne_b2 ne_a3 ne_b3 ne_a4 ne_b4 ne_a5 ne_b5 ne_a6 ne_b6 ne_a7 ne_b7 ne_a8 ne_b8
theorem slSlO_hi (sz id off len lb : Nat) (ex : Bool) (k : IntKind) (n : Int) (h : 0 ≤ n ∧ n ≤ lb) : slSlO sz (.sl id off len lb sz ex) none (some (.i k n)) none = some (.sl id off n.toNat lb sz ex) := by
  simp [slSlO, sliceV, bnd, h]
theorem slSlO_lo (sz id off len lb : Nat) (ex : Bool) (k : IntKind) (n : Int) (h : 0 ≤ n ∧ n ≤ len) : slSlO sz (.sl id off len lb sz ex) (some (.i k n)) none none = some (.sl id (off + n.toNat * sz) (len - n.toNat) (lb - n.toNat) sz ex) := by
  simp [slSlO, sliceV, bnd, h]
theorem slSlO_all (sz id off len lb : Nat) (ex : Bool) : slSlO sz (.sl id off len lb sz ex) none none none = some (.sl id off len lb sz ex) := by
  simp [slSlO, sliceV, bnd]
attribute [simp] Ret_iff St.Le.refl St.Le.alloc St.Le.put
end VE

