/- Calls that were run once may be taken as known. -/
import Derived.Test.YtchccpmjhajcaaaGreatVd
set_option linter.unusedVariables false
set_option linter.unusedSimpArgs false
set_option linter.unusedSectionVars false
namespace VE
open Go

/-! ## Calls that are known: of what they look at, up to the names of blocks -/

abbrev Sg := List (Nat × Nat)

def bindS (σ : Sg) (p a : Nat) : Option Sg :=
  match σ with
  | [] => some [(p, a)]
  | (q, b) :: r =>
    bif Nat.beq q p then (bif Nat.beq b a then some ((q, b) :: r) else none)
    else bif Nat.beq b a then none
    else (bindS r p a).map ((q, b) :: ·)

def lookS (σ : Sg) (p : Nat) : Option Nat :=
  match σ with
  | [] => none
  | (q, b) :: r => bif Nat.beq q p then some b else lookS r p

mutual
def uV (σ : Sg) : V → V → Option Sg
  | .b x, .b y => if x = y then some σ else none
  | .i k n, .i k' n' => if k = k' ∧ n = n' then some σ else none
  | .f k n, .f k' n' => if k = k' ∧ n = n' then some σ else none
  | .c k x y, .c k' x' y' => if k = k' ∧ x = x' ∧ y = y' then some σ else none
  | .s x, .s y => if x = y then some σ else none
  | .p i o, .p j o' => if o = o' then bindS σ i j else none
  | .pn, .pn => some σ
  | .sl i o l b z e, .sl j o' l' b' z' e' => if o = o' ∧ l = l' ∧ b = b' ∧ z = z' ∧ e = e' then bindS σ i j else none
  | .sn, .sn => some σ
  | .m i, .m j => bindS σ i j
  | .mn, .mn => some σ
  | .fn f a c, .fn f' a' c' =>
    match f, f' with
    | .func k, .func k' => if k = k' then (match uL σ a a' with
      | some σ' => uL σ' c c'
      | none => none) else none
    | _, _ => none
  | .fnn, .fnn => some σ
  | .it t v, .it t' v' => if t = t' then uV σ v v' else none
  | .itn, .itn => some σ
  | .ag l, .ag l' => uL σ l l'
  | .tu l, .tu l' => uL σ l l'
  | _, _ => none
def uL (σ : Sg) : List V → List V → Option Sg
  | [], [] => some σ
  | v :: r, v' :: r' =>
    match uV σ v v' with
    | some σ' => uL σ' r r'
    | none => none
  | _, _ => none
end

theorem lookS_mem : ∀ {σ : Sg} {p a : Nat}, lookS σ p = some a → (p, a) ∈ σ
  | [], p, a, h => by simp [lookS] at h
  | (q, b) :: r, p, a, h => by
    simp only [lookS] at h
    cases hq : Nat.beq q p with
    | true =>
      rw [hq] at h; simp at h; subst h
      rw [Nat.eq_of_beq_eq_true hq]; exact List.mem_cons_self ..
    | false => rw [hq] at h; exact List.mem_cons_of_mem _ (lookS_mem h)

def OneOne (σ : Sg) : Prop := ∀ x ∈ σ, ∀ y ∈ σ, (x.1 = y.1 ↔ x.2 = y.2)

theorem bindS_ok : ∀ {σ : Sg} {p a : Nat} {σ' : Sg}, bindS σ p a = some σ' → (∀ x ∈ σ, x ∈ σ') ∧ (p, a) ∈ σ' ∧ (∀ x ∈ σ', x ∈ σ ∨ x = (p, a)) ∧ (OneOne σ → OneOne σ')
  | [], p, a, σ', h => by
    simp [bindS] at h; subst h
    exact ⟨by simp, by simp, by simp, fun _ => by intro x hx y hy; simp at hx hy; subst hx; subst hy; simp⟩
  | (q, b) :: r, p, a, σ', h => by
    simp only [bindS] at h
    cases hq : Nat.beq q p with
    | true =>
      have eq := Nat.eq_of_beq_eq_true hq
      cases hb : Nat.beq b a with
      | true =>
        have eb := Nat.eq_of_beq_eq_true hb
        simp [hq, hb] at h; subst h; subst eq; subst eb
        exact ⟨fun _ h => h, List.mem_cons_self .., fun _ h => .inl h, fun h => h⟩
      | false => simp [hq, hb] at h
    | false =>
      have nq := Nat.ne_of_beq_eq_false hq
      cases hb : Nat.beq b a with
      | true => simp [hq, hb] at h
      | false =>
        have nb := Nat.ne_of_beq_eq_false hb
        simp only [hq, hb, cond_false, Option.map_eq_some_iff] at h
        obtain ⟨r', hr, rfl⟩ := h
        obtain ⟨h1, h2, h3, h4⟩ := bindS_ok hr
        refine ⟨?_, List.mem_cons_of_mem _ h2, ?_, ?_⟩
        · intro x hx
          rcases List.mem_cons.1 hx with rfl | hx
          · exact List.mem_cons_self ..
          · exact List.mem_cons_of_mem _ (h1 x hx)
        · intro x hx
          rcases List.mem_cons.1 hx with rfl | hx
          · exact .inl (List.mem_cons_self ..)
          · rcases h3 x hx with h | h
            · exact .inl (List.mem_cons_of_mem _ h)
            · exact .inr h
        · intro ho x hx y hy
          have hor : OneOne r := fun x hx y hy => ho x (List.mem_cons_of_mem _ hx) y (List.mem_cons_of_mem _ hy)
          have key : ∀ y ∈ r', (q = y.1 ↔ b = y.2) := by
            intro y hy
            rcases h3 y hy with h | rfl
            · exact ho (q, b) (List.mem_cons_self ..) y (List.mem_cons_of_mem _ h)
            · exact ⟨fun e => absurd e nq, fun e => absurd e nb⟩
          rcases List.mem_cons.1 hx with rfl | hx <;> rcases List.mem_cons.1 hy with rfl | hy
          · simp
          · exact key y hy
          · exact ⟨fun e => ((key x hx).1 e.symm).symm, fun e => ((key x hx).2 e.symm).symm⟩
          · exact h4 hor x hx y hy

mutual
theorem uV_sub : ∀ {σ : Sg} (p a : V) {σ' : Sg}, uV σ p a = some σ' → (∀ x ∈ σ, x ∈ σ') ∧ (OneOne σ → OneOne σ')
  | σ, p, a, σ', h => by
    have triv : some σ = some σ' → (∀ x ∈ σ, x ∈ σ') ∧ (OneOne σ → OneOne σ') := fun h => by injection h with h; subst h; exact ⟨fun _ h => h, fun h => h⟩
    have bnd : ∀ {i j}, bindS σ i j = some σ' → (∀ x ∈ σ, x ∈ σ') ∧ (OneOne σ → OneOne σ') := fun h => by obtain ⟨h1, _, _, h4⟩ := bindS_ok h; exact ⟨h1, h4⟩
    unfold uV at h
    split at h
    · rw [Option.ite_none_right_eq_some] at h; exact triv h.2
    · rw [Option.ite_none_right_eq_some] at h; exact triv h.2
    · rw [Option.ite_none_right_eq_some] at h; exact triv h.2
    · rw [Option.ite_none_right_eq_some] at h; exact triv h.2
    · rw [Option.ite_none_right_eq_some] at h; exact triv h.2
    · rw [Option.ite_none_right_eq_some] at h; exact bnd h.2
    · exact triv h
    · rw [Option.ite_none_right_eq_some] at h; exact bnd h.2
    · exact triv h
    · exact bnd h
    · exact triv h
    · split at h
      · rw [Option.ite_none_right_eq_some] at h
        obtain ⟨_, h⟩ := h
        split at h
        · rename_i h1
          obtain ⟨a1, a2⟩ := uL_sub _ _ h1
          obtain ⟨b1, b2⟩ := uL_sub _ _ h
          exact ⟨fun x hx => b1 x (a1 x hx), fun h => b2 (a2 h)⟩
        · simp at h
      · simp at h
    · exact triv h
    · rw [Option.ite_none_right_eq_some] at h; exact uV_sub _ _ h.2
    · exact triv h
    · exact uL_sub _ _ h
    · exact uL_sub _ _ h
    · simp at h
theorem uL_sub : ∀ {σ : Sg} (p a : List V) {σ' : Sg}, uL σ p a = some σ' → (∀ x ∈ σ, x ∈ σ') ∧ (OneOne σ → OneOne σ')
  | σ, [], [], σ', h => by simp [uL] at h; subst h; exact ⟨fun _ h => h, fun h => h⟩
  | σ, v :: r, v' :: r', σ', h => by
    simp only [uL] at h
    split at h
    · rename_i h1
      obtain ⟨a1, a2⟩ := uV_sub _ _ h1
      obtain ⟨b1, b2⟩ := uL_sub _ _ h
      exact ⟨fun x hx => b1 x (a1 x hx), fun h => b2 (a2 h)⟩
    · simp at h
  | σ, [], _ :: _, σ', h => by simp [uL] at h
  | σ, _ :: _, [], σ', h => by simp [uL] at h
end

mutual
/-- What stands for a value stands for what that one stands for. -/
theorem uV_rel {ρp ρa : Rho} {w : World} : ∀ {σ : Sg} (p a : V) {σ' : Sg} {v' : Value}, uV σ p a = some σ' → (∀ x ∈ σ', ∀ y, ρa x.2 = some y → ρp x.1 = some y) → VRel ρa w a v' → VRel ρp w p v'
  | σ, p, a, σ', v', h, H, hr => by
    have bnd : ∀ {i j x}, bindS σ i j = some σ' → ρa j = some x → ρp i = some x := fun h hx => by obtain ⟨_, h2, _, _⟩ := bindS_ok h; exact H _ h2 _ hx
    unfold uV at h
    split at h
    · rw [Option.ite_none_right_eq_some] at h; rw [h.1, hr.inv_b]; exact .b _
    · rw [Option.ite_none_right_eq_some] at h; obtain ⟨⟨rfl, rfl⟩, _⟩ := h; rw [hr.inv_i]; exact .i _ _
    · rw [Option.ite_none_right_eq_some] at h; obtain ⟨⟨rfl, rfl⟩, _⟩ := h; rw [hr.inv_f]; exact .f _ _
    · rw [Option.ite_none_right_eq_some] at h; obtain ⟨⟨rfl, rfl, rfl⟩, _⟩ := h; rw [hr.inv_c]; exact .c _ _ _
    · rw [Option.ite_none_right_eq_some] at h; rw [h.1, hr.inv_s]; exact .s _
    · rw [Option.ite_none_right_eq_some] at h
      obtain ⟨rfl, h⟩ := h
      obtain ⟨b, sh, hρ, rfl⟩ := hr.inv_p
      exact .p (bnd h hρ)
    · rw [hr.inv_pn]; exact .pn
    · rw [Option.ite_none_right_eq_some] at h
      obtain ⟨⟨rfl, rfl, rfl, rfl, rfl⟩, h⟩ := h
      obtain ⟨b, sh, off', cap, hρ, c1, c2, c3, c4, c5, rfl⟩ := hr.inv_sl
      exact .sl (bnd h hρ) c1 c2 c3 c4 c5
    · rw [hr.inv_sn]; exact .sn
    · obtain ⟨b, sh, hρ, rfl⟩ := hr.inv_m
      exact .m (bnd h hρ)
    · rw [hr.inv_mn]; exact .mn
    · split at h
      · rw [Option.ite_none_right_eq_some] at h
        obtain ⟨rfl, h⟩ := h
        obtain ⟨a1, c1, h1, h2, rfl⟩ := hr.inv_fn
        split at h
        · rename_i g1
          have hs := (uL_sub _ _ h).1
          exact .fn _ (uL_rel _ _ g1 (fun x hx => H x (hs x hx)) h1) (uL_rel _ _ h H h2)
        · simp at h
      · simp at h
    · cases hr; exact .fnn
    · rw [Option.ite_none_right_eq_some] at h
      obtain ⟨rfl, h⟩ := h
      obtain ⟨x, h1, rfl⟩ := hr.inv_it
      exact .it _ (uV_rel _ _ h H h1)
    · cases hr; exact .itn
    · obtain ⟨cs, h1, rfl⟩ := hr.inv_ag
      exact .ag (uL_rel _ _ h H h1)
    · obtain ⟨cs, h1, rfl⟩ := hr.inv_tu
      exact .tu (uL_rel _ _ h H h1)
    · simp at h
theorem uL_rel {ρp ρa : Rho} {w : World} : ∀ {σ : Sg} (p a : List V) {σ' : Sg} {l' : List Value}, uL σ p a = some σ' → (∀ x ∈ σ', ∀ y, ρa x.2 = some y → ρp x.1 = some y) → VRelL ρa w a l' → VRelL ρp w p l'
  | σ, [], [], σ', _, _, _, .nil => .nil
  | σ, v :: r, v' :: r', σ', _, h, H, .cons hv hr => by
    simp only [uL] at h
    split at h
    · rename_i h1
      have hs := (uL_sub _ _ h).1
      exact .cons (uV_rel _ _ h1 (fun x hx => H x (hs x hx)) hv) (uL_rel _ _ h H hr)
    · simp at h
  | σ, [], _ :: _, σ', _, h, _, _ => by simp [uL] at h
  | σ, _ :: _, [], σ', _, h, _, _ => by simp [uL] at h
end

end VE

namespace VE
open Go

def uE (σ : Sg) : List (V × V) → List (V × V) → Option Sg
  | [], [] => some σ
  | (a, b) :: r, (a', b') :: r' =>
    match uV σ a a' with
    | some σ1 => match uV σ1 b b' with
      | some σ2 => uE σ2 r r'
      | none => none
    | none => none
  | _, _ => none

def uO (σ : Sg) : VO → VO → Option Sg
  | .cells l, .cells l' => uL σ l l'
  | .map es, .map es' => uE σ es es'
  | _, _ => none

/-- Blocks, from a name on. -/
def uB (s : St) (σ : Sg) (i : Nat) : List VO → Option Sg
  | [] => some σ
  | o :: r =>
    match lookS σ i with
    | some j => match s.heap.get j with
      | some o' => match uO σ o o' with
        | some σ' => uB s σ' (i + 1) r
        | none => none
      | none => none
    | none => none

mutual
def renV (f : Nat → Nat) : V → V
  | .p i o => .p (f i) o
  | .sl i o l b z e => .sl (f i) o l b z e
  | .m i => .m (f i)
  | .fn g a c => .fn g (renL f a) (renL f c)
  | .yl i => .yl (f i)
  | .it t v => .it t (renV f v)
  | .ag l => .ag (renL f l)
  | .tu l => .tu (renL f l)
  | .b x => .b x
  | .i k n => .i k n
  | .f k n => .f k n
  | .c k x y => .c k x y
  | .s x => .s x
  | .pn => .pn
  | .sn => .sn
  | .mn => .mn
  | .fnn => .fnn
  | .itn => .itn
def renL (f : Nat → Nat) : List V → List V
  | [] => []
  | v :: r => renV f v :: renL f r
end

def renE (f : Nat → Nat) : List (V × V) → List (V × V)
  | [] => []
  | (a, b) :: r => (renV f a, renV f b) :: renE f r

def renO (f : Nat → Nat) : VO → VO
  | .cells l => .cells (renL f l)
  | .map es => .map (renE f es)
  | _ => .dead

def layL (s : St) : List VO → St
  | [] => s
  | o :: r => layL (s.alloc o) r

def stOf (l : List VO) : St := layL ⟨.nil, 0⟩ l

structure Memo where
  k : Nat
  args : List V
  blocks : List VO
  res : V
  new : List VO

def belowS (m : Nat) (σ : Sg) : Bool := σ.all fun x => Nat.blt x.1 m

def hitM (e : Memo) (args : List V) (s : St) : Option Sg :=
  match uL [] e.args args with
  | some σ => match uB s σ 0 e.blocks with
    | some σ' => if belowS e.blocks.length σ' then some σ' else none
    | none => none
  | none => none

/-- Names of the known call, as they are here. -/
def nameM (m : Nat) (σ : Sg) (n : Nat) (i : Nat) : Nat := bif Nat.blt i m then (lookS σ i).getD 0 else n + (i - m)

def applyM (e : Memo) (σ : Sg) (s : St) : V × St :=
  let f := nameM e.blocks.length σ s.next
  (renV f e.res, layL s (e.new.map (renO f)))

section
variable {E : Env} {lo : Nat} {ρ : Rho} {s s' : St} {w : World} {v : V}

mutual
theorem renV_rel {ρp ρn : Rho} {w : World} {f : Nat → Nat} (H : ∀ i x, ρp i = some x → ρn (f i) = some x) : ∀ {p : V} {v' : Value}, VRel ρp w p v' → VRel ρn w (renV f p) v'
  | _, _, .b x => .b x
  | _, _, .i k n => .i k n
  | _, _, .f k n => .f k n
  | _, _, .c k x y => .c k x y
  | _, _, .s bs => .s bs
  | _, _, .p h => .p (H _ _ h)
  | _, _, .pn => .pn
  | _, _, .sl h a b c d e => .sl (H _ _ h) a b c d e
  | _, _, .sn => .sn
  | _, _, .m h => .m (H _ _ h)
  | _, _, .mn => .mn
  | _, _, .fn k a c => .fn k (renL_rel H a) (renL_rel H c)
  | _, _, .yl h => .yl (H _ _ h)
  | _, _, .fnn => .fnn
  | _, _, .it t h => .it t (renV_rel H h)
  | _, _, .itn => .itn
  | _, _, .ag h => .ag (renL_rel H h)
  | _, _, .tu h => .tu (renL_rel H h)
theorem renL_rel {ρp ρn : Rho} {w : World} {f : Nat → Nat} (H : ∀ i x, ρp i = some x → ρn (f i) = some x) : ∀ {p : List V} {l' : List Value}, VRelL ρp w p l' → VRelL ρn w (renL f p) l'
  | _, _, .nil => .nil
  | _, _, .cons h t => .cons (renV_rel H h) (renL_rel H t)
end

theorem renL_map (f : Nat → Nat) : ∀ l : List V, renL f l = l.map (renV f)
  | [] => rfl
  | v :: r => by simp [renL, renL_map f r]

theorem renE_keys (f : Nat → Nat) : ∀ es : List (V × V), (renE f es).map (·.1) = renL f (es.map (·.1)) ∧ (renE f es).map (·.2) = renL f (es.map (·.2))
  | [] => ⟨rfl, rfl⟩
  | (a, b) :: r => by obtain ⟨h1, h2⟩ := renE_keys f r; exact ⟨by simp [renE, renL, h1], by simp [renE, renL, h2]⟩

theorem renO_rel {ρp ρn : Rho} {w : World} {f : Nat → Nat} (H : ∀ i x, ρp i = some x → ρn (f i) = some x) {o : VO} {b sh : Nat} (h : ORel E ρp w o b sh) : ORel E ρn w (renO f o) b sh := by
  cases o with
  | cells l =>
    obtain ⟨c, t, h1, h2, h3⟩ := h
    refine ⟨c, t, h1, by rw [renL_map]; simpa using h2, fun i v hv => ?_⟩
    rw [renL_map, List.getElem?_map, Option.map_eq_some_iff] at hv
    obtain ⟨u, hu, rfl⟩ := hv
    obtain ⟨v', g1, g2⟩ := h3 i u hu
    exact ⟨v', g1, renV_rel H g2⟩
  | map es =>
    obtain ⟨arr, clock, h1, h2, h3⟩ := h
    obtain ⟨k1, k2⟩ := renE_keys f es
    exact ⟨arr, clock, h1, by rw [k1]; exact renL_rel H h2, by rw [k2]; exact renL_rel H h3⟩
  | ro _ => trivial
  | dead => trivial
  | iter _ _ => trivial
  | loop _ _ _ _ _ _ => trivial

theorem uE_sub : ∀ {σ : Sg} {p a : List (V × V)} {σ' : Sg}, uE σ p a = some σ' → (∀ x ∈ σ, x ∈ σ') ∧ (OneOne σ → OneOne σ')
  | σ, [], [], σ', h => by simp [uE] at h; subst h; exact ⟨fun _ h => h, fun h => h⟩
  | σ, (a, b) :: r, (a', b') :: r', σ', h => by
    simp only [uE] at h
    split at h
    · rename_i h1
      split at h
      · rename_i h2
        obtain ⟨a1, a2⟩ := uV_sub _ _ h1
        obtain ⟨b1, b2⟩ := uV_sub _ _ h2
        obtain ⟨c1, c2⟩ := uE_sub h
        exact ⟨fun x hx => c1 x (b1 x (a1 x hx)), fun h => c2 (b2 (a2 h))⟩
      · simp at h
    · simp at h
  | σ, [], _ :: _, σ', h => by simp [uE] at h
  | σ, _ :: _, [], σ', h => by simp [uE] at h

theorem uO_sub {σ σ' : Sg} {p a : VO} (h : uO σ p a = some σ') : (∀ x ∈ σ, x ∈ σ') ∧ (OneOne σ → OneOne σ') := by
  unfold uO at h
  split at h
  · exact uL_sub _ _ h
  · exact uE_sub h
  · simp at h

theorem uE_rel {ρp ρa : Rho} {w : World} : ∀ {σ : Sg} {p a : List (V × V)} {σ' : Sg} {l1 l2 : List Value}, uE σ p a = some σ' → (∀ x ∈ σ', ∀ y, ρa x.2 = some y → ρp x.1 = some y) → VRelL ρa w (a.map (·.1)) l1 → VRelL ρa w (a.map (·.2)) l2 →
    VRelL ρp w (p.map (·.1)) l1 ∧ VRelL ρp w (p.map (·.2)) l2
  | σ, [], [], σ', _, _, h, _, .nil, .nil => ⟨.nil, .nil⟩
  | σ, (a, b) :: r, (a', b') :: r', σ', _, _, h, H, .cons x1 y1, .cons x2 y2 => by
    simp only [uE] at h
    split at h
    · rename_i h1
      split at h
      · rename_i h2
        have s2 := (uE_sub h).1
        have s1 := (uV_sub _ _ h2).1
        obtain ⟨g1, g2⟩ := uE_rel h H y1 y2
        exact ⟨.cons (uV_rel _ _ h1 (fun x hx => H x (s2 x (s1 x hx))) x1) g1, .cons (uV_rel _ _ h2 (fun x hx => H x (s2 x hx)) x2) g2⟩
      · simp at h
    · simp at h
  | σ, [], _ :: _, σ', _, _, h, _, _, _ => by simp [uE] at h
  | σ, _ :: _, [], σ', _, _, h, _, _, _ => by simp [uE] at h

theorem uO_rel {ρp ρa : Rho} {w : World} {σ σ' : Sg} {p a : VO} {b sh : Nat} (h : uO σ p a = some σ') (H : ∀ x ∈ σ', ∀ y, ρa x.2 = some y → ρp x.1 = some y) (hr : ORel E ρa w a b sh) : ORel E ρp w p b sh := by
  unfold uO at h
  split at h
  · rename_i l l'
    obtain ⟨c, t, h1, h2, h3⟩ := hr
    -- cell by cell
    have key : ∀ (l l' : List V) (σ σ' : Sg), uL σ l l' = some σ' → (∀ x ∈ σ', ∀ y, ρa x.2 = some y → ρp x.1 = some y) → l.length = l'.length ∧ ∀ (i : Nat) (v : V), l[i]? = some v → ∃ u, l'[i]? = some u ∧ ∀ v', VRel ρa w u v' → VRel ρp w v v' := by
      intro l
      induction l with
      | nil => intro l' σ σ' h _; cases l' with
        | nil => exact ⟨rfl, by simp⟩
        | cons _ _ => simp [uL] at h
      | cons x r ih =>
        intro l' σ σ' h H
        cases l' with
        | nil => simp [uL] at h
        | cons x' r' =>
          simp only [uL] at h
          split at h
          · rename_i g
            obtain ⟨e1, e2⟩ := ih r' _ _ h H
            have hs := (uL_sub _ _ h).1
            refine ⟨by simp [e1], fun i v hv => ?_⟩
            cases i with
            | zero => simp at hv; subst hv; exact ⟨x', rfl, fun v' hv' => uV_rel _ _ g (fun x hx => H x (hs x hx)) hv'⟩
            | succ i => simpa using e2 i v (by simpa using hv)
          · simp at h
    obtain ⟨e1, e2⟩ := key l l' _ _ h H
    refine ⟨c, t, h1, by omega, fun i v hv => ?_⟩
    obtain ⟨u, g1, g2⟩ := e2 i v hv
    obtain ⟨v', g3, g4⟩ := h3 i u g1
    exact ⟨v', g3, g2 v' g4⟩
  · obtain ⟨arr, clock, h1, h2, h3⟩ := hr
    obtain ⟨g1, g2⟩ := uE_rel h H h2 h3
    exact ⟨arr, clock, h1, g1, g2⟩
  · simp at h

theorem uB_ok : ∀ {l : List VO} {σ σ' : Sg} {i : Nat}, uB s σ i l = some σ' → (∀ x ∈ σ, x ∈ σ') ∧ (OneOne σ → OneOne σ') ∧ ∀ (k : Nat) (o : VO), l[k]? = some o → ∃ j o' σ1 σ2, (i + k, j) ∈ σ' ∧ s.heap.get j = some o' ∧ uO σ1 o o' = some σ2 ∧ ∀ x ∈ σ2, x ∈ σ'
  | [], σ, σ', i, h => by simp [uB] at h; subst h; exact ⟨fun _ h => h, fun h => h, by simp⟩
  | o :: r, σ, σ', i, h => by
    simp only [uB] at h
    split at h
    · rename_i j hj
      split at h
      · rename_i o' ho'
        split at h
        · rename_i σ1 h1
          obtain ⟨a1, a2⟩ := uO_sub h1
          obtain ⟨b1, b2, b3⟩ := uB_ok h
          refine ⟨fun x hx => b1 x (a1 x hx), fun h => b2 (a2 h), ?_⟩
          intro k q hq
          cases k with
          | zero =>
            simp at hq; subst hq
            exact ⟨j, o', σ, σ1, b1 _ (a1 _ (by simpa using lookS_mem hj)), ho', h1, b1⟩
          | succ k =>
            obtain ⟨j2, o2, s1, s2, g1, g2⟩ := b3 k q (by simpa using hq)
            exact ⟨j2, o2, s1, s2, by rw [show i + (k + 1) = i + 1 + k by omega]; exact g1, g2⟩
        · simp at h
      · simp at h
    · simp at h

theorem layL_next : ∀ (l : List VO) (s : St), (layL s l).next = s.next + l.length
  | [], s => rfl
  | o :: r, s => by simp only [layL]; rw [layL_next r]; simp [St.alloc]; omega

theorem layL_get : ∀ (l : List VO) (s : St) (id : Nat), (layL s l).heap.get id = if s.next ≤ id ∧ id < s.next + l.length then l[id - s.next]? else s.heap.get id
  | [], s, id => by simp only [layL, List.length_nil]; rw [if_neg (by omega)]
  | o :: r, s, id => by
    simp only [layL, List.length_cons]
    rw [layL_get r, get_alloc, next_alloc]
    by_cases h : id = s.next
    · subst h
      rw [if_neg (by omega), if_pos rfl, if_pos (by omega)]; simp
    · by_cases h2 : s.next ≤ id ∧ id < s.next + (r.length + 1)
      · rw [if_pos (by omega), if_pos h2, show id - s.next = (id - (s.next + 1)) + 1 by omega]; simp
      · rw [if_neg (by omega), if_neg h, if_neg h2]

theorem stOf_next (l : List VO) : (stOf l).next = l.length := by unfold stOf; rw [layL_next]; simp

theorem stOf_get (l : List VO) (id : Nat) : (stOf l).heap.get id = l[id]? := by
  unfold stOf
  rw [layL_get]
  simp only [Nat.zero_le, true_and, Nat.zero_add, Nat.sub_zero]
  split
  · rfl
  · rw [Tr.get_nil, List.getElem?_eq_none (by omega)]

end
end VE

namespace VE
open Go

section
variable {E : Env} {lo : Nat} {ρ : Rho} {s s' : St} {w : World} {v : V}

/-- What a known call says, whatever lies around what it looks at. -/
def Valid (E : Env) (e : Memo) : Prop := ∀ (ρ : Rho) (w : World) (args' : Array Value), VRelL ρ w e.args args'.toList → WR E ρ (stOf e.blocks) w → Und ρ (stOf e.blocks) (stOf (e.blocks ++ e.new)) →
  Callee E.P e.k ∧ CallsIn (Wd none) 0 E.P e.k args' w (RetPost E e.blocks.length ρ (stOf e.blocks) w e.res (stOf (e.blocks ++ e.new)))

/-- The places of the names. -/
def pullR (σ : Sg) (ρ : Rho) : Rho := fun i => (lookS σ i).bind ρ

theorem lookS_of_mem : ∀ {σ : Sg}, OneOne σ → ∀ {p a : Nat}, (p, a) ∈ σ → lookS σ p = some a
  | [], _, p, a, h => by simp at h
  | (q, b) :: r, ho, p, a, h => by
    simp only [lookS]
    cases hq : Nat.beq q p with
    | true =>
      have e := Nat.eq_of_beq_eq_true hq
      have := (ho (q, b) (List.mem_cons_self ..) (p, a) h).1 e
      simp at this; simp [this]
    | false =>
      have ne := Nat.ne_of_beq_eq_false hq
      rcases List.mem_cons.1 h with h | h
      · injection h with h1 h2; exact absurd h1.symm ne
      · exact lookS_of_mem (fun x hx y hy => ho x (List.mem_cons_of_mem _ hx) y (List.mem_cons_of_mem _ hy)) h

theorem pull_H {σ : Sg} (ho : OneOne σ) : ∀ x ∈ σ, ∀ y, ρ x.2 = some y → pullR σ ρ x.1 = some y := by
  intro x hx y hy
  unfold pullR
  rw [lookS_of_mem ho (show (x.1, x.2) ∈ σ from hx)]; exact hy

theorem hit_parts {e : Memo} {args : List V} {σ : Sg} (h : hitM e args s = some σ) : ∃ σ0, uL [] e.args args = some σ0 ∧ uB s σ0 0 e.blocks = some σ ∧ OneOne σ ∧ (∀ x ∈ σ0, x ∈ σ) ∧ ∀ x ∈ σ, x.1 < e.blocks.length := by
  unfold hitM at h
  split at h
  · rename_i σ0 h0
    split at h
    · rename_i σ1 h1
      rw [Option.ite_none_right_eq_some] at h
      obtain ⟨hb, h⟩ := h
      injection h with h; subst h
      obtain ⟨b1, b2, _⟩ := uB_ok h1
      refine ⟨σ0, h0, h1, b2 ((uL_sub _ _ h0).2 (by intro x hx; simp at hx)), b1, ?_⟩
      intro x hx
      unfold belowS at hb
      rw [List.all_eq_true] at hb
      have := hb x hx
      simpa [Nat.blt_eq] using this
    · simp at h
  · simp at h

theorem hit_ok {e : Memo} (hv : Valid E e) {args : List V} {args' : Array Value} {σ : Sg} (h : hitM e args s = some σ) (ha : VRelL ρ w args args'.toList) (hw : WR E ρ s w) (hu : Und ρ s (applyM e σ s).2) (hlo : lo ≤ s.next) :
    Callee E.P e.k ∧ CallsIn (Wd none) 0 E.P e.k args' w (RetPost E lo ρ s w (applyM e σ s).1 (applyM e σ s).2) := by
  obtain ⟨σ0, h0, h1, ho, hs0, hlt⟩ := hit_parts h
  obtain ⟨_, _, hB⟩ := uB_ok h1
  have H := pull_H (ρ := ρ) ho
  have pdom : ∀ {i x}, pullR σ ρ i = some x → ∃ j, (i, j) ∈ σ ∧ ρ j = some x ∧ i < e.blocks.length := by
    intro i x hx
    unfold pullR at hx
    rw [Option.bind_eq_some_iff] at hx
    obtain ⟨j, hj, hx⟩ := hx
    exact ⟨j, lookS_mem hj, hx, hlt _ (lookS_mem hj)⟩
  have hargs : VRelL (pullR σ ρ) w e.args args'.toList := uL_rel _ _ h0 (fun x hx => H x (hs0 x hx)) ha
  have blk : ∀ {i : Nat} {o : VO}, e.blocks[i]? = some o → ∃ j o', (i, j) ∈ σ ∧ s.heap.get j = some o' ∧ ∀ b sh, ORel E ρ w o' b sh → ORel E (pullR σ ρ) w o b sh := by
    intro i o hi
    obtain ⟨j, o', σ1, σ2, g1, g2, g3, g4⟩ := hB i o hi
    rw [Nat.zero_add] at g1
    exact ⟨j, o', g1, g2, fun b sh hr => uO_rel g3 (fun x hx => H x (g4 x hx)) hr⟩
  have aliveS : ∀ {i j : Nat}, (i, j) ∈ σ → alive (stOf e.blocks) i → alive s j := by
    intro i j hij ⟨o, hoi, hd⟩
    rw [stOf_get] at hoi
    obtain ⟨j', o', σ1, σ2, g1, g2, g3, _⟩ := hB i o hoi
    rw [Nat.zero_add] at g1
    have : j' = j := by
      have := (ho (i, j') g1 (i, j) hij).1 rfl
      exact this
    subst this
    refine ⟨o', g2, ?_⟩
    unfold uO at g3
    split at g3
    · rfl
    · rfl
    · simp at g3
  have hws : WR E (pullR σ ρ) (stOf e.blocks) w := by
    refine ⟨?_, ?_, ?_, ?_⟩
    · intro i b sh o hp hoi
      rw [stOf_get] at hoi
      obtain ⟨j, o', g1, g2, g3⟩ := blk hoi
      obtain ⟨j2, g4, g5, _⟩ := pdom hp
      have : j2 = j := (ho (i, j2) g4 (i, j) g1).1 rfl
      subst this
      exact g3 b sh (hw.obj j2 b sh o' g5 g2)
    · intro i b sh hp
      obtain ⟨j, _, g, _⟩ := pdom hp
      exact hw.lt j b sh g
    · intro i i' b sh sh' hp hp' hal hal'
      obtain ⟨j, g1, g2, _⟩ := pdom hp
      obtain ⟨j', g3, g4, _⟩ := pdom hp'
      have := hw.inj j j' b sh sh' g2 g4 (aliveS g1 hal) (aliveS g3 hal')
      exact (ho (i, j) g1 (i', j') g3).2 this
    · intro i hi
      rw [stOf_next] at hi
      rw [stOf_get, List.getElem?_eq_none hi]
  have hun : Und (pullR σ ρ) (stOf e.blocks) (stOf (e.blocks ++ e.new)) := by
    intro i hi _
    rw [stOf_next] at hi
    cases hp : pullR σ ρ i with
    | none => rfl
    | some x => obtain ⟨_, _, _, h⟩ := pdom hp; omega
  obtain ⟨hcal, hcalls⟩ := hv (pullR σ ρ) w args' hargs hws hun
  refine ⟨hcal, hcalls.mono ?_⟩
  intro en w' hen
  cases en with
  | panicked _ => exact hen.elim
  | outgrown => exact hen.elim
  | returned u =>
    obtain ⟨ρ', r1, r2⟩ := hen
    have hm : (stOf e.blocks).next = e.blocks.length := stOf_next _
    have hn : (stOf (e.blocks ++ e.new)).next = e.blocks.length + e.new.length := by rw [stOf_next]; simp
    -- all blocks stay
    have frs : ∀ id, (stOf e.blocks).next ≤ id → (stOf e.blocks).heap.get id = none := hws.fresh
    have keepAll : ∀ (b : Nat) (o : Obj), w.heap[b]? = some o → w'.heap[b]? = some o := by
      intro b o hb
      refine r2.keep b o hb ?_
      intro id sh _ hal
      obtain ⟨o', ho', _⟩ := hal
      rcases Nat.lt_or_ge id (stOf e.blocks).next with h | h
      · rw [hm] at h; exact h
      · rw [frs id h] at ho'; simp at ho'
    have newFresh : ∀ id b sh, pullR σ ρ id = none → ρ' id = some (b, sh) → w.heap.size ≤ b := by
      intro id b sh g1 g2
      rcases r2.newb id b sh g1 g2 with h | ⟨id0, _, _, ⟨o', ho', _⟩, hl⟩
      · exact h
      · rw [frs id0 (by omega)] at ho'; simp at ho'
    -- the places of what is new
    let ρn : Rho := fun k => match ρ k with
      | some x => some x
      | none => if s.next ≤ k ∧ k < s.next + e.new.length then ρ' (e.blocks.length + (k - s.next)) else none
    have hnext : (applyM e σ s).2.next = s.next + e.new.length := by simp [applyM, layL_next]
    have oldn : ∀ k x, ρ k = some x → ρn k = some x := fun k x hk => by simp [ρn, hk]
    have newn : ∀ j, j < e.new.length → ρn (s.next + j) = ρ' (e.blocks.length + j) := by
      intro j hj
      have : ρ (s.next + j) = none := hu _ (by omega) (by rw [hnext]; omega)
      simp [ρn, this, hj]
    have newInv : ∀ k x, ρ k = none → ρn k = some x → ∃ j, j < e.new.length ∧ k = s.next + j ∧ ρ' (e.blocks.length + j) = some x := by
      intro k x hk hx
      simp only [ρn, hk] at hx
      split at hx
      · rename_i h; exact ⟨k - s.next, by omega, by omega, hx⟩
      · simp at hx
    have Hren : ∀ i x, ρ' i = some x → ρn (nameM e.blocks.length σ s.next i) = some x := by
      intro i x hx
      unfold nameM
      cases hb : Nat.blt i e.blocks.length with
      | true =>
        have hlt' : i < e.blocks.length := by simpa [Nat.blt_eq] using hb
        cases hp : pullR σ ρ i with
        | none =>
          have := (r2.new i x hp hx).1; rw [hm] at this; omega
        | some y =>
          have := r2.ext i y hp; rw [hx] at this; injection this with this; subst this
          obtain ⟨j, g1, g2, _⟩ := pdom hp
          simp only [cond_true, lookS_of_mem ho g1, Option.getD_some]
          exact oldn j x g2
      | false =>
        have hge : e.blocks.length ≤ i := by
          rcases Nat.lt_or_ge i e.blocks.length with h | h
          · rw [show Nat.blt i e.blocks.length = true by simp [Nat.blt_eq]; exact h] at hb; simp at hb
          · exact h
        have hp : pullR σ ρ i = none := by
          cases hp : pullR σ ρ i with
          | none => rfl
          | some y => obtain ⟨_, _, _, h⟩ := pdom hp; omega
        have hr := (r2.new i x hp hx).2
        rw [hn] at hr
        simp only [cond_false]
        rw [newn (i - e.blocks.length) (by omega), show e.blocks.length + (i - e.blocks.length) = i by omega]
        exact hx
    have getN : ∀ k, (applyM e σ s).2.heap.get k = if s.next ≤ k ∧ k < s.next + e.new.length then ((e.new.map (renO (nameM e.blocks.length σ s.next)))[k - s.next]?) else s.heap.get k := by
      intro k; simp only [applyM]; rw [layL_get]; simp
    have newPull : ∀ j, j < e.new.length → ∀ x, ρ' (e.blocks.length + j) = some x → pullR σ ρ (e.blocks.length + j) = none := by
      intro j _ x _
      cases hp : pullR σ ρ (e.blocks.length + j) with
      | none => rfl
      | some y => obtain ⟨_, _, _, h⟩ := pdom hp; omega
    refine ⟨ρn, renV_rel Hren r1, oldn, ?_, ?_, r2.sz, r2.size, fun b o hb _ => keepAll b o hb, r2.loops, ?_, r2.oo⟩
    · intro k x g1 g2
      obtain ⟨j, q1, q2, _⟩ := newInv k x g1 g2
      rw [hnext]; omega
    · intro k b sh g1 g2
      obtain ⟨j, q1, q2, q3⟩ := newInv k _ g1 g2
      exact .inl (newFresh _ b sh (newPull j q1 _ q3) q3)
    · refine ⟨?_, ?_, ?_, ?_⟩
      · intro k b sh o g1 g2
        rw [getN] at g2
        split at g2
        · rename_i hk
          have hρ0 : ρ k = none := hu k hk.1 (by rw [hnext]; exact hk.2)
          obtain ⟨j, q1, q2, q3⟩ := newInv k _ hρ0 g1
          rw [List.getElem?_map, Option.map_eq_some_iff] at g2
          obtain ⟨o0, q4, rfl⟩ := g2
          refine renO_rel Hren (r2.wr.obj _ b sh o0 q3 ?_)
          rw [stOf_get, List.getElem?_append_right (by omega)]
          rw [← q4]; congr 1; omega
        · cases hρ0 : ρ k with
          | some x =>
            have := oldn k x hρ0; rw [g1] at this; injection this with this; subst this
            exact (hw.obj k b sh o hρ0 g2).mono oldn r2.sz fun o' h => keepAll b o' h
          | none =>
            obtain ⟨j, q1, q2, _⟩ := newInv k _ hρ0 g1
            omega
      · intro k b sh g1
        cases hρ0 : ρ k with
        | some x =>
          have := oldn k x hρ0; rw [g1] at this; injection this with this; subst this
          have := hw.lt k b sh hρ0; have := r2.size; omega
        | none =>
          obtain ⟨j, _, _, q3⟩ := newInv k _ hρ0 g1
          exact r2.wr.lt _ b sh q3
      · have one : ∀ k k' b sh sh', ρ k = some (b, sh) → ρ k' = none → ρn k' = some (b, sh') → False := by
          intro k k' b sh sh' g1 g2 g3
          obtain ⟨j, q1, _, q3⟩ := newInv k' _ g2 g3
          have := newFresh _ b sh' (newPull j q1 _ q3) q3
          have := hw.lt k b sh g1; omega
        have oldAl : ∀ {k x}, ρ k = some x → alive (applyM e σ s).2 k → alive s k := by
          intro k x hx ⟨o, ho', hd⟩
          rw [getN] at ho'
          split at ho'
          · rename_i hk
            have := hu k hk.1 (by rw [hnext]; exact hk.2); rw [hx] at this; simp at this
          · exact ⟨o, ho', hd⟩
        intro k k' b sh sh' g1 g2 a1 a2
        cases h1 : ρ k with
        | some x =>
          have e1 := oldn k x h1; rw [g1] at e1; injection e1 with e1; subst e1
          cases h2 : ρ k' with
          | some x =>
            have e2 := oldn k' x h2; rw [g2] at e2; injection e2 with e2; subst e2
            exact hw.inj k k' b sh sh' h1 h2 (oldAl h1 a1) (oldAl h2 a2)
          | none => exact (one k k' b sh sh' h1 h2 g2).elim
        | none =>
          cases h2 : ρ k' with
          | some x =>
            have e2 := oldn k' x h2; rw [g2] at e2; injection e2 with e2; subst e2
            exact (one k' k b sh' sh h2 h1 g1).elim
          | none =>
            obtain ⟨j, q1, q2, q3⟩ := newInv k _ h1 g1
            obtain ⟨j', q4, q5, q6⟩ := newInv k' _ h2 g2
            have newAl : ∀ j, j < e.new.length → alive (applyM e σ s).2 (s.next + j) → alive (stOf (e.blocks ++ e.new)) (e.blocks.length + j) := by
              intro j hj ⟨o, ho', hd⟩
              rw [getN, if_pos (by omega), show s.next + j - s.next = j by omega, List.getElem?_map, Option.map_eq_some_iff] at ho'
              obtain ⟨o0, q, rfl⟩ := ho'
              refine ⟨o0, ?_, ?_⟩
              · rw [stOf_get, List.getElem?_append_right (by omega), show e.blocks.length + j - e.blocks.length = j by omega]; exact q
              · cases o0 <;> simp [renO, isDead] at hd ⊢
            subst q2; subst q5
            have := r2.wr.inj _ _ b sh sh' q3 q6 (newAl j q1 a1) (newAl j' q4 a2)
            omega
      · intro k hk
        rw [hnext] at hk
        rw [getN, if_neg (by omega)]
        exact hw.fresh k (by omega)

end
end VE

namespace VE
open Go

def idS : Nat → Nat → Sg
  | _, 0 => []
  | i, n + 1 => (i, i) :: idS (i + 1) n

/-- Does a known call name what it looks at alone? -/
def selfM (e : Memo) : Bool :=
  match uL (idS 0 e.blocks.length) e.args e.args with
  | some σ => match uB (stOf e.blocks) σ 0 e.blocks with
    | some σ' => belowS e.blocks.length σ'
    | none => false
  | none => false

/-- What a run came to, against what is said of it. -/
def backM (e : Memo) (v : V) (s1 : St) : Bool :=
  match uV (idS 0 e.blocks.length) e.res v with
  | some σ => match uB s1 σ e.blocks.length e.new with
    | some σ' => belowS (e.blocks.length + e.new.length) σ'
    | none => false
  | none => false

def chkM (c : Orc) (e : Memo) : Bool :=
  match c.call e.blocks.length e.k e.args (stOf e.blocks) with
  | some (v, s1) => selfM e && backM e v s1
  | none => false

theorem idS_mem : ∀ (i n : Nat) (x : Nat × Nat), x ∈ idS i n → x.1 = x.2 ∧ i ≤ x.1 ∧ x.1 < i + n
  | _, 0, x, h => by simp [idS] at h
  | i, n + 1, x, h => by
    simp only [idS] at h
    rcases List.mem_cons.1 h with rfl | h
    · exact ⟨rfl, Nat.le_refl _, by simp⟩
    · obtain ⟨h1, h2, h3⟩ := idS_mem (i + 1) n x h; exact ⟨h1, by omega, by omega⟩

theorem mem_idS : ∀ (i n k : Nat), i ≤ k → k < i + n → (k, k) ∈ idS i n
  | i, 0, k, h1, h2 => by omega
  | i, n + 1, k, h1, h2 => by
    simp only [idS]
    by_cases e : k = i
    · subst e; exact List.mem_cons_self ..
    · exact List.mem_cons_of_mem _ (mem_idS (i + 1) n k (by omega) (by omega))

theorem idS_one (i n : Nat) : OneOne (idS i n) := by
  intro x hx y hy
  obtain ⟨h1, _⟩ := idS_mem _ _ _ hx
  obtain ⟨h2, _⟩ := idS_mem _ _ _ hy
  constructor <;> intro e <;> omega

section
variable {E : Env} {ρ : Rho} {w : World}

theorem below_same {m : Nat} {σ : Sg} (ho : OneOne σ) (hs : ∀ x ∈ idS 0 m, x ∈ σ) {x : Nat × Nat} (hx : x ∈ σ) (hlt : x.1 < m) : x.2 = x.1 := by
  have := (ho (x.1, x.1) (hs _ (mem_idS 0 m x.1 (Nat.zero_le _) (by omega))) x hx).1 rfl
  exact this.symm

theorem valid_of {c : Orc} (hC : COk E c) {e : Memo} (h : chkM c e = true) : Valid E e := by
  unfold chkM at h
  split at h
  · rename_i v s1 hcall
    rw [Bool.and_eq_true] at h
    obtain ⟨hself, hback⟩ := h
    intro ρ w args' ha hw hu
    have hm : (stOf e.blocks).next = e.blocks.length := stOf_next _
    have hn : (stOf (e.blocks ++ e.new)).next = e.blocks.length + e.new.length := by rw [stOf_next]; simp
    -- it names what it looks at alone
    let ρr : Rho := fun k => if k < e.blocks.length then ρ k else none
    have rr : ∀ k x, ρr k = some x → k < e.blocks.length ∧ ρ k = some x := by
      intro k x hk
      simp only [ρr] at hk
      split at hk
      · exact ⟨‹_›, hk⟩
      · simp at hk
    obtain ⟨σ, σ', g1, g2, g3⟩ : ∃ σ σ', uL (idS 0 e.blocks.length) e.args e.args = some σ ∧ uB (stOf e.blocks) σ 0 e.blocks = some σ' ∧ belowS e.blocks.length σ' = true := by
      unfold selfM at hself
      split at hself
      · rename_i σ h1
        split at hself
        · rename_i σ' h2; exact ⟨σ, σ', h1, h2, hself⟩
        · simp at hself
      · simp at hself
    obtain ⟨s1', o1⟩ := uL_sub _ _ g1
    obtain ⟨s2', o2, hB⟩ := uB_ok g2
    have ho : OneOne σ' := o2 (o1 (idS_one _ _))
    have hlt : ∀ x ∈ σ', x.1 < e.blocks.length := by
      intro x hx
      unfold belowS at g3
      rw [List.all_eq_true] at g3
      simpa [Nat.blt_eq] using g3 x hx
    have H : ∀ x ∈ σ', ∀ y, ρ x.2 = some y → ρr x.1 = some y := by
      intro x hx y hy
      have e1 := below_same ho (fun z hz => s2' z (s1' z hz)) hx (hlt x hx)
      simp only [ρr, if_pos (hlt x hx)]
      rw [← e1]; exact hy
    have har : VRelL ρr w e.args args'.toList := uL_rel _ _ g1 (fun x hx => H x (s2' x hx)) ha
    have hwr : WR E ρr (stOf e.blocks) w := by
      refine ⟨?_, fun id b sh h => hw.lt id b sh (rr id _ h).2, fun id id' b sh sh' h1 h2 => hw.inj id id' b sh sh' (rr id _ h1).2 (rr id' _ h2).2, hw.fresh⟩
      intro id b sh o h1 h2
      have h3 := hw.obj id b sh o (rr id _ h1).2 h2
      rw [stOf_get] at h2
      obtain ⟨j, o', σ1, σ2, q1, q2, q3, q4⟩ := hB id o h2
      rw [Nat.zero_add] at q1
      have e1 := below_same ho (fun z hz => s2' z (s1' z hz)) q1 (hlt _ q1)
      simp only at e1; subst e1
      rw [stOf_get, h2] at q2
      injection q2 with q2; subst q2
      exact uO_rel q3 (fun x hx => H x (q4 x hx)) h3
    have hur : Und ρr (stOf e.blocks) s1 := by
      intro id h1 _
      rw [hm] at h1
      simp only [ρr]; rw [if_neg (by omega)]
    obtain ⟨hcal, hcalls⟩ := hC.call hcall har hwr hur (by rw [hm]; exact Nat.le_refl _)
    refine ⟨hcal, hcalls.mono ?_⟩
    intro en w' hen
    cases en with
    | panicked _ => exact hen.elim
    | outgrown => exact hen.elim
    | returned u =>
      obtain ⟨ρ', r1, r2⟩ := hen
      have vk := hC.vk.call (by rw [hm]; exact Nat.le_refl _) hcall
      obtain ⟨τ, τ', b1, b2, b3⟩ : ∃ τ τ', uV (idS 0 e.blocks.length) e.res v = some τ ∧ uB s1 τ e.blocks.length e.new = some τ' ∧ belowS (e.blocks.length + e.new.length) τ' = true := by
        unfold backM at hback
        split at hback
        · rename_i τ h1
          split at hback
          · rename_i τ' h2; exact ⟨τ, τ', h1, h2, hback⟩
          · simp at hback
        · simp at hback
      obtain ⟨t1, p1⟩ := uV_sub _ _ b1
      obtain ⟨t2, p2, hN⟩ := uB_ok b2
      have to : OneOne τ' := p2 (p1 (idS_one _ _))
      have tlt : ∀ x ∈ τ', x.1 < e.blocks.length + e.new.length := by
        intro x hx
        unfold belowS at b3
        rw [List.all_eq_true] at b3
        simpa [Nat.blt_eq] using b3 x hx
      have tsame : ∀ x ∈ τ', x.1 < e.blocks.length → x.2 = x.1 := fun x hx hl => below_same to (fun z hz => t2 z (t1 z hz)) hx hl
      have frs := hwr.fresh
      have keepAll : ∀ (b : Nat) (o : Obj), w.heap[b]? = some o → w'.heap[b]? = some o := by
        intro b o hb
        refine r2.keep b o hb ?_
        intro id sh _ hal
        obtain ⟨o', ho', _⟩ := hal
        rcases Nat.lt_or_ge id (stOf e.blocks).next with h | h
        · rw [hm] at h; exact h
        · rw [frs id h] at ho'; simp at ho'
      have newFresh : ∀ id b sh, ρr id = none → ρ' id = some (b, sh) → w.heap.size ≤ b := by
        intro id b sh g1 g2
        rcases r2.newb id b sh g1 g2 with h | ⟨id0, _, _, ⟨o', ho', _⟩, hl⟩
        · exact h
        · rw [frs id0 (by omega)] at ho'; simp at ho'
      let ρn : Rho := fun k => match ρ k with
        | some x => some x
        | none => if e.blocks.length ≤ k then pullR τ' ρ' k else none
      have oldn : ∀ k x, ρ k = some x → ρn k = some x := fun k x hk => by simp [ρn, hk]
      have undn : ∀ k, e.blocks.length ≤ k → k < e.blocks.length + e.new.length → ρ k = none := fun k h1 h2 => hu k (by rw [hm]; exact h1) (by rw [hn]; exact h2)
      have newInv : ∀ k x, ρ k = none → ρn k = some x → e.blocks.length ≤ k ∧ ∃ j, (k, j) ∈ τ' ∧ ρ' j = some x := by
        intro k x hk hx
        simp only [ρn, hk] at hx
        split at hx
        · rename_i h
          unfold pullR at hx
          rw [Option.bind_eq_some_iff] at hx
          obtain ⟨j, hj, hx⟩ := hx
          exact ⟨h, j, lookS_mem hj, hx⟩
        · simp at hx
      have jge : ∀ k j, (k, j) ∈ τ' → e.blocks.length ≤ k → e.blocks.length ≤ j := by
        intro k j hkj hk
        rcases Nat.lt_or_ge j e.blocks.length with h | h
        · have := (to (j, j) (t2 _ (t1 _ (mem_idS 0 _ j (Nat.zero_le _) (by omega)))) (k, j) hkj).2 rfl
          simp at this; omega
        · exact h
      have HN : ∀ x ∈ τ', ∀ y, ρ' x.2 = some y → ρn x.1 = some y := by
        intro x hx y hy
        rcases Nat.lt_or_ge x.1 e.blocks.length with h | h
        · have e1 := tsame x hx h
          rw [e1] at hy
          cases hr : ρr x.1 with
          | none => have := (r2.new x.1 y hr hy).1; rw [hm] at this; omega
          | some z =>
            have := r2.ext _ _ hr; rw [hy] at this; injection this with this; subst this
            exact oldn _ _ (rr _ _ hr).2
        · have h0 := undn x.1 h (tlt x hx)
          simp only [ρn, h0, if_pos h]
          exact pull_H to x hx y hy
      have newAl : ∀ k j, (k, j) ∈ τ' → e.blocks.length ≤ k → alive (stOf (e.blocks ++ e.new)) k → alive s1 j := by
        intro k j hkj hk ⟨o, ho', hd⟩
        rw [stOf_get, List.getElem?_append_right hk] at ho'
        obtain ⟨j', o', σ1, σ2, q1, q2, q3, _⟩ := hN _ o ho'
        rw [show e.blocks.length + (k - e.blocks.length) = k by omega] at q1
        have : j' = j := (to (k, j') q1 (k, j) hkj).1 rfl
        subst this
        refine ⟨o', q2, ?_⟩
        unfold uO at q3
        split at q3
        · rfl
        · rfl
        · simp at q3
      have oldJ : ∀ k j x, (k, j) ∈ τ' → e.blocks.length ≤ k → ρ' j = some x → ρr j = none := by
        intro k j x h1 h2 _
        have := jge k j h1 h2
        simp only [ρr]; rw [if_neg (by omega)]
      refine ⟨ρn, uV_rel _ _ b1 (fun x hx => HN x (t2 x hx)) r1, oldn, ?_, ?_, r2.sz, r2.size, fun b o hb _ => keepAll b o hb, r2.loops, ?_, r2.oo⟩
      · intro k x g1 g2
        obtain ⟨q1, j, q2, _⟩ := newInv k x g1 g2
        have := tlt _ q2
        rw [hm, hn]; exact ⟨q1, this⟩
      · intro k b sh g1 g2
        obtain ⟨q1, j, q2, q3⟩ := newInv k _ g1 g2
        exact .inl (newFresh j b sh (oldJ k j _ q2 q1 q3) q3)
      · refine ⟨?_, ?_, ?_, ?_⟩
        · intro k b sh o g1 g2
          rw [stOf_get] at g2
          rcases Nat.lt_or_ge k e.blocks.length with hk | hk
          · rw [List.getElem?_append_left hk] at g2
            cases h0 : ρ k with
            | none => obtain ⟨q1, _⟩ := newInv k _ h0 g1; omega
            | some x =>
              have := oldn k x h0; rw [g1] at this; injection this with this; subst this
              exact (hw.obj k b sh o h0 (by rw [stOf_get]; exact g2)).mono oldn r2.sz fun o' h => keepAll b o' h
          · rw [List.getElem?_append_right hk] at g2
            have hk2 : k < e.blocks.length + e.new.length := by
              have := lt_of_get g2; omega
            obtain ⟨q1, j, q2, q3⟩ := newInv k _ (undn k hk hk2) g1
            obtain ⟨j', o', σ1, σ2, n1, n2, n3, n4⟩ := hN _ o g2
            rw [show e.blocks.length + (k - e.blocks.length) = k by omega] at n1
            have : j' = j := (to (k, j') n1 (k, j) q2).1 rfl
            subst this
            exact uO_rel n3 (fun x hx => HN x (n4 x hx)) (r2.wr.obj j' b sh o' q3 n2)
        · intro k b sh g1
          cases h0 : ρ k with
          | some x =>
            have := oldn k x h0; rw [g1] at this; injection this with this; subst this
            have := hw.lt k b sh h0; have := r2.size; omega
          | none =>
            obtain ⟨_, j, _, q3⟩ := newInv k _ h0 g1
            exact r2.wr.lt j b sh q3
        · have one : ∀ k k' b sh sh', ρ k = some (b, sh) → ρ k' = none → ρn k' = some (b, sh') → False := by
            intro k k' b sh sh' g1 g2 g3
            obtain ⟨q1, j, q2, q3⟩ := newInv k' _ g2 g3
            have := newFresh j b sh' (oldJ k' j _ q2 q1 q3) q3
            have := hw.lt k b sh g1; omega
          have oldAl : ∀ {k x}, ρ k = some x → alive (stOf (e.blocks ++ e.new)) k → alive (stOf e.blocks) k := by
            intro k x hx ⟨o, ho', hd⟩
            rw [stOf_get] at ho'
            rcases Nat.lt_or_ge k e.blocks.length with hk | hk
            · rw [List.getElem?_append_left hk] at ho'; exact ⟨o, by rw [stOf_get]; exact ho', hd⟩
            · have h2 : k < e.blocks.length + e.new.length := by
                rw [List.getElem?_append_right hk] at ho'
                have := lt_of_get ho'; omega
              have := undn k hk h2; rw [hx] at this; simp at this
          intro k k' b sh sh' g1 g2 a1 a2
          cases h1 : ρ k with
          | some x =>
            have e1 := oldn k x h1; rw [g1] at e1; injection e1 with e1; subst e1
            cases h2 : ρ k' with
            | some x =>
              have e2 := oldn k' x h2; rw [g2] at e2; injection e2 with e2; subst e2
              exact hw.inj k k' b sh sh' h1 h2 (oldAl h1 a1) (oldAl h2 a2)
            | none => exact (one k k' b sh sh' h1 h2 g2).elim
          | none =>
            cases h2 : ρ k' with
            | some x =>
              have e2 := oldn k' x h2; rw [g2] at e2; injection e2 with e2; subst e2
              exact (one k' k b sh' sh h2 h1 g1).elim
            | none =>
              obtain ⟨q1, j, q2, q3⟩ := newInv k _ h1 g1
              obtain ⟨q4, j', q5, q6⟩ := newInv k' _ h2 g2
              have := r2.wr.inj j j' b sh sh' q3 q6 (newAl k j q2 q1 a1) (newAl k' j' q5 q4 a2)
              exact (to (k, j) q2 (k', j') q5).2 this
        · intro k hk
          rw [hn] at hk
          rw [stOf_get, List.getElem?_eq_none (by simp; omega)]
  · simp at h

end
end VE

namespace VE
open Go

/-! ## The evaluator that knows calls -/

def tryM (args : List V) (s : St) : List Memo → Option (V × St)
  | [] => none
  | e :: r => match hitM e args s with
    | some σ => some (applyM e σ s)
    | none => tryM args s r

def memoM (M : Tr (List Memo)) (k : Nat) (args : List V) (s : St) : Option (V × St) :=
  match M.get k with
  | some l => tryM args s l
  | none => none

def MemoOk (E : Env) (M : Tr (List Memo)) : Prop := ∀ k l, M.get k = some l → ∀ e ∈ l, e.k = k ∧ Valid E e

theorem tryM_some {args : List V} {s : St} : ∀ {l : List Memo} {r : V × St}, tryM args s l = some r → ∃ e σ, e ∈ l ∧ hitM e args s = some σ ∧ r = applyM e σ s
  | [], r, h => by simp [tryM] at h
  | e :: l, r, h => by
    simp only [tryM] at h
    split at h
    · rename_i σ hσ; injection h with h; exact ⟨e, σ, List.mem_cons_self .., hσ, h.symm⟩
    · obtain ⟨e', σ, h1, h2, h3⟩ := tryM_some h; exact ⟨e', σ, List.mem_cons_of_mem _ h1, h2, h3⟩

theorem memoM_some {M : Tr (List Memo)} {k : Nat} {args : List V} {s : St} {r : V × St} (h : memoM M k args s = some r) : ∃ l e σ, M.get k = some l ∧ e ∈ l ∧ hitM e args s = some σ ∧ r = applyM e σ s := by
  unfold memoM at h
  split at h
  · rename_i l hl; obtain ⟨e, σ, h1, h2, h3⟩ := tryM_some h; exact ⟨l, e, σ, hl, h1, h2, h3⟩
  · simp at h

theorem VK.layL {lo : Nat} : ∀ (l : List VO) {s : St}, lo ≤ s.next → VK lo s (layL s l)
  | [], s, _ => .refl _ _
  | o :: r, s, h => by
    have k : VK lo s (s.alloc o) := .alloc h o
    exact k.trans (VK.layL r (Nat.le_trans h k.next))

theorem VK.memoM {M : Tr (List Memo)} {lo k : Nat} {args : List V} {s s' : St} {v : V} (hl : lo ≤ s.next) (h : memoM M k args s = some (v, s')) : VK lo s s' := by
  obtain ⟨_, e, σ, _, _, _, h⟩ := memoM_some h
  simp only [applyM, Prod.mk.injEq] at h
  rw [h.2]; exact .layL _ hl

/-- What the program's functions come to: n: so deep. -/
def orcM (T : Tr VFn) (M : Tr (List Memo)) : Nat → Orc
  | 0 => ⟨fun _ _ _ _ => none, fun _ _ _ _ _ => none, fun _ _ _ _ _ => none, fun _ _ _ _ => none⟩
  | n + 1 =>
    { call := fun lo k args s =>
        match memoM M k args s with
        | some r => some r
        | none =>
        match T.get k with
        | some f =>
          if args.length = f.params then
            match X (orcM T M n) lo f.body (argsV 0 args) s with
            | some (.nrm, fr, s') => (resL fr s' f.results).map fun vs => (one vs, s')
            | some (.ret, fr, s') => (resL fr s' f.results).map fun vs => (one vs, s')
            | _ => none
          else none
        | none => none
      loop := fun lo keep b fr s =>
        match X (orcM T M n) lo b fr s with
        | some (.nrm, fr', s') => (orcM T M n).loop lo keep b (keepV fr' keep) s'
        | r => r
      jump := fun lo b cur fr s =>
        match X (orcM T M n) lo cur fr s with
        | some (.goto l, fr', s') =>
          match findLabelV b l with
          | some rest => (orcM T M n).jump lo b rest fr' s'
          | none => some (.goto l, fr', s')
        | r => r
      round := fun lo id args s =>
        if id < lo then none else
        match s.heap.get id with
        | some (.loop _ _ fr ps assign body) =>
          if args.length = ps.length then
            match X (orcM T M n) lo assign (setL fr (ps.zip args)) s with
            | some (.nrm, fr1, s1) =>
              match s1.heap.get id with
              | some (.loop .ready pend fr0 ps0 a0 b0) =>
                match X (orcM T M n) lo body fr1 (s1.put id (.loop .busy pend fr0 ps0 a0 b0)) with
                | some (x, _, s2) =>
                  match s2.heap.get id with
                  | some (.loop _ _ fr3 ps3 a3 b3) =>
                    (match x with
                    | .nrm => some (.b true, s2.put id (.loop .ready none fr3 ps3 a3 b3))
                    | x => some (.b false, s2.put id (.loop .done (some x) fr3 ps3 a3 b3)))
                  | _ => none
                | none => none
              | _ => none
            | _ => none
          else none
        | _ => none }


theorem VKOrc.orcM (T : Tr VFn) (M : Tr (List Memo)) : ∀ n, VKOrc (orcM T M n) := by
  intro n
  induction n with
  | zero => exact ⟨fun _ h => by simp [VE.orcM] at h, fun _ h => by simp [VE.orcM] at h, fun _ h => by simp [VE.orcM] at h, fun _ h => by simp [VE.orcM] at h⟩
  | succ n ih =>
    refine ⟨?_, ?_, ?_, ?_⟩
    · intro lo k args s v s' hl h
      simp only [VE.orcM] at h
      split at h
      · rename_i r hr; injection h with h; subst h; exact VK.memoM hl hr
      split at h
      · split at h
        · split at h
          · rename_i h1; rw [Option.map_eq_some_iff] at h; obtain ⟨vs, _, h2⟩ := h; injection h2 with _ h2; subst h2; exact .X ih _ hl h1
          · rename_i h1; rw [Option.map_eq_some_iff] at h; obtain ⟨vs, _, h2⟩ := h; injection h2 with _ h2; subst h2; exact .X ih _ hl h1
          · simp at h
        · simp at h
      · simp at h
    · intro lo kp b fr s x fr' s' hl h
      simp only [VE.orcM] at h
      split at h
      · rename_i h1; have k1 := VK.X ih _ hl h1; exact k1.trans (ih.loop (Nat.le_trans hl k1.next) h)
      · exact .X ih _ hl h
    · intro lo b c fr s x fr' s' hl h
      simp only [VE.orcM] at h
      split at h
      · rename_i h1
        have k1 := VK.X ih _ hl h1
        split at h
        · exact k1.trans (ih.jump (Nat.le_trans hl k1.next) h)
        · simp at h; obtain ⟨_, _, rfl⟩ := h; exact k1
      · exact .X ih _ hl h
    · intro lo id args s v s' hl h
      simp only [VE.orcM] at h
      split at h
      · simp at h
      · rename_i hlo
        split at h
        · split at h
          · split at h
            · rename_i h1
              have k1 := VK.X ih _ hl h1
              split at h
              · rename_i hg
                split at h
                · rename_i h2
                  have k2 := fun o => VK.put o (Nat.le_of_not_lt hlo) ⟨_, hg, rfl⟩
                  have k3 := VK.X ih _ (Nat.le_trans hl (k1.trans (k2 _)).next) h2
                  split at h
                  · rename_i hg2
                    split at h <;> (simp at h; obtain ⟨_, rfl⟩ := h; exact ((k1.trans (k2 _)).trans k3).trans (.put _ (by omega) ⟨_, hg2, rfl⟩))
                  · simp at h
                · simp at h
              · simp at h
            · simp at h
          · simp at h
        · simp at h


section
variable {E : Env} {lo : Nat} {ρ : Rho} {s s' : St} {w : World} {v : V} {fr : Fr} {a : Act} {c : Orc}

theorem orcM_ok (hE : EnvOk E) {T : Tr VFn} (hT : TabOk E T) {M : Tr (List Memo)} (hM : MemoOk E M) : ∀ n, COk E (orcM T M n)
  | 0 => ⟨VKOrc.orcM T M 0, fun h => by simp [orcM] at h, fun h => by simp [orcM] at h, fun h => by simp [orcM] at h, fun h => by simp [orcM] at h⟩
  | n + 1 => by
    have ih := orcM_ok hE hT hM n
    refine ⟨VKOrc.orcM T M (n + 1), ?_, ?_, ?_, ?_⟩
    · intro lo k args s s' v ρ w args' h ha hw hu hlo
      simp only [orcM] at h
      split at h
      · rename_i r hr
        injection h with h; subst h
        obtain ⟨l, e, σ, m1, m2, m3, m4⟩ := memoM_some hr
        obtain ⟨rfl, hv⟩ := hM k l m1 e m2
        have e1 : v = (applyM e σ s).1 := by rw [← m4]
        have e2 : s' = (applyM e σ s).2 := by rw [← m4]
        subst e1; subst e2
        exact hit_ok hv m3 ha hw hu hlo
      split at h
      · rename_i f hk
        split at h
        · rename_i hl
          split at h
          · rename_i fr' s1 h1
            simp only [Option.map_eq_some_iff] at h
            obtain ⟨vs, hr, h⟩ := h
            injection h with h1' h2'; subst h1'; subst h2'
            exact call_ok hE hT ih hk hl h1 (.inl rfl) hr ha hw hu hlo
          · rename_i fr' s1 h1
            simp only [Option.map_eq_some_iff] at h
            obtain ⟨vs, hr, h⟩ := h
            injection h with h1' h2'; subst h1'; subst h2'
            exact call_ok hE hT ih hk hl h1 (.inr rfl) hr ha hw hu hlo
          · simp at h
        · simp at h
      · simp at h
    · intro lo id args s s' v ρ w args' b sh h ha hw hu hlo hρ
      simp only [orcM] at h
      split at h
      · simp at h
      · rename_i hlid
        split at h
        · rename_i st0 pend0 fr0 ps x y h0
          split at h
          · rename_i hl
            split at h
            · rename_i fr1 s1 h1
              split at h
              · rename_i pend1 frb psb xb yb h2
                split at h
                · rename_i q fr2 s2 h3
                  split at h
                  · rename_i st3 pend3 fr3 ps3 x3 y3 h4
                    have hfin : ∃ o r, s' = s2.put id o ∧ v = .b r ∧ ((q = .nrm ∧ o = .loop .ready none fr3 ps3 x3 y3 ∧ r = true) ∨ (q ≠ .nrm ∧ o = .loop .done (some q) fr3 ps3 x3 y3 ∧ r = false)) := by
                      cases q <;> simp only [Option.some.injEq, Prod.mk.injEq] at h <;> obtain ⟨rfl, rfl⟩ := h
                      · exact ⟨_, _, rfl, rfl, .inl ⟨rfl, rfl, rfl⟩⟩
                      · exact ⟨_, _, rfl, rfl, .inr ⟨by simp, rfl, rfl⟩⟩
                      · exact ⟨_, _, rfl, rfl, .inr ⟨by simp, rfl, rfl⟩⟩
                      · exact ⟨_, _, rfl, rfl, .inr ⟨by simp, rfl, rfl⟩⟩
                    obtain ⟨o, r, rfl, rfl, ho⟩ := hfin
                    exact round_ok hE ih (Nat.le_of_not_lt hlid) h0 hl h1 h2 h3 h4 ho ha hw hu hlo hρ
                  · simp at h
                · simp at h
              · simp at h
            · simp at h
          · simp at h
        · simp at h
    · intro lo keep y fr fr' s s' x ρ w cb nt a ro h hy hn hF hw hu hlo hro
      simp only [orcM] at h
      refine loopIn_once ?_
      split at h
      · rename_i fr1 s1 h1
        have k1 := VK.X ih.vk _ hlo h1
        have k2 := ih.vk.loop (Nat.le_trans hlo k1.next) h
        refine wpIn_mono (X_ok hE ih hy h1 hn hF hw (hu.fst k2) hlo hro) ?_
        rintro e a1 w1 ⟨rfl, ⟨ρ1, g1, g2, ds, g3, g4, g5⟩, g6⟩
        refine LoopIn.mono (ih.loop h hy (by rw [g6]; exact hn) (g1.keepV keep) g2.wr (hu.snd k1 g2) (Nat.le_trans hlo k1.next) (hro.keep g2.loops)) ?_
        rintro e a2 w2 ⟨rfl, q⟩
        exact ⟨rfl, XEnd.trans (fr1 := fr1) hw hu k1 k2 g2 g3 g4 g5 g6 q⟩
      · rename_i r hr
        refine wpIn_mono (X_ok hE ih hy h hn hF hw hu hlo hro) ?_
        rintro e a1 w1 ⟨rfl, q⟩
        cases x with
        | nrm => exact (hr _ _ h).elim
        | exit id => exact ⟨rfl, q⟩
        | goto l => exact ⟨rfl, q⟩
        | ret => exact ⟨rfl, q⟩
    · intro lo y z fr fr' s s' x ρ w cb cur nt a ro h hy hz hn hF hw hu hlo hro
      simp only [orcM] at h
      refine scopeIn_once ?_
      split at h
      · rename_i l fr1 s1 h1
        have k1 := VK.X ih.vk _ hlo h1
        split at h
        · rename_i rest hrest
          have k2 := ih.vk.jump (Nat.le_trans hlo k1.next) h
          obtain ⟨rc, f1, f2⟩ := findLabel_rel hy _ _ hrest
          refine wpIn_mono (X_ok hE ih hz h1 hn hF hw (hu.fst k2) hlo hro) ?_
          rintro e a1 w1 ⟨rfl, ⟨ρ1, g1, g2, ds, g3, g4, g5⟩, g6⟩
          simp only [exitV, scopeThen, f1]
          refine ScopeIn.mono (ih.jump h hy f2 (by rw [g6]; exact hn) g1 g2.wr (hu.snd k1 g2) (Nat.le_trans hlo k1.next) (hro.keep g2.loops)) ?_
          rintro e a2 w2 ⟨rfl, q⟩
          exact ⟨rfl, XEnd.trans (fr1 := fr1) hw hu k1 k2 g2 g3 g4 g5 g6 q⟩
        · rename_i hrest
          simp only [Option.some.injEq, Prod.mk.injEq] at h
          obtain ⟨rfl, rfl, rfl⟩ := h
          refine wpIn_mono (X_ok hE ih hz h1 hn hF hw hu hlo hro) ?_
          rintro e a1 w1 ⟨rfl, q⟩
          simp only [exitV, scopeThen, findLabel_none hy _ hrest]
          exact ⟨rfl, q⟩
      · rename_i r hr
        refine wpIn_mono (X_ok hE ih hz h hn hF hw hu hlo hro) ?_
        rintro e a1 w1 ⟨rfl, q⟩
        cases x with
        | goto l => exact (hr _ _ _ h).elim
        | exit id => exact ⟨rfl, q⟩
        | nrm => exact ⟨rfl, q⟩
        | ret => exact ⟨rfl, q⟩


end
end VE

