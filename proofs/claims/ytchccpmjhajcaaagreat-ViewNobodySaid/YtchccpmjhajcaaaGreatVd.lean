/- Code that the evaluator runs runs so in the model, whatever order is drawn. -/
import Derived.Test.YtchccpmjhajcaaaGreatVc
import Derived.RangeFuncIn
import Derived.RangeFuncLeaves
import Derived.OrdersIn
set_option linter.unusedVariables false
set_option linter.unusedSimpArgs false
set_option linter.unusedSectionVars false
namespace VE
open Go

/-! ## Code: what is asked of what calls, loops, jumps -/

def Wd (ro : Option Nat) : Fence := { Fence.wide with round := ro }

theorem room_wd (ro : Option Nat) (n : Nat) : (Wd ro).room n := fun d h => by simp [Wd, Fence.wide] at h

theorem callsIn_wd {ro ro' : Option Nat} {n m : Nat} {P : Program} {f : FuncId} {args : Array Value} {w : World} {R : Ending → World → Prop} (h : CallsIn (Wd ro) n P f args w R) : CallsIn (Wd ro') m P f args w R :=
  ⟨trivial, fun cs _ => h.2 cs (room_wd _ _)⟩

theorem roundIn_wd {ro ro' : Option Nat} {n m : Nat} {P : Program} {l : Nat} {f : FuncId} {tmps : Array Value} {x y : Code} {w : World} {R : Ending → World → Prop} (h : RoundIn (Wd ro) n P l f tmps x y w R) : RoundIn (Wd ro') m P l f tmps x y w R :=
  ⟨trivial, fun c cs _ => h.2 c cs (room_wd _ _)⟩

/-- A function that has a body. -/
def Callee (P : Program) (k : FuncId) : Prop := ∃ fn, P.funcs[k]? = some fn ∧ fn.name ≠ "runtime.NumGoroutine" ∧ fn.body ≠ none

def RetPost (E : Env) (lo : Nat) (ρ : Rho) (s : St) (w : World) (v : V) (s' : St) : Ending → World → Prop
  | .returned v', w' => ∃ ρ', VRel ρ' w' v v' ∧ Stp E lo ρ s w ρ' s' w'
  | _, _ => False

/-- A mark among the deferred calls: of a range over a function: no call has been deferred. -/
def Marked (ρ : Rho) (w0 w : World) (d : Deferred) : Prop := ∃ r, d = { target := .collected r, args := #[] } ∧ w0.heap.size ≤ r ∧ w.heap[r]? = some (.deferred (some [])) ∧ ∀ id sh, ρ id ≠ some (r, sh)

def exitV : VX → Exit
  | .nrm => .normal
  | .exit id => .exit id
  | .goto l => .goto l
  | .ret => .ret

/-- What code comes to. -/
structure XEnd (E : Env) (lo : Nat) (ρ : Rho) (s : St) (w : World) (a : Act) (fr' : Fr) (s' : St) (a' : Act) (w' : World) : Prop where
  res : ∃ ρ', FRel ρ' w' fr' a'.tmps ∧ Stp E lo ρ s w ρ' s' w' ∧ ∃ ds, a'.defers = ds ++ a.defers ∧ ds.Pairwise (fun x y => x.target ≠ y.target) ∧ ∀ d ∈ ds, Marked ρ' w w' d
  size : a'.tmps.size = a.tmps.size

def XPost (E : Env) (lo : Nat) (ρ : Rho) (s : St) (w : World) (a : Act) (x : VX) (fr' : Fr) (s' : St) : Exit → Act → World → Prop :=
  fun e a' w' => e = exitV x ∧ XEnd E lo ρ s w a fr' s' a' w'

/-- In a round: its loop's record is there. -/
def RoOk (ro : Option Nat) (w : World) : Prop := ∀ l, ro = some l → ∃ L : Loop, w.heap[l]? = some (.loop L)

def LoopIn (F : Fence) (P : Program) (c : Code) (Q : Exit → Act → World → Prop) (a : Act) (w : World) : Prop :=
  ∀ (b : Frame) (k : List Item) (cs : List Frame), b.roundOf = F.round → F.fn b.fn → F.room (cs.length + 1 + 0) →
    ∃ e a' w', Q e a' w' ∧ ArrivesIn (Machine.fenced P F) P (lone (b.atR a (.code c :: .inLoop c :: k)) cs w) b k cs e a' w'

def ScopeIn (F : Fence) (P : Program) (c cur : Code) (Q : Exit → Act → World → Prop) (a : Act) (w : World) : Prop :=
  ∀ (b : Frame) (k : List Item) (cs : List Frame), b.roundOf = F.round → F.fn b.fn → F.room (cs.length + 1 + 0) →
    ∃ e a' w', Q e a' w' ∧ ArrivesIn (Machine.fenced P F) P (lone (b.atR a (.code cur :: .inScope c :: k)) cs w) b k cs e a' w'

structure COk (E : Env) (c : Orc) : Prop where
  vk : VKOrc c
  call : ∀ {lo k : Nat} {args : List V} {s s' : St} {v : V} {ρ : Rho} {w : World} {args' : Array Value}, c.call lo k args s = some (v, s') → VRelL ρ w args args'.toList → WR E ρ s w → Und ρ s s' → lo ≤ s.next →
    Callee E.P k ∧ CallsIn (Wd none) 0 E.P k args' w (RetPost E lo ρ s w v s')
  round : ∀ {lo id : Nat} {args : List V} {s s' : St} {v : V} {ρ : Rho} {w : World} {args' : Array Value} {b sh : Nat}, c.round lo id args s = some (v, s') → VRelL ρ w args args'.toList → WR E ρ s w → Und ρ s s' → lo ≤ s.next →
    ρ id = some (b, sh) → ∃ L : Loop, w.heap[b]? = some (.loop L) ∧ args'.size = L.params.size ∧
      RoundIn (Wd none) 0 E.P b L.fn ((L.params.zip args').foldl (fun tmps (x : Tmp × Value) => tmps.setIfInBounds x.1 x.2) L.tmps) L.assign L.body w (RetPost E lo ρ s w v s')
  loop : ∀ {lo : Nat} {keep : List Nat} {y : VC} {fr fr' : Fr} {s s' : St} {x : VX} {ρ : Rho} {w : World} {cb : Code} {nt : Nat} {a : Act} {ro : Option Nat}, c.loop lo keep y fr s = some (x, fr', s') →
    CRel E.P E.eqs E.keys nt cb y → nt ≤ a.tmps.size → FRel ρ w fr a.tmps → WR E ρ s w → Und ρ s s' → lo ≤ s.next → RoOk ro w → LoopIn (Wd ro) E.P cb (XPost E lo ρ s w a x fr' s') a w
  jump : ∀ {lo : Nat} {y z : VC} {fr fr' : Fr} {s s' : St} {x : VX} {ρ : Rho} {w : World} {cb cur : Code} {nt : Nat} {a : Act} {ro : Option Nat}, c.jump lo y z fr s = some (x, fr', s') →
    CRel E.P E.eqs E.keys nt cb y → CRel E.P E.eqs E.keys nt cur z → nt ≤ a.tmps.size → FRel ρ w fr a.tmps → WR E ρ s w → Und ρ s s' → lo ≤ s.next → RoOk ro w → ScopeIn (Wd ro) E.P cb cur (XPost E lo ρ s w a x fr' s') a w

section
variable {E : Env} {lo : Nat} {ρ : Rho} {s s' : St} {w : World} {v : V} {fr : Fr} {a : Act} {c : Orc}

/-! ### One operation in a region -/

theorem compOp_defer {P : Program} {eqs keys : List (TypeId × List CK)} {o : Oper} {d : Call} (h : o.op = .defer d) : compOp P eqs keys o = .die := by
  unfold compOp; rw [h]

theorem semAt_comp {P : Program} {eqs keys : List (TypeId × List CK)} {o : Oper} (h : compOp P eqs keys o ≠ .die) (ro : Option Nat) (f : Operand → Value) : o.semAt ro f = execOp f o := by
  unfold Oper.semAt
  split
  · rename_i l d hd; exact absurd (compOp_defer hd) h
  · rfl

theorem comp_call {P : Program} {eqs keys : List (TypeId × List CK)} {o : Oper} {f : Operand} {l : List Operand} (h : compOp P eqs keys o = .call f l) :
    ∃ cc, o.op = .call cc ∧ cc.callee = .value f ∧ cc.args.toList = l := by
  unfold compOp at h
  split at h
  case h_29 =>
    rename_i cc e
    split at h
    · rename_i g hg; injection h with h1 h2; subst h1; exact ⟨cc, e, hg, h2⟩
    · simp at h
    · (repeat' split at h) <;> simp at h
  all_goals first
    | (simp at h; done)
    | (exfalso; (repeat' split at h) <;> first | (simp at h; done) | (dsimp only at h; (repeat' split at h) <;> simp at h))

/-- A call is carried out: what is asked of the oracle. -/
theorem callV_ok (hC : COk E c) {fv : V} {f' : Value} {vs : List V} {args' : Array Value} (hw : WR E ρ s w) (hu : Und ρ s s') (hlo : lo ≤ s.next) (hf : VRel ρ w fv f') (hv : VRelL ρ w vs args'.toList)
    (h : callV c lo fv vs s = some (v, s')) :
    (∃ k args'', (do let d ← Deferred.ofValue f' args'; invoke d.target d.args : Sem Next).run E.P w = .ok (.enter k args'') w ∧ CallsIn (Wd none) 0 E.P k args'' w (RetPost E lo ρ s w v s')) ∨
    ∃ b fn tmps x y, (do let d ← Deferred.ofValue f' args'; invoke d.target d.args : Sem Next).run E.P w = .ok (.round b fn tmps x y) w ∧ RoundIn (Wd none) 0 E.P b fn tmps x y w (RetPost E lo ρ s w v s') := by
  unfold callV at h
  split at h
  · rename_i k first captured
    obtain ⟨a1, c1, h1, h2, rfl⟩ := hf.inv_fn
    obtain ⟨⟨fn, g1, g2, g3⟩, hcall⟩ := hC.call (args' := a1 ++ args' ++ c1) h (by simpa using (h1.append hv).append h2) hw hu hlo
    refine .inl ⟨k, _, ?_, hcall⟩
    simp [Deferred.ofValue, invoke, callFunc, g1, g2, g3]
  · rename_i id
    obtain ⟨b, sh, hρ, rfl⟩ := hf.inv_yl
    obtain ⟨L, l1, l2, hr⟩ := hC.round h hv hw hu hlo hρ
    refine .inr ⟨b, _, _, _, _, ?_, hr⟩
    have hg := getObj_run (P := E.P) l1 rfl
    simp [Deferred.ofValue, invoke, Instr.yield, Instr.getLoop, hg, l2]
  · simp at h

theorem op_wp (hE : EnvOk E) (hC : COk E c) (hw : WR E ρ s w) (hF : FRel ρ w fr a.tmps) (hu : Und ρ s s') (hlo : lo ≤ s.next) {o : Oper} (h : opV c lo fr (compOp E.P E.eqs E.keys o) s = some (v, s'))
    {ro : Option Nat} {K : Act → World → Prop} {Q : Exit → Act → World → Prop} (hK : ∀ ρ' w' v', VRel ρ' w' v v' → Stp E lo ρ s w ρ' s' w' → K (a.put o.dst v') w') : o.wpIn (Wd ro) 0 E.P a w K Q := by
  refine ⟨fun _ _ => trivial, ?_⟩
  have hnd : compOp E.P E.eqs E.keys o ≠ .die := fun e => by rw [e] at h; simp [opV] at h
  rw [semAt_comp hnd]
  by_cases hc : ∃ f l, compOp E.P E.eqs E.keys o = .call f l
  · obtain ⟨f, l, hc⟩ := hc
    rw [hc] at h
    simp only [opV] at h
    split at h
    · rename_i fv vs hf hv
      obtain ⟨cc, e1, e2, e3⟩ := comp_call hc
      have ee : execOp a.eval o = (do let d ← Deferred.ofValue (a.eval f) (cc.args.map a.eval); invoke d.target d.args) := by
        simp only [execOp, e1, resolve, e2]
      rw [ee]
      rcases callV_ok (args' := cc.args.map a.eval) hC hw hu hlo (evO_rel hF hf) (by rw [Array.toList_map, e3]; exact evL_rel hF hv) h with ⟨k, args'', r1, r2⟩ | ⟨b, fn, tmps, x, y, r1, r2⟩
      · rw [r1]
        refine ⟨fun h => by simp [Wd, Fence.wide] at h, (callsIn_wd r2).mono ?_⟩
        intro e w'' he
        cases e with
        | returned u => obtain ⟨ρ', q1, q2⟩ := he; exact hK ρ' w'' u q1 q2
        | panicked _ => exact he.elim
        | outgrown => exact he.elim
      · rw [r1]
        refine ⟨fun h => by simp [Wd, Fence.wide] at h, (roundIn_wd r2).mono ?_⟩
        intro e w'' he
        cases e with
        | returned u => obtain ⟨ρ', q1, q2⟩ := he; exact hK ρ' w'' u q1 q2
        | panicked _ => exact he.elim
        | outgrown => exact he.elim
    · simp at h
  · obtain ⟨ρ', w', r, v', h1, h2, h3, h4⟩ := op_ok hE hw hF hu hlo rfl (fun f l e => hc ⟨f, l, e⟩) h
    rw [h1]
    rcases h2 with rfl | ⟨rfl, rfl⟩
    · exact hK ρ' w' v' h3 h4
    · exact hK ρ' w' undef h3 h4

end
end VE

namespace VE
open Go

section
variable {E : Env} {lo : Nat} {ρ : Rho} {s s' : St} {w : World} {v : V} {fr : Fr} {a : Act} {c : Orc}

theorem wanted_ok {ops : Array Oper} {o : Oper} {g : Option (Nat × Bool)} (hg : guardV ops o = some g) (hF : FRel ρ w fr a.tmps) {b : Bool} (h : wantedV fr g = some b) : Region.wanted o (yielded ops a.tmps) = b := by
  unfold guardV at hg
  unfold Region.wanted
  split at hg
  · rename_i e
    injection hg with hg; subst hg
    simp [wantedV] at h; subst h
    rw [e]
  · rename_i j want e
    rw [e]
    split at hg
    · rename_i t ht
      injection hg with hg; subst hg
      simp only [wantedV] at h
      simp only [yielded, ht, Option.bind_some]
      split at h
      · rename_i x hx
        injection h with h; subst h
        obtain ⟨v', h1, h2⟩ := hF _ _ hx
        rw [h2.inv_b] at h1
        rw [h1]
        cases x <;> cases want <;> rfl
      · rename_i hx
        injection h with h; subst h
        obtain ⟨v', h1, h2⟩ := hF _ _ hx
        obtain ⟨cs, _, rfl⟩ := h2.inv_tu
        rw [h1]
        rfl
      · simp at h
    · simp at hg

theorem FRel.put {ρ : Rho} {w : World} {fr : Fr} {a : Act} (hF : FRel ρ w fr a.tmps) {dst : Option Nat} (hd : ∀ d, dst = some d → d < a.tmps.size) {v : V} {v' : Value} (hv : VRel ρ w v v') :
    FRel ρ w (putD fr dst (some v)) (a.put dst v').tmps := by
  intro t u hu
  cases dst with
  | none => exact hF t u hu
  | some d =>
    have := hd d rfl
    simp only [putD] at hu
    rw [Tr.get_set] at hu
    simp only [Act.put]
    split at hu
    · rename_i e; subst e
      injection hu with hu; subst hu
      exact ⟨v', by simp [this], hv⟩
    · rename_i e
      obtain ⟨u', h1, h2⟩ := hF t u hu
      exact ⟨u', by rw [Array.getElem?_setIfInBounds_ne (by omega)]; exact h1, h2⟩

theorem size_put (a : Act) (dst : Option Nat) (v : Value) : (a.put dst v).tmps.size = a.tmps.size := by
  cases dst <;> simp [Act.put]

theorem defers_put (a : Act) (dst : Option Nat) (v : Value) : (a.put dst v).defers = a.defers := by
  cases dst <;> simp [Act.put]

theorem ops_wp (hE : EnvOk E) (hC : COk E c) {ops : Array Oper} {nt : Nat} {ro : Option Nat} {Q : Exit → Act → World → Prop} {fr' : Fr} : ∀ (os : List Oper) (l : List VOper) (i : Nat) (fr : Fr) (s : St) (a : Act) (w : World) (ρ : Rho),
    ops.toList.drop i = os → compOps E.P E.eqs E.keys nt ops os = some l → opsV c lo l fr s = some (fr', s') → FRel ρ w fr a.tmps → nt ≤ a.tmps.size → WR E ρ s w → Und ρ s s' → lo ≤ s.next →
    (∀ ρ' a' w', FRel ρ' w' fr' a'.tmps → a'.tmps.size = a.tmps.size → a'.defers = a.defers → Stp E lo ρ s w ρ' s' w' → Q .normal a' w') → wpOpsIn (Wd ro) 0 E.P ops Q ((List.range ops.size).drop i) a w := by
  intro os
  induction os with
  | nil =>
    intro l i fr s a w ρ hd hc h hF hn hw hu hlo hQ
    simp [compOps] at hc; subst hc
    simp [opsV] at h
    obtain ⟨rfl, rfl⟩ := h
    have hle : ops.size ≤ i := by have := congrArg List.length hd; simp at this; omega
    rw [List.drop_of_length_le (by simpa using hle)]
    exact hQ ρ a w hF rfl rfl (.refl lo hw)
  | cons o os ih =>
    intro l i fr s a w ρ hd hc h hF hn hw hu hlo hQ
    have hlt : i < ops.size := by
      rcases Nat.lt_or_ge i ops.size with h0 | h0
      · exact h0
      · rw [List.drop_of_length_le (by simpa using h0)] at hd; simp at hd
    have hoi : ops[i]? = some o := by
      have := congrArg (·[0]?) hd
      simpa using this
    have hd2 : ops.toList.drop (i + 1) = os := by
      have := congrArg List.tail hd
      simpa [List.tail_drop] using this
    rw [List.drop_eq_getElem_cons (by simpa using hlt), List.getElem_range]
    simp only [wpOpsIn, hoi]
    simp only [compOps] at hc
    split at hc
    · rename_i g l' hg hl
      rw [Option.ite_none_right_eq_some] at hc
      obtain ⟨hdst, hc⟩ := hc
      · injection hc with hc; subst hc
        have hdst' : ∀ d, o.dst = some d → d < a.tmps.size := by
          intro d e
          rw [e] at hdst
          exact Nat.lt_of_lt_of_le (Nat.le_of_ble_eq_true hdst) hn
        simp only [opsV] at h
        split at h
        · rename_i hwant
          rw [wanted_ok hg hF hwant, if_pos rfl]
          split at h
          · rename_i v s1 hv
            have k1 := VK.opV hC.vk hlo hv
            have k2 := VK.opsV hC.vk _ (Nat.le_trans hlo k1.next) h
            refine op_wp hE hC hw hF (fun id h1 h2 => hu id h1 (Nat.lt_of_lt_of_le h2 k2.next)) hlo hv ?_
            intro ρ1 w1 v' hv' hs1
            refine ih l' (i + 1) _ s1 _ w1 ρ1 hd2 hl h ?_ (by rw [size_put]; exact hn) hs1.wr ?_ (Nat.le_trans hlo k1.next) ?_
            · exact FRel.put (hF.mono hs1.ext hs1.sz) hdst' hv'
            · intro id h1 h2
              cases h3 : ρ1 id with
              | none => rfl
              | some x =>
                exfalso
                have h4 : ρ id = none := hu id (by have := k1.next; omega) h2
                have := (hs1.new id x h4 h3).2; omega
            · intro ρ2 a2 w2 hF2 hsz hdf hs2
              exact hQ ρ2 a2 w2 hF2 (by rw [hsz, size_put]) (by rw [hdf, defers_put]) (hs1.trans hs2 k1 k2 hu hw)
          · simp at h
        · rename_i hwant
          rw [wanted_ok hg hF hwant]
          simp only [Bool.false_eq_true, if_false]
          refine ⟨fun _ _ => trivial, ih l' (i + 1) _ s _ w ρ hd2 hl h (FRel.put hF hdst' undef_rel) (by rw [size_put]; exact hn) hw hu hlo ?_⟩
          intro ρ2 a2 w2 hF2 hsz hdf hs2
          exact hQ ρ2 a2 w2 hF2 (by rw [hsz, size_put]) (by rw [hdf, defers_put]) hs2
        · simp at h
    · simp at hc

end
end VE

namespace VE
open Go

section
variable {E : Env} {lo : Nat} {ρ : Rho} {s s' : St} {w : World} {v : V} {fr : Fr} {a : Act} {c : Orc}

theorem keepV_get : ∀ (l : List Nat) {t : Nat} {v : V}, (keepV fr l).get t = some v → fr.get t = some v
  | [], t, v, h => by simp [keepV, Tr.get_nil] at h
  | k :: r, t, v, h => by
    simp only [keepV] at h
    rw [Tr.get_set] at h
    split at h
    · rename_i e; subst e; exact h
    · exact keepV_get r h

theorem FRel.keepV {t : Array Value} (h : FRel ρ w fr t) (l : List Nat) : FRel ρ w (keepV fr l) t := fun i v hv => h i v (keepV_get l hv)

theorem findLabel_none {P : Program} {eqs keys : List (TypeId × List CK)} {nt : Nat} {cb : Code} {x : VC} (h : CRel P eqs keys nt cb x) : ∀ l, findLabelV x l = none → findLabel cb l = none := by
  induction h with
  | seq _ _ i1 i2 =>
    intro l e
    simp only [findLabelV] at e
    split at e
    · simp at e
    · rename_i h0; simp [findLabel, i1 l h0, i2 l e]
  | label l' => intro l e; simp only [findLabelV] at e; simp only [findLabel]; split at e <;> simp_all
  | _ => intro l e; rfl

/-! ### Steps, one behind another -/

theorem Und.fst {s1 s2 : St} (hu : Und ρ s s2) (h : VK lo s1 s2) : Und ρ s s1 := fun id h1 h2 => hu id h1 (Nat.lt_of_lt_of_le h2 h.next)

theorem Und.snd {s1 s2 : St} {ρ1 : Rho} {w1 : World} (hu : Und ρ s s2) (h : VK lo s s1) (hs : Stp E lo ρ s w ρ1 s1 w1) : Und ρ1 s1 s2 := by
  intro id h1 h2
  cases h3 : ρ1 id with
  | none => rfl
  | some x =>
    exfalso
    have h4 : ρ id = none := hu id (by have := h.next; omega) h2
    have := (hs.new id x h4 h3).2; omega

theorem Marked.keep {ρ1 ρ2 : Rho} {s1 s2 : St} {w1 w2 : World} {d : Deferred} (h : Marked ρ1 w w1 d) (hs : Stp E lo ρ1 s1 w1 ρ2 s2 w2) : Marked ρ2 w w2 d := by
  obtain ⟨r, e, h1, h2, h3⟩ := h
  have hlt : r < w1.heap.size := by
    rcases Nat.lt_or_ge r w1.heap.size with h0 | h0
    · exact h0
    · rw [Array.getElem?_eq_none h0] at h2; simp at h2
  refine ⟨r, e, h1, hs.keep r _ h2 fun id sh hx _ => absurd hx (h3 id sh), ?_⟩
  intro id sh hx
  cases h4 : ρ1 id with
  | none =>
    rcases hs.newb id r sh h4 hx with h5 | ⟨id0, sh0, h5, _⟩
    · omega
    · exact h3 _ _ h5
  | some y =>
    have := hs.ext _ _ h4
    rw [hx] at this; injection this with this; subst this
    exact h3 _ _ h4

theorem XEnd.trans {s1 s2 : St} {fr1 fr2 : Fr} {a1 a2 : Act} {w1 w2 : World} {ρ1 : Rho} (hw : WR E ρ s w) (hu : Und ρ s s2) (k1 : VK lo s s1) (k2 : VK lo s1 s2)
    (h1 : Stp E lo ρ s w ρ1 s1 w1) {ds1 : List Deferred} (e1 : a1.defers = ds1 ++ a.defers) (p1 : ds1.Pairwise (fun x y => x.target ≠ y.target)) (m1 : ∀ d ∈ ds1, Marked ρ1 w w1 d) (z1 : a1.tmps.size = a.tmps.size)
    (h2 : XEnd E lo ρ1 s1 w1 a1 fr2 s2 a2 w2) : XEnd E lo ρ s w a fr2 s2 a2 w2 := by
  obtain ⟨⟨ρ2, hF, hs, ds2, e2, p2, m2⟩, z2⟩ := h2
  refine ⟨⟨ρ2, hF, h1.trans hs k1 k2 hu hw, ds2 ++ ds1, by rw [e2, e1, List.append_assoc], ?_, ?_⟩, by rw [z2, z1]⟩
  · rw [List.pairwise_append]
    refine ⟨p2, p1, ?_⟩
    intro x hx y hy
    obtain ⟨r, rfl, q1, _, _⟩ := m2 x hx
    obtain ⟨r', rfl, _, q2, _⟩ := m1 y hy
    have : r' < w1.heap.size := by
      rcases Nat.lt_or_ge r' w1.heap.size with h0 | h0
      · exact h0
      · rw [Array.getElem?_eq_none h0] at q2; simp at q2
    simp; omega
  · intro d hd
    rcases List.mem_append.1 hd with hd | hd
    · obtain ⟨r, e, q1, q2, q3⟩ := m2 d hd
      exact ⟨r, e, Nat.le_trans h1.size q1, q2, q3⟩
    · exact (m1 d hd).keep hs

theorem XEnd.refl (hw : WR E ρ s w) (hF : FRel ρ w fr a.tmps) : XEnd E lo ρ s w a fr s a w :=
  ⟨⟨ρ, hF, .refl lo hw, [], rfl, .nil, by simp⟩, rfl⟩

theorem RoOk.keep {ro : Option Nat} {w' : World} (h : RoOk ro w) (hk : KL w w') : RoOk ro w' := fun l e =>
  let ⟨L, hL⟩ := h l e
  let ⟨L', h1, _⟩ := hk l L hL
  ⟨L', h1⟩

/-! ### What the machine does at the start -/

theorem stepR_scope' {P : Program} {b : Frame} {k : List Item} {cs : List Frame} {cb : Code} : step P (lone (b.atR a (.code (.scope cb) :: k)) cs w) = .next (lone (b.atR a (.code cb :: .inScope cb :: k)) cs w) :=
  step_lone_go (by simp [stepG, stepG.exec, Frame.atR])

theorem stepR_inScope {P : Program} {b : Frame} {k : List Item} {cs : List Frame} {cb : Code} : step P (lone (b.atR a (.inScope cb :: k)) cs w) = .next (lone (b.atR a k) cs w) :=
  step_lone_go (by simp [stepG, stepG.exec, Frame.atR])

theorem wpIn_loop' {F : Fence} {P : Program} {cb : Code} {Q : Exit → Act → World → Prop} (h : LoopIn F P cb Q a w) : (Code.loop cb).wpIn F 0 P Q a w := by
  intro b k cs hro hb hr
  obtain ⟨e, a', w', hq, harr⟩ := h b k cs hro hb hr
  exact ⟨e, a', w', hq, .of_steps (.one (fenced_calm hb hr rfl) stepR_loop) harr⟩

theorem loopIn_once {F : Fence} {P : Program} {cb : Code} {Q : Exit → Act → World → Prop} (h : cb.wpIn F 0 P (Exit.then (LoopIn F P cb Q) Q) a w) : LoopIn F P cb Q a w := by
  intro b k cs hro hb hr
  obtain ⟨e, a₁, w₁, hq, harr⟩ := h b (.inLoop cb :: k) cs hro hb hr
  cases e with
  | normal =>
    obtain ⟨e₂, a₂, w₂, hq₂, harr₂⟩ := hq b k cs hro hb hr
    exact ⟨e₂, a₂, w₂, hq₂, .of_steps (StepsIn.trans harr (.one (fenced_calm hb hr rfl) stepR_inLoop)) harr₂⟩
  | exit id => exact ⟨_, a₁, w₁, hq, .pass (x := .inLoop cb) rfl (fun _ _ => .inl (by simp)) harr⟩
  | goto l => exact ⟨_, a₁, w₁, hq, .pass (x := .inLoop cb) rfl (fun _ _ => .inl (by simp)) harr⟩
  | ret => exact ⟨_, a₁, w₁, hq, .pass (x := .inLoop cb) rfl (fun _ _ => .inl (by simp)) harr⟩
  | panic ch => exact ⟨_, a₁, w₁, hq, .pass (x := .inLoop cb) rfl (fun _ _ => .inl (by simp)) harr⟩
  | outgrown => exact ⟨_, a₁, w₁, hq, .pass (x := .inLoop cb) rfl (fun _ _ => .inl (by simp)) harr⟩

theorem wpIn_scope' {F : Fence} {P : Program} {cb : Code} {Q : Exit → Act → World → Prop} (h : ScopeIn F P cb cb Q a w) : (Code.scope cb).wpIn F 0 P Q a w := by
  intro b k cs hro hb hr
  obtain ⟨e, a', w', hq, harr⟩ := h b k cs hro hb hr
  exact ⟨e, a', w', hq, .of_steps (.one (fenced_calm hb hr rfl) stepR_scope') harr⟩

/-- A jump within a scope: to a label of its own: on from there; to another one: on out. -/
def scopeThen (F : Fence) (P : Program) (cb : Code) (Q : Exit → Act → World → Prop) : Exit → Act → World → Prop
  | .goto l, a, w => match findLabel cb l with
    | some rest => ScopeIn F P cb rest Q a w
    | none => Q (.goto l) a w
  | e, a, w => Q e a w

theorem scopeIn_once {F : Fence} {P : Program} {cb cur : Code} {Q : Exit → Act → World → Prop} (h : cur.wpIn F 0 P (scopeThen F P cb Q) a w) : ScopeIn F P cb cur Q a w := by
  intro b k cs hro hb hr
  obtain ⟨e, a₁, w₁, hq, harr⟩ := h b (.inScope cb :: k) cs hro hb hr
  cases e with
  | normal => exact ⟨.normal, a₁, w₁, hq, StepsIn.trans harr (.one (fenced_calm hb hr rfl) stepR_inScope)⟩
  | exit id =>
    exact ⟨_, a₁, w₁, hq, fun k' hk => harr.1 k' (by simpa [exitTo] using hk), fun hr' hk => harr.2 hr' (by simpa [exitTo] using hk)⟩
  | goto l =>
    simp only [scopeThen] at hq
    split at hq
    · rename_i rest hl
      obtain ⟨e₂, a₂, w₂, hq₂, harr₂⟩ := hq b k cs hro hb hr
      exact ⟨e₂, a₂, w₂, hq₂, .of_steps (harr.1 _ (by simp [gotoIn, hl])) harr₂⟩
    · rename_i hl
      exact ⟨_, a₁, w₁, hq, fun k' hk => harr.1 k' (by simpa [gotoIn, hl] using hk), fun hr' hk => harr.2 hr' (by simpa [gotoIn, hl] using hk)⟩
  | ret => exact ⟨_, a₁, w₁, hq, harr⟩
  | panic ch => exact ⟨_, a₁, w₁, hq, harr⟩
  | outgrown => exact ⟨_, a₁, w₁, hq, harr⟩

end
end VE

namespace VE
open Go

/-! ## What an operation comes to depends on its operands, and on what it looks at -/

section
variable {c : Orc} {lo : Nat} {fr fr' : Fr} {s s' : St} {v : V}

theorem evL_congr : ∀ {l : List Operand}, (∀ x ∈ l, evO fr x = evO fr' x) → evL fr l = evL fr' l
  | [], _ => rfl
  | x :: r, h => by simp only [evL]; rw [h x (List.mem_cons_self ..), evL_congr fun y hy => h y (List.mem_cons_of_mem _ hy)]

theorem evP_congr : ∀ {l : List (Nat × Nat × Operand)}, (∀ x ∈ l.map (·.2.2), evO fr x = evO fr' x) → evP fr l = evP fr' l
  | [], _ => rfl
  | (_, _, x) :: r, h => by simp only [evP]; rw [h x (by simp), evP_congr fun y hy => h y (by simp at hy ⊢; exact .inr hy)]

theorem evC_congr : ∀ {l : List (Nat × Operand)}, (∀ x ∈ l.map (·.2), evO fr x = evO fr' x) → evC fr l = evC fr' l
  | [], _ => rfl
  | (_, x) :: r, h => by simp only [evC]; rw [h x (by simp), evC_congr fun y hy => h y (by simp at hy ⊢; exact .inr hy)]

theorem evOp_congr {x : Option Operand} (h : ∀ y ∈ x.toList, evO fr y = evO fr' y) : evOp fr x = evOp fr' x := by
  cases x with
  | none => rfl
  | some y => simp only [evOp]; rw [h y (by simp)]

theorem opV_congr {op : VOp} (h : ∀ x ∈ op.opnds, evO fr x = evO fr' x) : opV c lo fr op s = opV c lo fr' op s := by
  cases op <;> simp only [VOp.opnds, List.mem_cons, List.not_mem_nil, or_false, forall_eq_or_imp, forall_eq] at h <;> simp only [opV]
  case build z l => rw [evP_congr h]
  case bslice z n m l => rw [evP_congr h]
  case buildC l => rw [evC_congr h]
  case bsliceC n m l => rw [evC_congr h]
  case mkFunc f l m => rw [evL_congr fun x hx => h x (List.mem_append_left _ hx), evL_congr fun x hx => h x (List.mem_append_right _ hx)]
  case slStr x l m => rw [h.1, evOp_congr fun y hy => h.2 y (List.mem_append_left _ hy), evOp_congr fun y hy => h.2 y (List.mem_append_right _ hy)]
  case slSl n x l m k => rw [h.1, evOp_congr fun y hy => h.2 y (List.mem_append_left _ (List.mem_append_left _ hy)), evOp_congr fun y hy => h.2 y (List.mem_append_left _ (List.mem_append_right _ hy)), evOp_congr fun y hy => h.2 y (List.mem_append_right _ hy)]
  case slArr j n x l m k => rw [h.1, evOp_congr fun y hy => h.2 y (List.mem_append_left _ (List.mem_append_left _ hy)), evOp_congr fun y hy => h.2 y (List.mem_append_left _ (List.mem_append_right _ hy)), evOp_congr fun y hy => h.2 y (List.mem_append_right _ hy)]
  case call f l => rw [h.1, evL_congr h.2]
  case mnmx b x l => rw [h.1, evL_congr h.2]
  all_goals first
    | rfl
    | rw [h]
    | rw [h.1, h.2]
    | rw [h.1, h.2.1, h.2.2]

/-- A frame that holds the temporaries looked at alone. -/
def only (fr : Fr) (l : List Nat) : Fr := keepV fr l

theorem keepV_mem : ∀ (l : List Nat) {t : Nat}, t ∈ l → (keepV fr l).get t = fr.get t
  | [], t, h => by simp at h
  | k :: r, t, h => by
    simp only [keepV]
    rw [Tr.get_set]
    split
    · rename_i e; subst e; rfl
    · rename_i e
      rcases List.mem_cons.1 h with h | h
      · exact absurd h e
      · exact keepV_mem r h

theorem mem_tmpsOf {l : List Operand} {t : Nat} : Operand.tmp t ∈ l → t ∈ tmpsOf l := by
  intro h
  simp only [tmpsOf, List.mem_filterMap]
  exact ⟨_, h, rfl⟩

theorem opV_only {op : VOp} {l : List Nat} (h : ∀ t ∈ tmpsOf op.opnds, t ∈ l) : opV c lo (keepV fr l) op s = opV c lo fr op s := by
  refine opV_congr fun x hx => ?_
  cases x with
  | tmp t => simp only [evO]; exact keepV_mem l (h t (mem_tmpsOf hx))
  | const v => rfl
  | global g => rfl
  | func f => rfl

theorem wantedV_only {g : Option (Nat × Bool)} {l : List Nat} (h : ∀ t b, g = some (t, b) → t ∈ l) : wantedV (keepV fr l) g = wantedV fr g := by
  cases g with
  | none => rfl
  | some p => obtain ⟨t, b⟩ := p; simp only [wantedV]; rw [keepV_mem l (h t b rfl)]

/-! ### Floats, loads, what is pure -/

theorem pure_at {op : VOp} (hm : memOp op = false) (h : opV c lo fr op s = some (v, s')) : s' = s ∧ ∀ lo2 s2, opV c lo2 fr op s2 = some (v, s2) := by
  have hs := opV_pure hm h
  refine ⟨hs, fun lo2 s2 => ?_⟩
  subst hs
  cases op <;> simp only [memOp, Bool.true_eq_false, reduceCtorEq] at hm <;> simp only [opV] at h ⊢ <;>
    (repeat' split at h) <;> simp only [Option.map_eq_some_iff, Option.some.injEq, Prod.mk.injEq, reduceCtorEq] at h <;>
    first
      | exact h.elim
      | (simp_all; done)
      | (obtain ⟨x, hx, h2⟩ := h; simp_all; done)

end
end VE

namespace VE
open Go

section
variable {c : Orc} {lo : Nat} {fr fr' : Fr} {s s' : St} {v : V}

/-- What just makes a new block. -/
theorem alloc_at {op : VOp} (hf : floats op = true) (hl : isLoad op = false) (h : opV c lo fr op s = some (v, s')) : ∃ o, s' = s.alloc o ∧ ∀ lo2 s2, s2.next = s.next → opV c lo2 fr op s2 = some (v, s2.alloc o) := by
  cases op <;> simp only [floats, isLoad, Bool.false_eq_true, reduceCtorEq] at hf hl <;> simp only [opV] at h ⊢
  case alloc z => injection h with h; injection h with h1 h2; subst h1; exact ⟨_, h2.symm, fun lo2 s2 e => by rw [e]⟩
  case mkMap => injection h with h; injection h with h1 h2; subst h1; exact ⟨_, h2.symm, fun lo2 s2 e => by rw [e]⟩
  all_goals
    (repeat' split at h) <;> first
      | (simp at h; done)
      | (injection h with h; injection h with h1 h2; subst h1; exact ⟨_, h2.symm, fun lo2 s2 e => by simp_all⟩)

theorem load_at {op : VOp} (hl : isLoad op = true) (h : opV c lo fr op s = some (v, s')) : s' = s ∧ ∃ id off n x, (∀ nx, footV fr nx op = some (id, off, n)) ∧ x ∈ op.opnds ∧ evO fr x = some (.p id off) ∧ ∃ cs, s.rd id off n = some cs ∧
    ∀ lo2 s2, s2.rd id off n = some cs → opV c lo2 fr op s2 = some (v, s2) := by
  cases op <;> simp only [isLoad, Bool.false_eq_true, reduceCtorEq] at hl <;> simp only [opV] at h ⊢
  case load g x =>
    split at h
    · rename_i id off hx
      split at h
      · rename_i cs hr
        simp only [Option.map_eq_some_iff] at h
        obtain ⟨y, hy, h⟩ := h
        injection h with h1 h2; subst h1; subst h2
        exact ⟨rfl, id, off, agN g, x, fun nx => by simp [footV, hx], by simp [VOp.opnds], hx, cs, hr, fun lo2 s2 e => by simp [hx, e, hy]⟩
      · simp at h
    · simp at h
  case slArr n sz x l m k =>
    split at h
    · rename_i id off l' m' hx hl hm hk
      split at h
      · rename_i cs hr
        simp only [Option.map_eq_some_iff] at h
        obtain ⟨y, hy, h⟩ := h
        injection h with h1 h2; subst h1; subst h2
        exact ⟨rfl, id, off, n * sz, x, fun nx => by simp [footV, hx], by simp [VOp.opnds], hx, cs, hr, fun lo2 s2 e => by simp [hx, hl, hm, hk, e, hy]⟩
      · simp at h
    · simp at h

theorem wr_next {s : St} {lo id off : Nat} {vs : List V} (h : s.wr lo id off vs = some s') : s'.next = s.next := by
  obtain ⟨cs, _, _, _, rfl⟩ := wr_some h; exact next_put ..

/-- Cells that lie apart from those written to. -/
theorem wr_rd {lo id off id' off' n : Nat} {vs : List V} (h : s.wr lo id off vs = some s') (hap : apartS (id, off, vs.length) (id', off', n) = true) : s'.rd id' off' n = s.rd id' off' n := by
  obtain ⟨cs0, _, hc, ⟨hle, _⟩, rfl⟩ := wr_some h
  unfold St.rd
  rw [get_put]
  by_cases e : id' = id
  · subst e
    rw [if_pos rfl, hc]
    simp only [length_splice hle]
    split
    · rename_i hn
      congr 1
      simp only [apartS, Nat.beq_refl, Bool.not_true, Bool.false_or, Bool.and_eq_true, Bool.or_eq_true, Nat.ble_eq] at hap
      apply List.ext_getElem?
      intro i
      rw [List.getElem?_take, List.getElem?_take]
      split
      · rw [List.getElem?_drop, List.getElem?_drop, get_splice hle, if_neg (by omega)]
      · rfl
    · rfl
  · rw [if_neg e]

/-- What is written to lies in what it looks at; blocks that are not named stay. -/
theorem footed_keeps {op : VOp} (hf : footed op = true) (hlo : lo ≤ s.next) (h : opV c lo fr op s = some (v, s')) {id : Nat} (hid : id < s.next) :
    (footV fr s.next op = none → s'.heap.get id = s.heap.get id) ∧ ∀ a, footV fr s.next op = some a → (a.1 ≠ id → s'.heap.get id = s.heap.get id) ∧ ∀ off n, apartS a (id, off, n) = true → s'.rd id off n = s.rd id off n := by
  have same : ∀ {off n : Nat}, s'.heap.get id = s.heap.get id → s'.rd id off n = s.rd id off n := by
    intro off n e; unfold St.rd; rw [e]
  cases op <;> simp only [footed, Bool.false_eq_true, reduceCtorEq] at hf <;> simp only [opV] at h
  case store n x y =>
    split at h
    · rename_i id' off u hx hy
      split at h
      · rename_i hlen
        simp only [Option.map_eq_some_iff] at h
        obtain ⟨s1, hs, h⟩ := h
        injection h with h1 h2; subst h1; subst h2
        refine ⟨fun e => by simp [footV, hx] at e, fun a e => ?_⟩
        simp only [footV, hx, Option.some.injEq] at e
        subst e
        refine ⟨fun hne => ?_, fun off' m hap => wr_rd hs (by rw [hlen]; exact hap)⟩
        obtain ⟨cs0, _, hc, _, rfl⟩ := wr_some hs
        rw [get_put, if_neg (Ne.symm hne)]
      · simp at h
    · simp at h
  case append mk z sz bytes x y =>
    split at h
    · rename_i av xv hx hy
      have key : ∀ id', (∀ off len lb sz' ex, av = .sl id' off len lb sz' ex → id' ≠ id) → (av = .sn ∨ ∃ off len lb sz' ex, av = .sl id' off len lb sz' ex) → s'.heap.get id = s.heap.get id := by
        intro id' hne hav
        have al : ∀ o, (s.alloc o).heap.get id = s.heap.get id := fun o => by rw [get_alloc, if_neg (by omega)]
        unfold appendV at h
        split at h
        · simp at h
        · rcases hav with rfl | ⟨off, len, lb, sz', ex, rfl⟩
          · simp at h; rw [h.2]
          · simp at h; rw [h.2.2]
        · rcases hav with rfl | ⟨off, len, lb, sz', ex, rfl⟩
          · simp only at h
            split at h
            · injection h with h; injection h with _ h; subst h; exact al _
            · simp at h
          · have hne' := hne _ _ _ _ _ rfl
            simp only at h
            split at h
            · split at h
              · simp only [Option.map_eq_some_iff] at h
                obtain ⟨s1, hs, h⟩ := h
                injection h with _ h; subst h
                obtain ⟨cs0, _, hc, _, rfl⟩ := wr_some hs
                rw [get_put, if_neg (Ne.symm hne')]
              · split at h
                · simp at h
                · split at h
                  · injection h with h; injection h with _ h; subst h; exact al _
                  · split at h
                    · simp at h
                    · split at h
                      · split at h
                        · injection h with h; injection h with _ h; subst h
                          rw [get_alloc, next_put, if_neg (by omega), get_put, if_neg (Ne.symm hne')]
                        · simp at h
                      · simp at h
            · simp at h
      have hav : av = .sn ∨ ∃ id' off len lb sz' ex, av = .sl id' off len lb sz' ex := by
        clear key
        cases av <;> first
          | exact .inl rfl
          | exact .inr ⟨_, _, _, _, _, _, rfl⟩
          | (exfalso; unfold appendV at h; (repeat' split at h) <;> simp_all)
      rcases hav with rfl | ⟨id', off, len, lb, sz', ex, rfl⟩
      · exact ⟨fun _ => key 0 (fun _ _ _ _ _ e => by simp at e) (.inl rfl), fun a e => by simp [footV, hx] at e⟩
      · refine ⟨fun e => by simp [footV, hx] at e, fun a e => ?_⟩
        simp only [footV, hx, Option.some.injEq] at e
        subst e
        have kk : id' ≠ id → s'.heap.get id = s.heap.get id := fun hne => key id' (fun _ _ _ _ _ _ => hne) (.inr ⟨_, _, _, _, _, rfl⟩)
        refine ⟨kk, fun off' n hap => same (kk ?_)⟩
        intro e; subst e
        simp [apartS, whole] at hap
    · simp at h

end
end VE

namespace VE
open Go

/-! ## A region that draws its order: what is known of its operations -/

theorem testBit_or3 {a b j k : Nat} (h : (a ||| 2 ^ k ||| b).testBit j = true) : a.testBit j = true ∨ k = j ∨ b.testBit j = true := by
  rw [Nat.testBit_or, Nat.testBit_or, Nat.testBit_two_pow] at h
  simp only [Bool.or_eq_true, decide_eq_true_eq] at h
  rcases h with (h | h) | h
  · exact .inl h
  · exact .inr (.inl h)
  · exact .inr (.inr h)

theorem ancOf_bit {acc : List Nat} {o : Oper} {j : Nat} (h : (ancOf acc o).testBit j = true) : ∃ e ∈ o.after, Region.binds .any e = true ∧ (e.on = j ∨ (acc.getD e.on 0).testBit j = true) := by
  unfold ancOf at h
  rw [← Array.foldl_toList] at h
  have key : ∀ (l : List Edge) (s0 : Nat), (l.foldl (fun s e => if Region.binds .any e then s ||| 2 ^ e.on ||| acc.getD e.on 0 else s) s0).testBit j = true →
      s0.testBit j = true ∨ ∃ e ∈ l, Region.binds .any e = true ∧ (e.on = j ∨ (acc.getD e.on 0).testBit j = true) := by
    intro l
    induction l with
    | nil => intro s0 h; exact .inl h
    | cons e r ih =>
      intro s0 h
      rw [List.foldl_cons] at h
      rcases ih _ h with h1 | ⟨e', he', h1⟩
      · split at h1
        · rename_i hb
          rcases testBit_or3 h1 with h2 | h2 | h2
          · exact .inl h2
          · exact .inr ⟨e, List.mem_cons_self .., hb, .inl h2⟩
          · exact .inr ⟨e, List.mem_cons_self .., hb, .inr h2⟩
        · exact .inl h1
      · exact .inr ⟨e', List.mem_cons_of_mem _ he', h1⟩
  rcases key _ _ h with h | ⟨e, he, h⟩
  · simp at h
  · exact ⟨e, by simpa using he, h⟩

theorem ahead_fold : ∀ (os : List Oper) (acc : List Nat), ∃ r, os.foldl (fun acc o => acc ++ [ancOf acc o]) acc = acc ++ r ∧ r.length = os.length ∧ ∀ (k : Nat) (o : Oper), os[k]? = some o → r[k]? = some (ancOf (acc ++ r.take k) o)
  | [], acc => ⟨[], by simp, rfl, by simp⟩
  | o :: os, acc => by
    obtain ⟨r, h1, h2, h3⟩ := ahead_fold os (acc ++ [ancOf acc o])
    refine ⟨ancOf acc o :: r, by rw [List.foldl_cons, h1]; simp, by simp [h2], ?_⟩
    intro k o' hk
    cases k with
    | zero => simp at hk; subst hk; simp
    | succ k =>
      simp only [List.getElem?_cons_succ, List.take_succ_cons] at hk ⊢
      rw [h3 k o' hk]; simp

theorem ahead_spec (os : List Oper) : (ahead os).length = os.length ∧ ∀ (k : Nat) (o : Oper), os[k]? = some o → (ahead os)[k]? = some (ancOf ((ahead os).take k) o) := by
  obtain ⟨r, h1, h2, h3⟩ := ahead_fold os []
  have e : ahead os = r := by simpa [ahead] using h1
  rw [e]
  exact ⟨h2, fun k o hk => by simpa using h3 k o hk⟩

def anc (ops : Array Oper) (i j : Nat) : Prop := ((ahead ops.toList).getD i 0).testBit j = true

/-- What stands ahead has been done. -/
theorem anc_ready {ops : Array Oper} {i : Nat} {o : Oper} (hi : ops[i]? = some o) {L : Nat → Prop} (hc : ∀ i j, L i → anc ops i j → L j) (hr : ∀ e ∈ o.after, Region.binds .any e = true → L e.on) : ∀ j, anc ops i j → L j := by
  intro j hj
  unfold anc at hj
  obtain ⟨h1, h2⟩ := ahead_spec ops.toList
  have := h2 i o (by simpa using hi)
  rw [List.getD_eq_getElem?_getD, this, Option.getD_some] at hj
  obtain ⟨e, he, hb, h⟩ := ancOf_bit hj
  have hl := hr e he hb
  rcases h with rfl | h
  · exact hl
  · refine hc e.on j hl ?_
    unfold anc
    rw [List.getD_eq_getElem?_getD] at h ⊢
    rw [List.getElem?_take] at h
    split at h
    · exact h
    · simp at h

def Wr (d : List VDOper) (i : Nat) : Prop := ∃ y, d[i]? = some y ∧ y.cls = 2

structure Reg (E : Env) (ops : Array Oper) (nt : Nat) (d : List VDOper) : Prop where
  len : d.length = ops.size
  op : ∀ {i : Nat} {y : VDOper}, d[i]? = some y → ∃ o, ops[i]? = some o ∧ guardV ops o = some y.o.guard ∧ y.o.dst = o.dst ∧ y.o.op = compOp E.P E.eqs E.keys o ∧ ∀ t, o.dst = some t → t < nt
  apart : ∀ {i j : Nat} {x y : VDOper}, d[i]? = some x → d[j]? = some y → i < j → anc ops j i ∨ ((∀ t, x.o.dst = some t → t ∉ looks y.o.guard y.o.op) ∧ (∀ t, y.o.dst = some t → t ∉ looks x.o.guard x.o.op) ∧ ∀ t, x.o.dst = some t → y.o.dst ≠ some t)
  cls0 : ∀ {i : Nat} {y : VDOper}, d[i]? = some y → y.cls = 0 → memOp y.o.op = false
  cls : ∀ {i : Nat} {y : VDOper}, d[i]? = some y → y.cls ≠ 2 → y.cls = 0 ∨ y.cls = 1
  load : ∀ {i j : Nat} {x y : VDOper}, d[i]? = some y → isLoad y.o.op = true → d[j]? = some x → x.cls = 2 → j < i → anc ops i j ∨ j ∈ y.vs
  wmem : ∀ {i : Nat} {y : VDOper}, d[i]? = some y → y.cls = 2 → memOp y.o.op = true
  wfl : ∀ {i : Nat} {y : VDOper}, d[i]? = some y → y.cls = 2 → floats y.o.op = false
  ord : ∀ {i j : Nat} {x y : VDOper}, d[i]? = some y → y.cls = 2 → d[j]? = some x → j ≠ i → memOp x.o.op = true → ((j < i → anc ops i j) ∧ (i < j → anc ops j i)) ∨ (floats x.o.op = true ∧ footed y.o.op = true)
  wvs : ∀ {i j : Nat} {x y : VDOper}, d[i]? = some y → y.cls = 2 → d[j]? = some x → j < i → floats x.o.op = true → anc ops i j ∨ j ∈ y.vs
  back : ∀ {i : Nat} {o : Oper}, ops[i]? = some o → ∀ e ∈ o.after, Region.binds .any e = true → e.on < i

theorem compOps_get {P : Program} {eqs keys : List (TypeId × List CK)} {nt : Nat} {ops : Array Oper} : ∀ {os : List Oper} {l : List VOper}, compOps P eqs keys nt ops os = some l → l.length = os.length ∧
    ∀ (i : Nat) (x : VOper), l[i]? = some x → ∃ o, os[i]? = some o ∧ guardV ops o = some x.guard ∧ x.dst = o.dst ∧ x.op = compOp P eqs keys o ∧ ∀ t, o.dst = some t → t < nt
  | [], l, h => by simp [compOps] at h; subst h; exact ⟨rfl, by simp⟩
  | o :: os, l, h => by
    simp only [compOps] at h
    split at h
    · rename_i g l' hg hl
      rw [Option.ite_none_right_eq_some] at h
      obtain ⟨hd, h⟩ := h
      injection h with h; subst h
      obtain ⟨h1, h2⟩ := compOps_get hl
      refine ⟨by simp [h1], ?_⟩
      intro i x hx
      cases i with
      | zero =>
        simp at hx; subst hx
        refine ⟨o, rfl, hg, rfl, rfl, ?_⟩
        intro t e
        rw [e] at hd
        exact Nat.le_of_ble_eq_true hd
      | succ i => simpa using h2 i x (by simpa using hx)
    · simp at h

theorem edgesBack_get : ∀ {os : List Oper} {k : Nat}, edgesBack k os = true → ∀ (i : Nat) (o : Oper), os[i]? = some o → ∀ e ∈ o.after, Region.binds .any e = true → e.on < k + i
  | [], _, _, i, o, h => by simp at h
  | o' :: os, k, h, i, o, hi => by
    simp only [edgesBack, Bool.and_eq_true, Array.all_eq_true_iff_forall_mem] at h
    cases i with
    | zero =>
      simp at hi; subst hi
      intro e he hb
      have := h.1 e he
      simpa [hb, Nat.blt_eq] using this
    | succ i =>
      intro e he hb
      have := edgesBack_get h.2 i o (by simpa using hi) e he hb
      omega

theorem allApart_get : ∀ {l : List DI}, allApart l = true → ∀ (i j : Nat) (a b : DI), l[i]? = some a → l[j]? = some b → i < j → apartT a b = true
  | [], _, i, j, a, b, h, _, _ => by simp at h
  | c :: l, h, i, j, a, b, hi, hj, hlt => by
    simp only [allApart, Bool.and_eq_true, List.all_eq_true] at h
    cases j with
    | zero => omega
    | succ j =>
      simp only [List.getElem?_cons_succ] at hj
      cases i with
      | zero => simp at hi; subst hi; exact h.1 b (List.mem_of_getElem? hj)
      | succ i => exact allApart_get h.2 i j a b (by simpa using hi) hj (by omega)

theorem reg_of {E : Env} {ops : Array Oper} {nt : Nat} {l : List VOper} {d : List VDOper} (hc : compOps E.P E.eqs E.keys nt ops ops.toList = some l) (hd : compDraw l ops.toList = some d) : Reg E ops nt d := by
  obtain ⟨c1, c2⟩ := compOps_get hc
  obtain ⟨a1, a2⟩ := ahead_spec ops.toList
  unfold compDraw at hd
  simp only at hd
  rw [Option.ite_none_right_eq_some] at hd
  obtain ⟨hap, hd⟩ := hd
  rw [Bool.and_eq_true] at hap
  obtain ⟨hap, hback⟩ := hap
  injection hd with hd
  have hlen : (dis l ops.toList).length = ops.size := by simp [dis, a1, c1]
  have hD : ∀ (i : Nat) (x : VOper), l[i]? = some x → (dis l ops.toList)[i]? = some ⟨i, (ahead ops.toList).getD i 0, looks x.guard x.op, x.dst, x.op⟩ := by
    intro i x hx
    obtain ⟨o, ho, _⟩ := c2 i x hx
    have ha := a2 i o ho
    unfold dis
    rw [List.getElem?_map, List.getElem?_zipIdx]
    have hz : (l.zip (ops.toList.zip (ahead ops.toList)))[i]? = some (x, o, ancOf ((ahead ops.toList).take i) o) := by
      rw [List.getElem?_zip_eq_some]
      refine ⟨hx, ?_⟩
      rw [List.getElem?_zip_eq_some]
      exact ⟨ho, ha⟩
    rw [hz, List.getD_eq_getElem?_getD, ha]
    simp
  have hd1 : ∀ (i : Nat) (y : VDOper), d[i]? = some y → ∃ di, l[i]? = some y.o ∧ (dis l ops.toList)[i]? = some di ∧ di = ⟨i, (ahead ops.toList).getD i 0, looks y.o.guard y.o.op, y.o.dst, y.o.op⟩ ∧ y.cls = (classOf (dis l ops.toList) di).1 ∧ y.vs = (classOf (dis l ops.toList) di).2 := by
    intro i y hy
    rw [← hd, List.getElem?_map, Option.map_eq_some_iff] at hy
    obtain ⟨⟨x, di⟩, hz, rfl⟩ := hy
    rw [List.getElem?_zip_eq_some] at hz
    have := hD i x hz.1
    rw [hz.2] at this
    injection this with this
    exact ⟨di, hz.1, hz.2, this, rfl, rfl⟩
  have hmem : ∀ {i : Nat} {y : VDOper}, d[i]? = some y → (⟨i, (ahead ops.toList).getD i 0, looks y.o.guard y.o.op, y.o.dst, y.o.op⟩ : DI) ∈ dis l ops.toList := by
    intro i y hy
    obtain ⟨di, _, h2, h3, _⟩ := hd1 i y hy
    rw [← h3]; exact List.mem_of_getElem? h2
  -- what a class says
  have hcls : ∀ {i : Nat} {y : VDOper}, d[i]? = some y → y.cls = (classOf (dis l ops.toList) ⟨i, (ahead ops.toList).getD i 0, looks y.o.guard y.o.op, y.o.dst, y.o.op⟩).1 ∧
      y.vs = (classOf (dis l ops.toList) ⟨i, (ahead ops.toList).getD i 0, looks y.o.guard y.o.op, y.o.dst, y.o.op⟩).2 := by
    intro i y hy
    obtain ⟨di, _, _, h3, h4, h5⟩ := hd1 i y hy
    subst h3; exact ⟨h4, h5⟩
  have hwr : ∀ {i : Nat} {y : VDOper}, d[i]? = some y → y.cls = 2 → isWriter (dis l ops.toList) ⟨i, (ahead ops.toList).getD i 0, looks y.o.guard y.o.op, y.o.dst, y.o.op⟩ = true ∧ isLoad y.o.op = false ∧
      y.vs = ((dis l ops.toList).filter fun b => Nat.blt b.at_ i && floats b.op && !((ahead ops.toList).getD i 0).testBit b.at_).map (·.at_) := by
    intro i y hy h2
    obtain ⟨h3, h4⟩ := hcls hy
    rw [h2] at h3
    unfold classOf at h3 h4
    simp only at h3 h4
    split at h3
    · simp at h3
    · split at h3
      · simp at h3
      · split at h3
        · rename_i g1 g2 g3
          rw [if_neg g1, if_neg g2, if_pos g3] at h4
          exact ⟨g3, by simpa using g2, h4⟩
        · simp at h3
  refine ⟨?_, ?_, ?_, ?_, ?_, ?_, ?_, ?_, ?_, ?_, ?_⟩
  · rw [← hd]; simp [hlen, c1]
  · intro i y hy
    obtain ⟨di, h1, _⟩ := hd1 i y hy
    obtain ⟨o, g1, g2⟩ := c2 i _ h1
    exact ⟨o, by simpa using g1, g2⟩
  · intro i j x y hx hy hlt
    obtain ⟨di, _, h2, h3, _⟩ := hd1 i x hx
    obtain ⟨dj, _, g2, g3, _⟩ := hd1 j y hy
    have := allApart_get hap i j di dj h2 g2 hlt
    subst h3; subst g3
    unfold apartT at this
    simp only [Bool.or_eq_true, Bool.and_eq_true, Bool.not_eq_true'] at this
    rcases this with h | ⟨⟨h1, h2⟩, h3⟩
    · exact .inl h
    · right
      refine ⟨fun t e ht => ?_, fun t e ht => ?_, fun t e e' => ?_⟩
      · rw [e] at h1; simp [meets, ht] at h1
      · rw [e] at h2; simp [meets, ht] at h2
      · rw [e, e'] at h3; simp at h3
  · intro i y hy h0
    obtain ⟨h3, _⟩ := hcls hy
    rw [h0] at h3
    unfold classOf at h3
    simp only at h3
    split at h3
    · rename_i h; simpa using h
    · split at h3
      · simp at h3
      · split at h3 <;> simp at h3
  · intro i y hy h2
    obtain ⟨h3, _⟩ := hcls hy
    unfold classOf at h3
    simp only at h3
    split at h3
    · exact .inl h3
    · split at h3
      · exact .inr h3
      · split at h3
        · exact absurd h3 h2
        · exact .inr h3
  · intro i j x y hy hl hx hx2 hlt
    obtain ⟨_, h4⟩ := hcls hy
    obtain ⟨w1, _, _⟩ := hwr hx hx2
    unfold classOf at h4
    simp only at h4
    have hm : memOp y.o.op = true := by cases hop : y.o.op <;> simp [hop, isLoad] at hl <;> rfl
    rw [if_neg (by simp [hm]), if_pos hl] at h4
    by_cases ha : anc ops i j
    · exact .inl ha
    · right
      rw [h4]
      simp only [List.mem_map, List.mem_filter, Bool.and_eq_true, Bool.not_eq_true']
      exact ⟨_, ⟨hmem hx, ⟨⟨by simp [Nat.blt_eq]; exact hlt, w1⟩, by simpa [anc] using ha⟩⟩, rfl⟩
  · intro i y hy h2
    obtain ⟨w1, _, _⟩ := hwr hy h2
    unfold isWriter at w1
    simp only [Bool.and_eq_true, Bool.not_eq_true'] at w1
    exact w1.1.1
  · intro i y hy h2
    obtain ⟨w1, _, _⟩ := hwr hy h2
    unfold isWriter at w1
    simp only [Bool.and_eq_true, Bool.not_eq_true'] at w1
    exact w1.1.2
  · intro i j x y hy h2 hx hne hm
    obtain ⟨w1, _, _⟩ := hwr hy h2
    unfold isWriter at w1
    simp only [Bool.and_eq_true, List.all_eq_true] at w1
    have := w1.2 _ (hmem hx)
    simp only [Bool.or_eq_true, Bool.and_eq_true, Bool.not_eq_true'] at this
    rcases this with ((h | h) | h) | h
    · rw [hm] at h; simp at h
    · exact absurd (Nat.eq_of_beq_eq_true h).symm hne
    · left
      unfold ordered at h
      simp only at h
      refine ⟨fun hlt => ?_, fun hlt => ?_⟩
      · rw [if_pos (by simp [Nat.blt_eq]; exact hlt)] at h; exact h
      · rw [if_neg (by simp [Nat.blt_eq]; omega)] at h; exact h
    · exact .inr h
  · intro i j x y hy h2 hx hlt hf
    obtain ⟨_, _, w3⟩ := hwr hy h2
    by_cases ha : anc ops i j
    · exact .inl ha
    · right
      rw [w3]
      simp only [List.mem_map, List.mem_filter, Bool.and_eq_true, Bool.not_eq_true']
      exact ⟨_, ⟨hmem hx, ⟨⟨by simp [Nat.blt_eq]; exact hlt, hf⟩, by simpa [anc] using ha⟩⟩, rfl⟩
  · intro i o ho e he hb
    have := edgesBack_get hback i o (by simpa using ho) e he hb
    omega

end VE

namespace VE
open Go

/-! ## What the evaluator does in a region that draws its order -/

def DStep (c : Orc) (lo : Nat) (y : VDOper) (i : Nat) (fr : Fr) (s : St) (ft : List (Nat × Nat × Nat × Nat)) (fr1 : Fr) (s1 : St) (ft1 : List (Nat × Nat × Nat × Nat)) : Prop :=
  (wantedV fr y.o.guard = some false ∧ fr1 = putD fr y.o.dst (some (.tu [])) ∧ s1 = s ∧ ft1 = ft) ∨
  (wantedV fr y.o.guard = some true ∧ ∃ v, opV c (if y.cls = 1 then s.next else lo) fr y.o.op s = some (v, s1) ∧ fr1 = putD fr y.o.dst (some v) ∧
    ((footV fr s.next y.o.op = none ∧ ft1 = ft) ∨ ∃ a, footV fr s.next y.o.op = some a ∧ ftOk y.vs ft a = true ∧ ft1 = (i, a) :: ft))

theorem drawV_trace {c : Orc} {lo : Nat} {fr' : Fr} {s' : St} : ∀ (l : List VDOper) (i : Nat) (ft : List (Nat × Nat × Nat × Nat)) (fr : Fr) (s : St), drawV c lo i l ft fr s = some (fr', s') →
    ∃ (F : Nat → Fr) (S : Nat → St) (FT : Nat → List (Nat × Nat × Nat × Nat)), F i = fr ∧ S i = s ∧ FT i = ft ∧ F (i + l.length) = fr' ∧ S (i + l.length) = s' ∧
      ∀ (k : Nat) (y : VDOper), l[k]? = some y → DStep c lo y (i + k) (F (i + k)) (S (i + k)) (FT (i + k)) (F (i + k + 1)) (S (i + k + 1)) (FT (i + k + 1))
  | [], i, ft, fr, s, h => by
    simp [drawV] at h
    obtain ⟨rfl, rfl⟩ := h
    exact ⟨fun _ => fr, fun _ => s, fun _ => ft, rfl, rfl, rfl, rfl, rfl, by simp⟩
  | y :: l, i, ft, fr, s, h => by
    have cons : ∀ {fr1 : Fr} {s1 : St} {ft1 : List (Nat × Nat × Nat × Nat)}, DStep c lo y i fr s ft fr1 s1 ft1 → drawV c lo (i + 1) l ft1 fr1 s1 = some (fr', s') →
        ∃ (F : Nat → Fr) (S : Nat → St) (FT : Nat → List (Nat × Nat × Nat × Nat)), F i = fr ∧ S i = s ∧ FT i = ft ∧ F (i + (y :: l).length) = fr' ∧ S (i + (y :: l).length) = s' ∧
        ∀ (k : Nat) (z : VDOper), (y :: l)[k]? = some z → DStep c lo z (i + k) (F (i + k)) (S (i + k)) (FT (i + k)) (F (i + k + 1)) (S (i + k + 1)) (FT (i + k + 1)) := by
      intro fr1 s1 ft1 hs h
      obtain ⟨F, S, FT, e1, e2, e3, e4, e5, e6⟩ := drawV_trace l (i + 1) ft1 fr1 s1 h
      refine ⟨fun k => if k = i then fr else F k, fun k => if k = i then s else S k, fun k => if k = i then ft else FT k, by simp, by simp, by simp, ?_, ?_, ?_⟩
      · simp only [List.length_cons]; rw [if_neg (by omega), ← e4]; congr 1; omega
      · simp only [List.length_cons]; rw [if_neg (by omega), ← e5]; congr 1; omega
      · intro k z hk
        cases k with
        | zero =>
          simp at hk; subst hk
          simp only [Nat.add_zero, if_true]
          rw [if_neg (by omega), if_neg (by omega), if_neg (by omega), e1, e2, e3]
          exact hs
        | succ k =>
          have := e6 k z (by simpa using hk)
          dsimp only
          rw [if_neg (by omega), if_neg (by omega), if_neg (by omega), if_neg (by omega), if_neg (by omega), if_neg (by omega)]
          rw [show i + 1 + k = i + (k + 1) by omega] at this
          exact this
    simp only [drawV] at h
    split at h
    · rename_i hw
      split at h
      · rename_i a ha
        split at h
        · rename_i hft
          split at h
          · rename_i v s1 hv
            exact cons (.inr ⟨hw, v, hv, rfl, .inr ⟨a, ha, hft, rfl⟩⟩) h
          · simp at h
        · simp at h
      · rename_i ha
        split at h
        · rename_i v s1 hv
          exact cons (.inr ⟨hw, v, hv, rfl, .inl ⟨ha, rfl⟩⟩) h
        · simp at h
    · rename_i hw
      exact cons (.inl ⟨hw, rfl, rfl, rfl⟩) h
    · simp at h

/-- The evaluator's run of a region. -/
structure Trace (E : Env) (c : Orc) (lo : Nat) (ops : Array Oper) (nt : Nat) (d : List VDOper) (F : Nat → Fr) (S : Nat → St) (FT : Nat → List (Nat × Nat × Nat × Nat)) : Prop where
  reg : Reg E ops nt d
  vk : VKOrc c
  step : ∀ {i : Nat} {y : VDOper}, d[i]? = some y → DStep c lo y i (F i) (S i) (FT i) (F (i + 1)) (S (i + 1)) (FT (i + 1))
  low : lo ≤ (S 0).next
  fresh : ∀ id, (S 0).next ≤ id → (S 0).heap.get id = none

section
variable {E : Env} {c : Orc} {lo : Nat} {ops : Array Oper} {nt : Nat} {d : List VDOper} {F : Nat → Fr} {S : Nat → St} {FT : Nat → List (Nat × Nat × Nat × Nat)}

theorem Trace.get (T : Trace E c lo ops nt d F S FT) {i : Nat} (h : i < d.length) : ∃ y, d[i]? = some y := ⟨_, List.getElem?_eq_getElem h⟩

theorem lt_of_get {α : Type} {l : List α} {i : Nat} {y : α} (h : l[i]? = some y) : i < l.length := by
  rcases Nat.lt_or_ge i l.length with h0 | h0
  · exact h0
  · rw [List.getElem?_eq_none h0] at h; simp at h

/-- Steps keep what is below. -/
theorem Trace.vk1 (T : Trace E c lo ops nt d F S FT) : ∀ {i : Nat}, i ≤ d.length → lo ≤ (S i).next ∧ (∀ id, (S i).next ≤ id → (S i).heap.get id = none)
  | 0, _ => ⟨T.low, T.fresh⟩
  | i + 1, h => by
    obtain ⟨h1, h2⟩ := T.vk1 (i := i) (by omega)
    obtain ⟨y, hy⟩ := T.get (i := i) (by omega)
    rcases T.step hy with ⟨_, _, e, _⟩ | ⟨_, v, hv, _⟩
    · rw [e]; exact ⟨h1, h2⟩
    · have k : VK lo (S i) (S (i + 1)) := by
        split at hv
        · exact (VK.opV T.vk (Nat.le_refl _) hv).loMono h1
        · exact VK.opV T.vk h1 hv
      exact ⟨Nat.le_trans h1 k.next, k.fresh h2⟩

theorem Trace.vkstep (T : Trace E c lo ops nt d F S FT) {i : Nat} {y : VDOper} (hy : d[i]? = some y) : VK lo (S i) (S (i + 1)) ∧ (y.cls ≠ 2 → VK (S i).next (S i) (S (i + 1))) := by
  obtain ⟨h1, h2⟩ := T.vk1 (i := i) (Nat.le_of_lt (lt_of_get hy))
  rcases T.step hy with ⟨_, _, e, _⟩ | ⟨_, v, hv, _⟩
  · rw [e]; exact ⟨.refl _ _, fun _ => .refl _ _⟩
  · by_cases hc : y.cls = 1
    · rw [if_pos hc] at hv
      have k := VK.opV T.vk (Nat.le_refl _) hv
      exact ⟨k.loMono h1, fun _ => k⟩
    · rw [if_neg hc] at hv
      refine ⟨VK.opV T.vk h1 hv, fun h2 => ?_⟩
      rcases T.reg.cls hy h2 with h0 | h0
      · rw [opV_pure (T.reg.cls0 hy h0) hv]; exact .refl _ _
      · exact absurd h0 hc

theorem Trace.next_le (T : Trace E c lo ops nt d F S FT) : ∀ {i j : Nat}, i ≤ j → j ≤ d.length → (S i).next ≤ (S j).next := by
  intro i j h
  induction j with
  | zero => intro _; rw [Nat.le_zero.1 h]; exact Nat.le_refl _
  | succ j ih =>
    intro hj
    by_cases e : i = j + 1
    · rw [e]; exact Nat.le_refl _
    · obtain ⟨y, hy⟩ := T.get (i := j) (by omega)
      exact Nat.le_trans (ih (by omega) (by omega)) (T.vkstep hy).1.next

/-- What no writer touches stays. -/
theorem Trace.heap_same (T : Trace E c lo ops nt d F S FT) {m : Nat} {id : Nat} (hid : id < (S m).next) : ∀ {m' : Nat}, m ≤ m' → m' ≤ d.length →
    (∀ j y, m ≤ j → j < m' → d[j]? = some y → y.cls = 2 → (S (j + 1)).heap.get id = (S j).heap.get id) → (S m').heap.get id = (S m).heap.get id := by
  intro m' hm
  induction m' with
  | zero => intro _ _; rw [Nat.le_zero.1 hm]
  | succ k ih =>
    intro hk hn
    by_cases e : m = k + 1
    · rw [e]
    · have e1 := ih (by omega) (by omega) (fun j y a b => hn j y a (by omega))
      obtain ⟨y, hy⟩ := T.get (i := k) (by omega)
      rw [← e1]
      by_cases hc : y.cls = 2
      · exact hn k y (by omega) (by omega) hy hc
      · exact ((T.vkstep hy).2 hc).low id (Nat.lt_of_lt_of_le hid (T.next_le (by omega) (by omega)))

theorem Trace.vkspan (T : Trace E c lo ops nt d F S FT) {m : Nat} : ∀ {m' : Nat}, m ≤ m' → m' ≤ d.length → VK lo (S m) (S m') := by
  intro m' hm
  induction m' with
  | zero => intro _; rw [Nat.le_zero.1 hm]; exact .refl _ _
  | succ k ih =>
    intro hk
    by_cases e : m = k + 1
    · rw [e]; exact .refl _ _
    · obtain ⟨y, hy⟩ := T.get (i := k) (by omega)
      exact (ih (by omega) (by omega)).trans (T.vkstep hy).1

/-- A temporary that is not set stays. -/
theorem Trace.tmp_same (T : Trace E c lo ops nt d F S FT) {m t : Nat} : ∀ {m' : Nat}, m ≤ m' → m' ≤ d.length → (∀ j y, m ≤ j → j < m' → d[j]? = some y → y.o.dst ≠ some t) → (F m').get t = (F m).get t := by
  intro m' hm
  induction m' with
  | zero => intro _ _; rw [Nat.le_zero.1 hm]
  | succ k ih =>
    intro hk hn
    by_cases e : m = k + 1
    · rw [e]
    · obtain ⟨y, hy⟩ := T.get (i := k) (by omega)
      rw [← ih (by omega) (by omega) (fun j y a b => hn j y a (by omega))]
      have hne := hn k y (by omega) (by omega) hy
      have : ∀ v, (putD (F k) y.o.dst v).get t = (F k).get t := by
        intro v
        unfold putD
        split
        · rename_i q hq
          rw [Tr.get_set, if_neg]
          intro e; subst e; exact hne hq
        · rfl
      rcases T.step hy with ⟨_, e2, _⟩ | ⟨_, v, _, e2, _⟩
      · rw [e2, this]
      · rw [e2, this]

theorem Trace.ft_mem (T : Trace E c lo ops nt d F S FT) {i : Nat} {y : VDOper} {a : Nat × Nat × Nat} (hy : d[i]? = some y) (hw : wantedV (F i) y.o.guard = some true) (ha : footV (F i) (S i).next y.o.op = some a) :
    ∀ {j : Nat}, i < j → j ≤ d.length → (i, a) ∈ FT j := by
  intro j hj
  induction j with
  | zero => omega
  | succ k ih =>
    intro hk
    by_cases e : i = k
    · subst e
      rcases T.step hy with ⟨hw', _⟩ | ⟨_, v, _, _, h⟩
      · rw [hw] at hw'; simp at hw'
      · rcases h with ⟨h, _⟩ | ⟨b, h1, _, h3⟩
        · rw [ha] at h; simp at h
        · rw [ha] at h1; injection h1 with h1; subst h1
          rw [h3]; exact List.mem_cons_self ..
    · have h1 := ih (by omega) (by omega)
      obtain ⟨z, hz⟩ := T.get (i := k) (by omega)
      rcases T.step hz with ⟨_, _, _, h⟩ | ⟨_, v, _, _, h⟩
      · rw [h]; exact h1
      · rcases h with ⟨_, h⟩ | ⟨b, _, _, h⟩
        · rw [h]; exact h1
        · rw [h]; exact List.mem_cons_of_mem _ h1

/-- Footprints of what is not ordered lie apart. -/
theorem Trace.ft_apart (T : Trace E c lo ops nt d F S FT) {i j : Nat} {x y : VDOper} {a b : Nat × Nat × Nat} (hx : d[i]? = some x) (hy : d[j]? = some y) (hlt : i < j) (hwx : wantedV (F i) x.o.guard = some true)
    (hwy : wantedV (F j) y.o.guard = some true) (ha : footV (F i) (S i).next x.o.op = some a) (hb : footV (F j) (S j).next y.o.op = some b) (hv : i ∈ y.vs) : apartS a b = true := by
  have hm := T.ft_mem hx hwx ha hlt (Nat.le_of_lt (lt_of_get hy))
  rcases T.step hy with ⟨hw', _⟩ | ⟨_, v, _, _, h⟩
  · rw [hwy] at hw'; simp at hw'
  · rcases h with ⟨h, _⟩ | ⟨b', h1, h2, _⟩
    · rw [hb] at h; simp at h
    · rw [hb] at h1; injection h1 with h1; subst h1
      unfold ftOk at h2
      rw [List.all_eq_true] at h2
      have := h2 _ hm
      simpa [hv] using this

/-! ## What holds while the machine is on its way -/

/-- A time at which a block is as it lies now. -/
def Cmp (d : List VDOper) (S : Nat → St) (L : Nat → Prop) (m id : Nat) : Prop :=
  m ≤ d.length ∧ id < (S m).next ∧ (∀ j y, d[j]? = some y → y.cls = 2 → j < m → L j ∨ (S (j + 1)).next ≤ id) ∧ ∀ j y, d[j]? = some y → y.cls = 2 → m ≤ j → ¬ L j

theorem Trace.cmp_same (T : Trace E c lo ops nt d F S FT) {L : Nat → Prop} {m m' id : Nat} (h : Cmp d S L m id) (h' : Cmp d S L m' id) (hle : m ≤ m') : (S m').heap.get id = (S m).heap.get id := by
  refine T.heap_same h.2.1 hle h'.1 ?_
  intro j y h1 h2 hy hc
  rcases h'.2.2.1 j y hy hc h2 with hl | hl
  · exact absurd hl (h.2.2.2 j y hy hc h1)
  · have := T.next_le (i := m) (j := j + 1) (by omega) (lt_of_get hy)
    have := h.2.1; omega

structure Inv (E : Env) (lo : Nat) (ops : Array Oper) (d : List VDOper) (F : Nat → Fr) (S : Nat → St) (ρ0 : Rho) (w0 : World) (a0 : Act) (L : Nat → Prop) (a : Act) (ρ : Rho) (w : World) : Prop where
  clos : ∀ i j, L i → anc ops i j → L j
  ltN : ∀ i, L i → i < d.length
  tmp : ∀ t m, m ≤ d.length → (∀ j y, j < m → d[j]? = some y → y.o.dst = some t → L j) → (∀ j y, m ≤ j → d[j]? = some y → y.o.dst = some t → ¬ L j) →
    ∀ v, (F m).get t = some v → ∃ v', a.tmps[t]? = some v' ∧ VRel ρ w v v'
  obj : ∀ id b sh m o, ρ id = some (b, sh) → Cmp d S L m id → (S m).heap.get id = some o → ORel E ρ w o b sh
  lt : ∀ id b sh, ρ id = some (b, sh) → b < w.heap.size
  inj : ∀ id id' b sh sh' m m', ρ id = some (b, sh) → ρ id' = some (b, sh') → Cmp d S L m id → alive (S m) id → Cmp d S L m' id' → alive (S m') id' → id = id'
  ext : ∀ id x, ρ0 id = some x → ρ id = some x
  dom : ∀ id x, ρ0 id = none → ρ id = some x → ∃ i, L i ∧ (S i).next ≤ id ∧ id < (S (i + 1)).next
  newb : ∀ id b sh, ρ0 id = none → ρ id = some (b, sh) → w0.heap.size ≤ b ∨ ∃ id0 sh0, ρ0 id0 = some (b, sh0) ∧ alive (S 0) id0 ∧ lo ≤ id0
  sz : ∀ b, csz w0 b ≤ csz w b
  size : w0.heap.size ≤ w.heap.size
  keep : Kp lo ρ0 (S 0) w0 w
  loops : KL w0 w
  oo : w.os = w0.os ∧ w.output = w0.output
  asz : a.tmps.size = a0.tmps.size
  adf : a.defers = a0.defers

variable {ρ0 ρ : Rho} {w0 w : World} {a0 a : Act} {L : Nat → Prop}

theorem Inv.start (T : Trace E c lo ops nt d F S FT) (hw : WR E ρ0 (S 0) w0) (hu : Und ρ0 (S 0) (S d.length)) (hF : FRel ρ0 w0 (F 0) a0.tmps) : Inv E lo ops d F S ρ0 w0 a0 (fun _ => False) a0 ρ0 w0 := by
  have cmp0 : ∀ {id m x}, ρ0 id = some x → Cmp d S (fun _ => False) m id → id < (S 0).next ∧ (S m).heap.get id = (S 0).heap.get id := by
    intro id m x hx hc
    have hlt : id < (S 0).next := by
      rcases Nat.lt_or_ge id (S 0).next with h | h
      · exact h
      · exfalso
        have := hu id h (Nat.lt_of_lt_of_le hc.2.1 (T.next_le hc.1 (Nat.le_refl _)))
        rw [hx] at this; simp at this
    refine ⟨hlt, T.heap_same hlt (Nat.zero_le _) hc.1 ?_⟩
    intro j y _ h2 hy hcl
    rcases hc.2.2.1 j y hy hcl h2 with h | h
    · exact h.elim
    · have := T.next_le (i := 0) (j := j + 1) (by omega) (lt_of_get hy); omega
  refine ⟨fun _ _ h => h.elim, fun _ h => h.elim, ?_, ?_, hw.lt, ?_, fun _ _ h => h, fun id x h h' => by rw [h] at h'; simp at h', fun id b sh h h' => by rw [h] at h'; simp at h', fun _ => Nat.le_refl _, Nat.le_refl _, fun _ _ h _ => h, .refl _, ⟨rfl, rfl⟩, rfl, rfl⟩
  · intro t m hm h1 _ v hv
    rw [T.tmp_same (Nat.zero_le m) hm (fun j y _ hj hy e => h1 j y hj hy e)] at hv
    exact hF t v hv
  · intro id b sh m o hρ hc ho
    obtain ⟨_, e⟩ := cmp0 hρ hc
    rw [e] at ho
    exact hw.obj id b sh o hρ ho
  · intro id id' b sh sh' m m' h1 h2 c1 a1 c2 a2
    obtain ⟨_, e1⟩ := cmp0 h1 c1
    obtain ⟨_, e2⟩ := cmp0 h2 c2
    refine hw.inj id id' b sh sh' h1 h2 ?_ ?_
    · obtain ⟨o, h, hd⟩ := a1; exact ⟨o, by rw [← e1]; exact h, hd⟩
    · obtain ⟨o, h, hd⟩ := a2; exact ⟨o, by rw [← e2]; exact h, hd⟩

/-- When all has been done. -/
theorem Inv.done (T : Trace E c lo ops nt d F S FT) (hw : WR E ρ0 (S 0) w0) (hu : Und ρ0 (S 0) (S d.length)) (hI : Inv E lo ops d F S ρ0 w0 a0 L a ρ w) (hall : ∀ i, i < d.length → L i) :
    FRel ρ w (F d.length) a.tmps ∧ Stp E lo ρ0 (S 0) w0 ρ (S d.length) w := by
  have cmp : ∀ {id}, id < (S d.length).next → Cmp d S L d.length id := fun h => ⟨Nat.le_refl _, h, fun j y hy _ hj => .inl (hall j hj), fun j y hy _ hj => by have := lt_of_get hy; omega⟩
  have hfr := (T.vk1 (Nat.le_refl d.length)).2
  refine ⟨fun t v hv => hI.tmp t d.length (Nat.le_refl _) (fun j y hj _ _ => hall j hj) (fun j y hj hy _ => by have := lt_of_get hy; omega) v hv, hI.ext, ?_, hI.newb, hI.sz, hI.size, hI.keep, hI.loops, ⟨?_, hI.lt, ?_, hfr⟩, hI.oo⟩
  · intro id x h1 h2
    obtain ⟨i, hi, h3, h4⟩ := hI.dom id x h1 h2
    have := hI.ltN i hi
    exact ⟨Nat.le_trans (T.next_le (Nat.zero_le i) (by omega)) h3, Nat.lt_of_lt_of_le h4 (T.next_le (by omega) (Nat.le_refl _))⟩
  · intro id b sh o hρ ho
    refine hI.obj id b sh d.length o hρ (cmp ?_) ho
    rcases Nat.lt_or_ge id (S d.length).next with h | h
    · exact h
    · rw [hfr id h] at ho; simp at ho
  · intro id id' b sh sh' h1 h2 a1 a2
    have al : ∀ {id}, alive (S d.length) id → id < (S d.length).next := by
      rintro id ⟨o, ho, _⟩
      rcases Nat.lt_or_ge id (S d.length).next with h | h
      · exact h
      · rw [hfr id h] at ho; simp at ho
    exact hI.inj id id' b sh sh' _ _ h1 h2 (cmp (al a1)) a1 (cmp (al a2)) a2

/-- The temporaries that one looks at. -/
theorem Inv.look (T : Trace E c lo ops nt d F S FT) (hI : Inv E lo ops d F S ρ0 w0 a0 L a ρ w) {i : Nat} {y : VDOper} (hy : d[i]? = some y) (hni : ¬ L i) (hanc : ∀ j, anc ops i j → L j) :
    FRel ρ w (keepV (F i) (looks y.o.guard y.o.op)) a.tmps := by
  intro t v hv
  have hmem : t ∈ looks y.o.guard y.o.op := by
    have key : ∀ (l : List Nat) (v : V), (keepV (F i) l).get t = some v → t ∈ l := by
      intro l
      induction l with
      | nil => intro v h; simp [VE.keepV, Tr.get_nil] at h
      | cons k r ih =>
        intro v h
        simp only [VE.keepV] at h
        rw [Tr.get_set] at h
        split at h
        · rename_i e; subst e; exact List.mem_cons_self ..
        · exact List.mem_cons_of_mem _ (ih v h)
    exact key _ _ hv
  refine hI.tmp t i (Nat.le_of_lt (lt_of_get hy)) ?_ ?_ v (keepV_get _ hv)
  · intro j x hj hx e
    rcases T.reg.apart hx hy hj with h | ⟨h, _⟩
    · exact hanc j h
    · exact absurd hmem (h t e)
  · intro j x hj hx e hL
    rcases Nat.lt_or_ge i j with h0 | h0
    · rcases T.reg.apart hy hx h0 with h | ⟨_, h, _⟩
      · exact hni (hI.clos j i hL h)
      · exact absurd hmem (h t e)
    · have : i = j := by omega
      subst this; exact hni hL

end
end VE

namespace VE
open Go

section
variable {E : Env} {c : Orc} {lo : Nat} {ops : Array Oper} {nt : Nat} {d : List VDOper} {F : Nat → Fr} {S : Nat → St} {FT : Nat → List (Nat × Nat × Nat × Nat)}
variable {ρ0 ρ : Rho} {w0 w : World} {a0 a : Act} {L : Nat → Prop}

theorem alive_lt {st : St} (h : ∀ id, st.next ≤ id → st.heap.get id = none) {id : Nat} (ha : alive st id) : id < st.next := by
  obtain ⟨o, ho, _⟩ := ha
  rcases Nat.lt_or_ge id st.next with h0 | h0
  · exact h0
  · rw [h id h0] at ho; simp at ho

theorem alive_of {st st' : St} {id : Nat} (e : st'.heap.get id = st.heap.get id) (h : alive st' id) : alive st id := by
  obtain ⟨o, ho, hd⟩ := h; exact ⟨o, by rw [← e]; exact ho, hd⟩

/-- The temporaries, when one more has been done. -/
theorem Inv.tmp_step (T : Trace E c lo ops nt d F S FT) (hI : Inv E lo ops d F S ρ0 w0 a0 L a ρ w) {i : Nat} {y : VDOper} (hy : d[i]? = some y) (hni : ¬ L i) {ρ' : Rho} {w' : World} {v : V} {v' : Value} (hv : VRel ρ' w' v v')
    (he : ∀ id x, ρ id = some x → ρ' id = some x) (hz : ∀ b, csz w b ≤ csz w' b) (hF : F (i + 1) = putD (F i) y.o.dst (some v)) (hd : ∀ t, y.o.dst = some t → t < a.tmps.size) :
    ∀ t m, m ≤ d.length → (∀ j x, j < m → d[j]? = some x → x.o.dst = some t → L j ∨ j = i) → (∀ j x, m ≤ j → d[j]? = some x → x.o.dst = some t → ¬ (L j ∨ j = i)) →
    ∀ u, (F m).get t = some u → ∃ u', (a.put y.o.dst v').tmps[t]? = some u' ∧ VRel ρ' w' u u' := by
  intro t m hm h1 h2 u hu
  by_cases e : y.o.dst = some t
  · have him : i < m := by
      rcases Nat.lt_or_ge i m with h | h
      · exact h
      · exact absurd (.inr rfl) (h2 i y h hy e)
    rw [T.tmp_same (m := i + 1) (by omega) hm ?_] at hu
    · rw [hF, e] at hu
      simp only [putD, Tr.get_set, if_true] at hu
      injection hu with hu; subst hu
      have := hd t e
      exact ⟨v', by rw [e]; simp [Act.put, this], hv⟩
    · intro j x hj1 hj2 hx ex
      rcases h1 j x hj2 hx ex with h | h
      · rcases T.reg.apart hy hx (by omega) with h3 | ⟨_, _, h3⟩
        · exact hni (hI.clos j i h h3)
        · exact h3 t e ex
      · omega
  · obtain ⟨u', g1, g2⟩ := hI.tmp t m hm (fun j x hj hx ex => by
      rcases h1 j x hj hx ex with h | h
      · exact h
      · subst h; rw [hy] at hx; injection hx with hx; subst hx; exact absurd ex e) (fun j x hj hx ex hL => h2 j x hj hx ex (.inl hL)) u hu
    refine ⟨u', ?_, g2.mono he hz⟩
    cases hq : y.o.dst with
    | none => simpa [Act.put] using g1
    | some q =>
      have hne : q ≠ t := fun h => e (by rw [hq, h])
      simp only [Act.put]
      rw [Array.getElem?_setIfInBounds_ne hne]; exact g1

/-- One that writes to nothing that was there. -/
theorem Inv.free (T : Trace E c lo ops nt d F S FT) (hu0 : Und ρ0 (S 0) (S d.length)) (hI : Inv E lo ops d F S ρ0 w0 a0 L a ρ w) {i : Nat} {y : VDOper} (hy : d[i]? = some y) (hc : y.cls ≠ 2) (hni : ¬ L i) (hanc : ∀ j, anc ops i j → L j)
    {st st' : St} {ρ' : Rho} {w' : World} {v : V} {v' : Value} (hst : st.next = (S i).next) (hws : WR E ρ st w) (hs : Stp E (S i).next ρ st w ρ' st' w') (hn : st'.next = (S (i + 1)).next)
    (hh : ∀ id, (S i).next ≤ id → id < (S (i + 1)).next → st'.heap.get id = (S (i + 1)).heap.get id)
    (hlate : ∀ id m, (S i).next ≤ id → id < (S (i + 1)).next → Cmp d S L m id → (S m).heap.get id = (S (i + 1)).heap.get id)
    (hv : VRel ρ' w' v v') (hF : F (i + 1) = putD (F i) y.o.dst (some v)) (hd : ∀ t, y.o.dst = some t → t < a.tmps.size) :
    Inv E lo ops d F S ρ0 w0 a0 (fun j => L j ∨ j = i) (a.put y.o.dst v') ρ' w' := by
  have hfr := hws.fresh
  have keepAll : ∀ b o, w.heap[b]? = some o → w'.heap[b]? = some o := fun b o h => hs.keep b o h fun id sh _ ha => by rw [← hst]; exact alive_lt hfr ha
  have newFresh : ∀ id b sh, ρ id = none → ρ' id = some (b, sh) → w.heap.size ≤ b := by
    intro id b sh h1 h2
    rcases hs.newb id b sh h1 h2 with h | ⟨id0, _, _, ha, hl⟩
    · exact h
    · have := alive_lt hfr ha; omega
  have newRange : ∀ id x, ρ id = none → ρ' id = some x → (S i).next ≤ id ∧ id < (S (i + 1)).next := by
    intro id x h1 h2; rw [← hst, ← hn]; exact hs.new id x h1 h2
  have cmp : ∀ {m id}, Cmp d S (fun j => L j ∨ j = i) m id → Cmp d S L m id := by
    rintro m id ⟨h1, h2, h3, h4⟩
    refine ⟨h1, h2, fun j x hx hcx hj => ?_, fun j x hx hcx hj hL => h4 j x hx hcx hj (.inl hL)⟩
    rcases h3 j x hx hcx hj with (h | h) | h
    · exact .inl h
    · subst h; rw [hy] at hx; injection hx with hx; subst hx; exact absurd hcx hc
    · exact .inr h
  refine ⟨?_, ?_, hI.tmp_step T hy hni hv hs.ext hs.sz hF hd, ?_, hs.wr.lt, ?_, fun id x h => hs.ext _ _ (hI.ext id x h), ?_, ?_, fun b => Nat.le_trans (hI.sz b) (hs.sz b), Nat.le_trans hI.size hs.size, ?_, hI.loops.trans hs.loops, ⟨hs.oo.1.trans hI.oo.1, hs.oo.2.trans hI.oo.2⟩, ?_, ?_⟩
  · intro k j hk hj
    rcases hk with hk | rfl
    · exact .inl (hI.clos k j hk hj)
    · exact .inl (hanc j hj)
  · intro k hk
    rcases hk with hk | rfl
    · exact hI.ltN k hk
    · exact lt_of_get hy
  · intro id b sh m o hρ hcm ho
    cases h1 : ρ id with
    | some x =>
      have := hs.ext _ _ h1; rw [hρ] at this; injection this with this; subst this
      exact (hI.obj id b sh m o h1 (cmp hcm) ho).mono hs.ext hs.sz fun o' h => keepAll b o' h
    | none =>
      obtain ⟨r1, r2⟩ := newRange id _ h1 hρ
      rw [hlate id m r1 r2 (cmp hcm), ← hh id r1 r2] at ho
      exact hs.wr.obj id b sh o hρ ho
  · intro id id' b sh sh' m m' h1 h2 c1 l1 c2 l2
    cases q1 : ρ id with
    | some x =>
      have := hs.ext _ _ q1; rw [h1] at this; injection this with this; subst this
      cases q2 : ρ id' with
      | some x =>
        have := hs.ext _ _ q2; rw [h2] at this; injection this with this; subst this
        exact hI.inj id id' b sh sh' m m' q1 q2 (cmp c1) l1 (cmp c2) l2
      | none => have := newFresh _ _ _ q2 h2; have := hI.lt _ _ _ q1; omega
    | none =>
      cases q2 : ρ id' with
      | some x =>
        have := hs.ext _ _ q2; rw [h2] at this; injection this with this; subst this
        have := newFresh _ _ _ q1 h1; have := hI.lt _ _ _ q2; omega
      | none =>
        obtain ⟨r1, r2⟩ := newRange id _ q1 h1
        obtain ⟨r3, r4⟩ := newRange id' _ q2 h2
        refine hs.wr.inj id id' b sh sh' h1 h2 (alive_of ?_ l1) (alive_of ?_ l2)
        · rw [hlate id m r1 r2 (cmp c1), ← hh id r1 r2]
        · rw [hlate id' m' r3 r4 (cmp c2), ← hh id' r3 r4]
  · intro id x h1 h2
    cases q : ρ id with
    | some z => obtain ⟨k, g1, g2⟩ := hI.dom id z h1 q; exact ⟨k, .inl g1, g2⟩
    | none => exact ⟨i, .inr rfl, newRange id x q h2⟩
  · intro id b sh h1 h2
    cases q : ρ id with
    | some z =>
      have := hs.ext _ _ q; rw [h2] at this; injection this with this; subst this
      exact hI.newb id b sh h1 q
    | none => exact .inl (Nat.le_trans hI.size (newFresh id b sh q h2))
  · intro b o h1 h2; exact keepAll b o (hI.keep b o h1 h2)
  · rw [size_put]; exact hI.asz
  · rw [defers_put]; exact hI.adf

/-- One that is ordered with all others that write. -/
theorem Inv.write (T : Trace E c lo ops nt d F S FT) (hu0 : Und ρ0 (S 0) (S d.length)) (hI : Inv E lo ops d F S ρ0 w0 a0 L a ρ w) {i : Nat} {y : VDOper} (hy : d[i]? = some y) (hc : y.cls = 2) (hni : ¬ L i) (hanc : ∀ j, anc ops i j → L j)
    (hgt : ∀ j x, d[j]? = some x → x.cls = 2 → i ≤ j → ¬ L j) (hlt : ∀ j x, d[j]? = some x → x.cls = 2 → j < i → L j)
    (hund : ∀ id, (S i).next ≤ id → id < (S (i + 1)).next → ρ id = none)
    {ρ' : Rho} {w' : World} {v : V} {v' : Value} (hs : Stp E lo ρ (S i) w ρ' (S (i + 1)) w')
    (hv : VRel ρ' w' v v') (hF : F (i + 1) = putD (F i) y.o.dst (some v)) (hd : ∀ t, y.o.dst = some t → t < a.tmps.size) :
    Inv E lo ops d F S ρ0 w0 a0 (fun j => L j ∨ j = i) (a.put y.o.dst v') ρ' w' := by
  have hiN := lt_of_get hy
  have hfr := (T.vk1 (Nat.le_of_lt hiN)).2
  have vk := (T.vkstep hy).1
  have cmpi : ∀ {id}, id < (S i).next → Cmp d S L i id := fun h => ⟨Nat.le_of_lt hiN, h, fun j x hx hcx hj => .inl (hlt j x hx hcx hj), hgt⟩
  -- of what it was before
  have cmpOld : ∀ {m id}, Cmp d S (fun j => L j ∨ j = i) m id → (S (i + 1)).next ≤ id → Cmp d S L m id := by
    rintro m id ⟨h1, h2, h3, h4⟩ hge
    refine ⟨h1, h2, fun j x hx hcx hj => ?_, fun j x hx hcx hj hL => h4 j x hx hcx hj (.inl hL)⟩
    rcases h3 j x hx hcx hj with (h | h) | h
    · exact .inl h
    · subst h; exact .inr hge
    · exact .inr h
  have cmpNew : ∀ {m id}, Cmp d S (fun j => L j ∨ j = i) m id → id < (S (i + 1)).next → (S m).heap.get id = (S (i + 1)).heap.get id := by
    rintro m id ⟨h1, h2, h3, h4⟩ hlt'
    have him : i + 1 ≤ m := by
      rcases Nat.lt_or_ge i m with h | h
      · exact h
      · exact absurd (.inr rfl) (h4 i y hy hc h)
    refine T.heap_same hlt' him h1 ?_
    intro j x hj1 hj2 hx hcx
    rcases h3 j x hx hcx hj2 with (h | h) | h
    · exact absurd h (hgt j x hx hcx (by omega))
    · omega
    · have := T.next_le (i := i + 1) (j := j + 1) (by omega) (lt_of_get hx); omega
  have oldIf : ∀ {id x}, ρ' id = some x → (S (i + 1)).next ≤ id → ρ id = some x := by
    intro id x hx hge
    cases q : ρ id with
    | some z => have := hs.ext _ _ q; rw [hx] at this; rw [this]
    | none => have := (hs.new id x q hx).2; omega
  refine ⟨?_, ?_, hI.tmp_step T hy hni hv hs.ext hs.sz hF hd, ?_, hs.wr.lt, ?_, fun id x h => hs.ext _ _ (hI.ext id x h), ?_, ?_, fun b => Nat.le_trans (hI.sz b) (hs.sz b), Nat.le_trans hI.size hs.size, ?_, hI.loops.trans hs.loops, ⟨hs.oo.1.trans hI.oo.1, hs.oo.2.trans hI.oo.2⟩, ?_, ?_⟩
  · intro k j hk hj
    rcases hk with hk | rfl
    · exact .inl (hI.clos k j hk hj)
    · exact .inl (hanc j hj)
  · intro k hk
    rcases hk with hk | rfl
    · exact hI.ltN k hk
    · exact hiN
  · intro id b sh m o hρ hcm ho
    rcases Nat.lt_or_ge id (S (i + 1)).next with h | h
    · rw [cmpNew hcm h] at ho
      exact hs.wr.obj id b sh o hρ ho
    · have hρo := oldIf hρ h
      have hco := cmpOld hcm h
      cases hdd : isDead o with
      | true => cases o <;> simp [isDead] at hdd; trivial
      | false =>
        refine (hI.obj id b sh m o hρo hco ho).mono hs.ext hs.sz fun o' ho' => hs.keep b o' ho' ?_
        intro id0 sh0 h0 ha0
        have hl0 := alive_lt hfr ha0
        have := hI.inj id0 id b sh0 sh i m h0 hρo (cmpi hl0) ha0 hco ⟨o, ho, hdd⟩
        have := vk.next; omega
  · have one : ∀ id id' b sh sh' m m', ρ' id = some (b, sh) → ρ' id' = some (b, sh') → Cmp d S (fun j => L j ∨ j = i) m id → alive (S m) id → Cmp d S (fun j => L j ∨ j = i) m' id' → alive (S m') id' →
        id < (S (i + 1)).next → (S (i + 1)).next ≤ id' → id = id' := by
      intro id id' b sh sh' m m' h1 h2 c1 l1 c2 l2 g1 g2
      have o2 := oldIf h2 g2
      have oc2 := cmpOld c2 g2
      cases q1 : ρ id with
      | some x =>
        have := hs.ext _ _ q1; rw [h1] at this; injection this with this; subst this
        have hlt1 : id < (S i).next := by
          rcases Nat.lt_or_ge id (S i).next with h | h
          · exact h
          · have := hund id h g1; rw [q1] at this; simp at this
        have ha : alive (S i) id := vk.rev id hlt1 (alive_of (cmpNew c1 g1) l1)
        exact hI.inj id id' b sh sh' i m' q1 o2 (cmpi hlt1) ha oc2 l2
      | none =>
        rcases hs.newb id b sh q1 h1 with h | ⟨id0, sh0, h0, ha0, _⟩
        · have := hI.lt _ _ _ o2; omega
        · have hl0 := alive_lt hfr ha0
          have := hI.inj id0 id' b sh0 sh' i m' h0 o2 (cmpi hl0) ha0 oc2 l2
          have := vk.next; omega
    intro id id' b sh sh' m m' h1 h2 c1 l1 c2 l2
    rcases Nat.lt_or_ge id (S (i + 1)).next with g1 | g1 <;> rcases Nat.lt_or_ge id' (S (i + 1)).next with g2 | g2
    · exact hs.wr.inj id id' b sh sh' h1 h2 (alive_of (cmpNew c1 g1) l1) (alive_of (cmpNew c2 g2) l2)
    · exact one id id' b sh sh' m m' h1 h2 c1 l1 c2 l2 g1 g2
    · exact (one id' id b sh' sh m' m h2 h1 c2 l2 c1 l1 g2 g1).symm
    · exact hI.inj id id' b sh sh' m m' (oldIf h1 g1) (oldIf h2 g2) (cmpOld c1 g1) l1 (cmpOld c2 g2) l2
  · intro id x h1 h2
    cases q : ρ id with
    | some z => obtain ⟨k, g1, g2⟩ := hI.dom id z h1 q; exact ⟨k, .inl g1, g2⟩
    | none => exact ⟨i, .inr rfl, hs.new id x q h2⟩
  · intro id b sh h1 h2
    cases q : ρ id with
    | some z =>
      have := hs.ext _ _ q; rw [h2] at this; injection this with this; subst this
      exact hI.newb id b sh h1 q
    | none =>
      rcases hs.newb id b sh q h2 with h | ⟨id0, sh0, h0, ha0, hl⟩
      · exact .inl (Nat.le_trans hI.size h)
      · cases q0 : ρ0 id0 with
        | none => exact hI.newb id0 b sh0 q0 h0
        | some z =>
          have := hI.ext _ _ q0; rw [h0] at this; injection this with this; subst this
          refine .inr ⟨id0, sh0, q0, ?_, hl⟩
          have hl0 := alive_lt hfr ha0
          have hlt0 : id0 < (S 0).next := by
            rcases Nat.lt_or_ge id0 (S 0).next with h | h
            · exact h
            · have := hu0 id0 h (Nat.lt_of_lt_of_le hl0 (T.next_le (Nat.le_of_lt hiN) (Nat.le_refl _))); rw [q0] at this; simp at this
          exact (T.vkspan (Nat.zero_le i) (Nat.le_of_lt hiN)).rev id0 hlt0 ha0
  · intro b o h1 h2
    refine hs.keep b o (hI.keep b o h1 h2) ?_
    intro id sh hρ ha
    have hl0 := alive_lt hfr ha
    cases q0 : ρ0 id with
    | some z =>
      have := hI.ext _ _ q0; rw [hρ] at this; injection this with this; subst this
      refine h2 id sh q0 ?_
      have hlt0 : id < (S 0).next := by
        rcases Nat.lt_or_ge id (S 0).next with h | h
        · exact h
        · have := hu0 id h (Nat.lt_of_lt_of_le hl0 (T.next_le (Nat.le_of_lt hiN) (Nat.le_refl _))); rw [q0] at this; simp at this
      exact (T.vkspan (Nat.zero_le i) (Nat.le_of_lt hiN)).rev id hlt0 ha
    | none =>
      have hb : b < w0.heap.size := by
        rcases Nat.lt_or_ge b w0.heap.size with h | h
        · exact h
        · rw [Array.getElem?_eq_none h] at h1; simp at h1
      rcases hI.newb id b sh q0 hρ with h | ⟨id0, sh0, h0, ha0, hl⟩
      · omega
      · have := h2 id0 sh0 h0 ha0; omega
  · rw [size_put]; exact hI.asz
  · rw [defers_put]; exact hI.adf

end
end VE

namespace VE
open Go

section
variable {E : Env} {c : Orc} {lo : Nat} {ops : Array Oper} {nt : Nat} {d : List VDOper} {F : Nat → Fr} {S : Nat → St} {FT : Nat → List (Nat × Nat × Nat × Nat)}
variable {ρ0 ρ : Rho} {w0 w : World} {a0 a : Act} {L : Nat → Prop}

theorem apartS_comm {a b : Nat × Nat × Nat} (h : apartS a b = true) : apartS b a = true := by
  unfold apartS at h ⊢
  simp only [Bool.or_eq_true, Bool.and_eq_true, Bool.not_eq_true', Nat.ble_eq] at h ⊢
  rcases h with h | ⟨⟨h1, h2⟩, h3⟩
  · left
    rw [← h]
    cases h1 : Nat.beq a.1 b.1 with
    | true => rw [Nat.eq_of_beq_eq_true h1, Nat.beq_refl]
    | false =>
      cases h2 : Nat.beq b.1 a.1 with
      | true => rw [Nat.eq_of_beq_eq_true h2, Nat.beq_refl] at h1; exact h1
      | false => rfl
  · exact .inr ⟨⟨h1.symm, h3⟩, h2⟩

theorem Inv.und (T : Trace E c lo ops nt d F S FT) (hu0 : Und ρ0 (S 0) (S d.length)) (hI : Inv E lo ops d F S ρ0 w0 a0 L a ρ w) {i : Nat} (hi : i < d.length) (hni : ¬ L i) : ∀ id, (S i).next ≤ id → id < (S (i + 1)).next → ρ id = none := by
  intro id h1 h2
  cases q : ρ id with
  | none => rfl
  | some x =>
    exfalso
    have h0 : ρ0 id = none := hu0 id (Nat.le_trans (T.next_le (Nat.zero_le i) (by omega)) h1) (Nat.lt_of_lt_of_le h2 (T.next_le (by omega) (Nat.le_refl _)))
    obtain ⟨k, g1, g2, g3⟩ := hI.dom id x h0 q
    have hk := hI.ltN k g1
    rcases Nat.lt_trichotomy i k with h | h | h
    · have := T.next_le (i := i + 1) (j := k) (by omega) (by omega); omega
    · subst h; exact hni g1
    · have := T.next_le (i := k + 1) (j := i) (by omega) (by omega); omega

/-- Memory as it is at a time at which all writers ahead have been done, and none behind. -/
theorem Inv.wr_at (T : Trace E c lo ops nt d F S FT) (hI : Inv E lo ops d F S ρ0 w0 a0 L a ρ w) {i : Nat} (hi : i ≤ d.length)
    (hlt : ∀ j x, d[j]? = some x → x.cls = 2 → j < i → L j) (hgt : ∀ j x, d[j]? = some x → x.cls = 2 → i ≤ j → ¬ L j) : WR E ρ (S i) w := by
  have hfr := (T.vk1 hi).2
  have cmpi : ∀ {id}, id < (S i).next → Cmp d S L i id := fun h => ⟨hi, h, fun j x hx hcx hj => .inl (hlt j x hx hcx hj), hgt⟩
  refine ⟨?_, hI.lt, ?_, hfr⟩
  · intro id b sh o hρ ho
    refine hI.obj id b sh i o hρ (cmpi ?_) ho
    rcases Nat.lt_or_ge id (S i).next with h | h
    · exact h
    · rw [hfr id h] at ho; simp at ho
  · intro id id' b sh sh' h1 h2 a1 a2
    exact hI.inj id id' b sh sh' i i h1 h2 (cmpi (alive_lt hfr a1)) a1 (cmpi (alive_lt hfr a2)) a2

/-- Nothing at all, from one id on. -/
theorem Inv.wr_nil (hI : Inv E lo ops d F S ρ0 w0 a0 L a ρ w) (n : Nat) : WR E ρ ⟨.nil, n⟩ w :=
  ⟨fun id b sh o _ h => by simp [Tr.get_nil] at h, hI.lt, fun id id' b sh sh' _ _ a1 _ => by obtain ⟨o, ho, _⟩ := a1; simp [Tr.get_nil] at ho, fun id _ => Tr.get_nil id⟩

/-- One block alone. -/
theorem Inv.wr_one (hI : Inv E lo ops d F S ρ0 w0 a0 L a ρ w) {n m id : Nat} {o : VO} (hc : Cmp d S L m id) (ho : (S m).heap.get id = some o) (hn : id < n) : WR E ρ ⟨Tr.set .nil id (some o), n⟩ w := by
  refine ⟨?_, hI.lt, ?_, ?_⟩
  · intro id' b sh o' hρ h
    simp only [Tr.get_set, Tr.get_nil] at h
    split at h
    · rename_i e; subst e; injection h with h; subst h; exact hI.obj _ b sh m _ hρ hc ho
    · simp at h
  · intro i1 i2 b sh sh' _ _ a1 a2
    obtain ⟨o1, h1, _⟩ := a1
    obtain ⟨o2, h2, _⟩ := a2
    simp only [Tr.get_set, Tr.get_nil] at h1 h2
    split at h1
    · split at h2
      · rename_i e1 e2; rw [e1, e2]
      · simp at h2
    · simp at h1
  · intro k hk
    simp only [Tr.get_set, Tr.get_nil] at *
    rw [if_neg (by omega)]

/-- How far the writers have got. -/
theorem Inv.epoch (T : Trace E c lo ops nt d F S FT) (hI : Inv E lo ops d F S ρ0 w0 a0 L a ρ w) : ∀ n, n ≤ d.length → ∃ e, e ≤ n ∧ (∀ j x, d[j]? = some x → x.cls = 2 → j < e → L j) ∧ ∀ j x, d[j]? = some x → x.cls = 2 → e ≤ j → j < n → ¬ L j
  | 0, _ => ⟨0, Nat.le_refl _, fun j x _ _ h => by omega, fun j x _ _ _ h => by omega⟩
  | n + 1, hn => by
    obtain ⟨e, h1, h2, h3⟩ := hI.epoch T n (by omega)
    by_cases hq : ∃ x, d[n]? = some x ∧ x.cls = 2 ∧ L n
    · obtain ⟨y, hy, hc, hl⟩ := hq
      refine ⟨n + 1, Nat.le_refl _, fun j x hx hcx hj => ?_, fun j x _ _ _ h => by omega⟩
      by_cases hjn : j = n
      · subst hjn; exact hl
      · rcases T.reg.ord hy hc hx hjn (T.reg.wmem hx hcx) with ⟨h, _⟩ | ⟨h, _⟩
        · exact hI.clos n j hl (h (by omega))
        · rw [T.reg.wfl hx hcx] at h; simp at h
    · refine ⟨e, by omega, h2, fun j x hx hcx h4 h5 hl => ?_⟩
      by_cases hjn : j = n
      · subst hjn; exact hq ⟨x, hx, hcx, hl⟩
      · exact h3 j x hx hcx h4 (by omega) hl

/-- Cells read stay, step by step. -/
theorem Trace.rd_same (T : Trace E c lo ops nt d F S FT) {m id off n : Nat} (hid : id < (S m).next) : ∀ {m' : Nat}, m ≤ m' → m' ≤ d.length →
    (∀ j y, m ≤ j → j < m' → d[j]? = some y → y.cls = 2 → (S (j + 1)).rd id off n = (S j).rd id off n) → (S m').rd id off n = (S m).rd id off n := by
  intro m' hm
  induction m' with
  | zero => intro _ _; rw [Nat.le_zero.1 hm]
  | succ k ih =>
    intro hk hn
    by_cases e : m = k + 1
    · rw [e]
    · rw [← ih (by omega) (by omega) (fun j y a b => hn j y a (by omega))]
      obtain ⟨y, hy⟩ := T.get (i := k) (by omega)
      by_cases hc : y.cls = 2
      · exact hn k y (by omega) (by omega) hy hc
      · have := ((T.vkstep hy).2 hc).low id (Nat.lt_of_lt_of_le hid (T.next_le (by omega) (by omega)))
        unfold St.rd; rw [this]

/-- What one writes that is not ordered with it lies apart from what a float looks at. -/
theorem Trace.foot_rd (T : Trace E c lo ops nt d F S FT) {j : Nat} {y : VDOper} (hy : d[j]? = some y) (hc : y.cls = 2) (hf : footed y.o.op = true) {id : Nat} (hid : id < (S j).next) {off n : Nat}
    (hap : wantedV (F j) y.o.guard = some true → ∀ b, footV (F j) (S j).next y.o.op = some b → apartS b (id, off, n) = true) : (S (j + 1)).rd id off n = (S j).rd id off n := by
  rcases T.step hy with ⟨_, _, e, _⟩ | ⟨hw, v, hv, _⟩
  · rw [e]
  · rw [if_neg (by omega)] at hv
    have hl := (T.vk1 (Nat.le_of_lt (lt_of_get hy))).1
    obtain ⟨k1, k2⟩ := footed_keeps hf hl hv hid
    cases hft : footV (F j) (S j).next y.o.op with
    | none => unfold St.rd; rw [k1 hft]
    | some b => exact (k2 b hft).2 off n (hap hw b hft)

theorem Trace.foot_get (T : Trace E c lo ops nt d F S FT) {j : Nat} {y : VDOper} (hy : d[j]? = some y) (hc : y.cls = 2) (hf : footed y.o.op = true) {id : Nat} (hid : id < (S j).next)
    (hap : wantedV (F j) y.o.guard = some true → ∀ b, footV (F j) (S j).next y.o.op = some b → b.1 ≠ id) : (S (j + 1)).heap.get id = (S j).heap.get id := by
  rcases T.step hy with ⟨_, _, e, _⟩ | ⟨hw, v, hv, _⟩
  · rw [e]
  · rw [if_neg (by omega)] at hv
    have hl := (T.vk1 (Nat.le_of_lt (lt_of_get hy))).1
    obtain ⟨k1, k2⟩ := footed_keeps hf hl hv hid
    cases hft : footV (F j) (S j).next y.o.op with
    | none => exact k1 hft
    | some b => exact (k2 b hft).1 (hap hw b hft)

/-- The block that a load looks at: as it lies now, it reads the same. -/
theorem Inv.load_now (T : Trace E c lo ops nt d F S FT) (hu0 : Und ρ0 (S 0) (S d.length)) (hI : Inv E lo ops d F S ρ0 w0 a0 L a ρ w) {i : Nat} {y : VDOper} (hy : d[i]? = some y) (hl : isLoad y.o.op = true) (hni : ¬ L i)
    (hanc : ∀ j, anc ops i j → L j) (hw : wantedV (F i) y.o.guard = some true) {id off n : Nat} (hft : footV (F i) (S i).next y.o.op = some (id, off, n)) {x : Nat × Nat} (hρ : ρ id = some x) (hid : id < (S i).next) :
    ∃ m, Cmp d S L m id ∧ (S m).rd id off n = (S i).rd id off n := by
  have hiN := lt_of_get hy
  have hmem : memOp y.o.op = true := by cases hop : y.o.op <;> simp [hop, isLoad] at hl <;> rfl
  obtain ⟨e, e1, e2, e3⟩ := hI.epoch T d.length (Nat.le_refl _)
  have e3' : ∀ j x, d[j]? = some x → x.cls = 2 → e ≤ j → ¬ L j := fun j x hx hc h => e3 j x hx hc h (lt_of_get hx)
  rcases Nat.lt_or_ge i e with hie | hie
  · -- writers behind it have been done
    refine ⟨e, ⟨e1, Nat.lt_of_lt_of_le hid (T.next_le (by omega) e1), fun j x hx hc h => .inl (e2 j x hx hc h), e3'⟩, ?_⟩
    refine T.rd_same hid (by omega) e1 ?_
    intro j z h1 h2 hz hc
    have hji : i ≠ j := by
      intro h; subst h; exact hni (e2 _ z hz hc (by omega))
    have hLj := e2 j z hz hc h2
    rcases T.reg.ord hz hc hy hji hmem with ⟨h, _⟩ | ⟨hfl, hfo⟩
    · exact absurd (hI.clos j i hLj (h (by omega))) hni
    · rcases T.reg.wvs hz hc hy (by omega) hfl with h | h
      · exact absurd (hI.clos j i hLj h) hni
      · exact T.foot_rd hz hc hfo (Nat.lt_of_lt_of_le hid (T.next_le h1 (Nat.le_of_lt (lt_of_get hz)))) fun hwz b hb => apartS_comm (T.ft_apart hy hz (by omega) hw hwz hft hb h)
  · -- writers ahead of it have not
    have hm : ∃ m, e ≤ m ∧ m ≤ i ∧ id < (S m).next ∧ (m = e ∨ (S (m - 1)).next ≤ id) := by
      have key : ∀ k, k ≤ i → e ≤ k → id < (S k).next → ∃ m, e ≤ m ∧ m ≤ i ∧ id < (S m).next ∧ (m = e ∨ (S (m - 1)).next ≤ id) := by
        intro k
        induction k with
        | zero => intro h1 h2 h3; exact ⟨0, h2, h1, h3, .inl (by omega)⟩
        | succ k ih =>
          intro h1 h2 h3
          by_cases he : e = k + 1
          · exact ⟨k + 1, h2, h1, h3, .inl he.symm⟩
          · rcases Nat.lt_or_ge id (S k).next with h | h
            · exact ih (by omega) (by omega) h
            · exact ⟨k + 1, h2, h1, h3, .inr h⟩
      exact key i (Nat.le_refl _) hie hid
    obtain ⟨m, m1, m2, m3, m4⟩ := hm
    refine ⟨m, ⟨by omega, m3, fun j z hz hc hj => ?_, fun j z hz hc hj => e3' j z hz hc (by omega)⟩, ?_⟩
    · rcases Nat.lt_or_ge j e with h | h
      · exact .inl (e2 j z hz hc h)
      · rcases m4 with m4 | m4
        · omega
        · by_cases hjm : j + 1 = m
          · left
            have hjm' : m - 1 = j := by omega
            rw [hjm'] at m4
            rw [← hjm] at m3
            have h0 : ρ0 id = none := hu0 id (Nat.le_trans (T.next_le (Nat.zero_le j) (by omega)) m4) (Nat.lt_of_lt_of_le m3 (T.next_le (by omega) (Nat.le_refl _)))
            obtain ⟨k, g1, g2, g3⟩ := hI.dom id x h0 hρ
            have hk := hI.ltN k g1
            rcases Nat.lt_trichotomy j k with h | h | h
            · have := T.next_le (i := j + 1) (j := k) (by omega) (by omega); omega
            · subst h; exact g1
            · have := T.next_le (i := k + 1) (j := j) (by omega) (by omega); omega
          · right
            exact Nat.le_trans (T.next_le (by omega) (by omega)) m4
    · refine (T.rd_same m3 m2 (by omega) ?_).symm
      intro j z h1 h2 hz hc
      have hLj := e3' j z hz hc (by omega)
      rcases T.reg.ord hz hc hy (by omega) hmem with ⟨_, h⟩ | ⟨hfl, hfo⟩
      · exact absurd (hanc j (h (by omega))) hLj
      · rcases T.reg.load hy hl hz hc h2 with h | h
        · exact absurd (hanc j h) hLj
        · exact T.foot_rd hz hc hfo (Nat.lt_of_lt_of_le m3 (T.next_le h1 (by omega))) fun hwz b hb => T.ft_apart hz hy h2 hwz hw hb hft h

theorem guard_mem {y : VDOper} : ∀ t b, y.o.guard = some (t, b) → t ∈ looks y.o.guard y.o.op := by
  intro t b e; rw [e]; simp [looks]

theorem opnd_mem {y : VDOper} : ∀ t ∈ tmpsOf y.o.op.opnds, t ∈ looks y.o.guard y.o.op := by
  intro t h; unfold looks; exact List.mem_append_right _ h

theorem foot_float {op : VOp} (hf : floats op = true) (hl : isLoad op = false) (fr : Fr) (n : Nat) : footV fr n op = some (n, 0, whole) := by
  cases op <;> simp only [floats, isLoad, Bool.false_eq_true, reduceCtorEq] at hf hl <;> rfl

/-- One more is done. -/
theorem Inv.step (hE : EnvOk E) (hC : COk E c) (T : Trace E c lo ops nt d F S FT) (hu0 : Und ρ0 (S 0) (S d.length)) (hnt : nt ≤ a0.tmps.size) (hI : Inv E lo ops d F S ρ0 w0 a0 L a ρ w) {i : Nat} {y : VDOper} (hy : d[i]? = some y) (hni : ¬ L i)
    (hanc : ∀ j, anc ops i j → L j) {ro : Option Nat} {Q : Exit → Act → World → Prop} {K : Act → World → Prop} (hK : ∀ a' ρ' w', Inv E lo ops d F S ρ0 w0 a0 (fun j => L j ∨ j = i) a' ρ' w' → K a' w') :
    wpOpIn (Wd ro) 0 E.P ops Q i K a w := by
  have hiN := lt_of_get hy
  obtain ⟨o, ho, hg, hdst, hop, hdb⟩ := T.reg.op hy
  have hd : ∀ t, y.o.dst = some t → t < a.tmps.size := by
    intro t e; rw [hI.asz]; exact Nat.lt_of_lt_of_le (hdb t (by rw [← hdst]; exact e)) hnt
  have hlook := hI.look T hy hni hanc
  have hund := hI.und T hu0 hiN hni
  obtain ⟨hlo, hfr⟩ := T.vk1 (Nat.le_of_lt hiN)
  unfold wpOpIn
  simp only [ho]
  -- the writers ahead, and behind
  have wlt : y.cls = 2 → ∀ j x, d[j]? = some x → x.cls = 2 → j < i → L j := by
    intro hc j x hx hcx hj
    rcases T.reg.ord hy hc hx (by omega) (T.reg.wmem hx hcx) with ⟨h, _⟩ | ⟨h, _⟩
    · exact hanc j (h hj)
    · rw [T.reg.wfl hx hcx] at h; simp at h
  have wgt : y.cls = 2 → ∀ j x, d[j]? = some x → x.cls = 2 → i ≤ j → ¬ L j := by
    intro hc j x hx hcx hj hL
    by_cases e : j = i
    · subst e; exact hni hL
    · rcases T.reg.ord hy hc hx e (T.reg.wmem hx hcx) with ⟨_, h⟩ | ⟨h, _⟩
      · exact hni (hI.clos j i hL (h (by omega)))
      · rw [T.reg.wfl hx hcx] at h; simp at h
  rcases T.step hy with ⟨hw, hF, hS, _⟩ | ⟨hw, v, hv, hF, _⟩
  · -- it is not wanted
    have hwant := wanted_ok (ops := ops) (o := o) hg hlook (b := false) (by rw [wantedV_only guard_mem]; exact hw)
    rw [hwant, if_neg (by simp)]
    refine ⟨fun _ _ => trivial, ?_⟩
    rw [← hdst]
    by_cases hc : y.cls = 2
    · have hws := hI.wr_at T (Nat.le_of_lt hiN) (wlt hc) (wgt hc)
      refine hK _ ρ w (hI.write T hu0 hy hc hni hanc (wgt hc) (wlt hc) hund (v := .tu []) (v' := undef) ?_ undef_rel hF hd)
      rw [hS]; exact .refl lo hws
    · have hws := hI.wr_nil (S i).next
      exact hK _ ρ w (hI.free T hu0 hy hc hni hanc (st := ⟨.nil, (S i).next⟩) (st' := ⟨.nil, (S i).next⟩) rfl hws (.refl _ hws) (by rw [hS]) (fun id h1 h2 => by rw [hS] at h2; omega) (fun id m h1 h2 => by rw [hS] at h2; omega) (v := .tu []) undef_rel hF hd)
  · -- it is
    have hwant := wanted_ok (ops := ops) (o := o) hg hlook (b := true) (by rw [wantedV_only guard_mem]; exact hw)
    rw [hwant, if_pos rfl]
    by_cases hc : y.cls = 2
    · rw [if_neg (by omega)] at hv
      have hws := hI.wr_at T (Nat.le_of_lt hiN) (wlt hc) (wgt hc)
      refine op_wp (fr := keepV (F i) (looks y.o.guard y.o.op)) (v := v) (s := S i) (s' := S (i + 1)) (ρ := ρ) (lo := lo) hE hC hws hlook hund hlo (by rw [← hop, opV_only opnd_mem]; exact hv) ?_
      intro ρ' w' v' h1 h2
      rw [← hdst]
      exact hK _ ρ' w' (hI.write T hu0 hy hc hni hanc (wgt hc) (wlt hc) hund h2 h1 hF hd)
    · -- it writes to nothing that was there
      have go : ∀ (st st' : St), st.next = (S i).next → WR E ρ st w → st'.next = (S (i + 1)).next → (∀ id, (S i).next ≤ id → id < (S (i + 1)).next → st'.heap.get id = (S (i + 1)).heap.get id) →
          (∀ id m, (S i).next ≤ id → id < (S (i + 1)).next → Cmp d S L m id → (S m).heap.get id = (S (i + 1)).heap.get id) → opV c (S i).next (F i) y.o.op st = some (v, st') → Oper.wpIn (Wd ro) 0 E.P o a w K Q := by
        intro st st' h1 h2 h3 h4 h5 h6
        refine op_wp (fr := keepV (F i) (looks y.o.guard y.o.op)) (v := v) (s := st) (s' := st') (ρ := ρ) (lo := (S i).next) hE hC h2 hlook (fun id g1 g2 => hund id (by omega) (by omega)) (by omega) (by rw [← hop, opV_only opnd_mem]; exact h6) ?_
        intro ρ' w' v' g1 g2
        rw [← hdst]
        exact hK _ ρ' w' (hI.free T hu0 hy hc hni hanc h1 h2 g2 h3 h4 h5 g1 hF hd)
      by_cases hm : memOp y.o.op = false
      · obtain ⟨hs, hp⟩ := pure_at hm hv
        exact go ⟨.nil, (S i).next⟩ ⟨.nil, (S i).next⟩ rfl (hI.wr_nil _) (by rw [hs]) (fun id g1 g2 => by rw [hs] at g2; omega) (fun id m g1 g2 => by rw [hs] at g2; omega) (hp _ _)
      · have hm : memOp y.o.op = true := by simpa using hm
        have hc1 : y.cls = 1 := by
          rcases T.reg.cls hy hc with h | h
          · rw [T.reg.cls0 hy h] at hm; simp at hm
          · exact h
        rw [if_pos hc1] at hv
        by_cases hl : isLoad y.o.op = true
        · obtain ⟨hs, id, off, n, x, hft, hx, hex, cs, hr, hat⟩ := load_at hl hv
          have hid : id < (S i).next := by
            obtain ⟨o1, g, gd⟩ := rd_alive hr
            exact alive_lt hfr ⟨_, g, gd⟩
          have hxr : VRel ρ w (.p id off) (a.eval x) := by
            refine evO_rel hlook ?_
            rw [← hex]
            cases x with
            | tmp t => simp only [evO]; exact keepV_mem _ (opnd_mem t (mem_tmpsOf hx))
            | const v => rfl
            | global g => rfl
            | func f => rfl
          obtain ⟨b, sh, hρ, _⟩ := hxr.inv_p
          obtain ⟨m, hcm, hrd⟩ := hI.load_now T hu0 hy hl hni hanc hw (hft _) hρ hid
          rw [hr] at hrd
          obtain ⟨cs0, g1, _⟩ := rd_alive hrd
          have hws := hI.wr_one (n := (S i).next) hcm g1 hid
          refine go ⟨Tr.set .nil id (some cs0), (S i).next⟩ ⟨Tr.set .nil id (some cs0), (S i).next⟩ rfl hws (by rw [hs]) (fun id g1 g2 => by rw [hs] at g2; omega) (fun id m g1 g2 => by rw [hs] at g2; omega) (hat _ _ ?_)
          rw [← hrd]
          refine rd_congr ?_ _ _
          simp only [Tr.get_set, if_true]
          exact g1.symm
        · have hl : isLoad y.o.op = false := by simpa using hl
          by_cases hfl : floats y.o.op = true
          · obtain ⟨ob, hs, hat⟩ := alloc_at hfl hl hv
            have hid : ∀ id, (S i).next ≤ id → id < (S (i + 1)).next → id = (S i).next := by
              intro id g1 g2; rw [hs, next_alloc] at g2; omega
            have hft := foot_float hfl hl (F i) (S i).next
            refine go ⟨.nil, (S i).next⟩ (St.alloc ⟨.nil, (S i).next⟩ ob) rfl (hI.wr_nil _) (by rw [hs]; rfl) ?_ ?_ (hat _ _ rfl)
            · intro id g1 g2
              have := hid id g1 g2; subst this
              rw [hs, get_alloc, get_alloc, if_pos rfl, if_pos rfl]
            · intro id m g1 g2 hcm
              have := hid id g1 g2; subst this
              have him : i + 1 ≤ m := by
                rcases Nat.lt_or_ge i m with h | h
                · exact h
                · have := T.next_le h (Nat.le_of_lt hiN); have := hcm.2.1; omega
              refine T.heap_same g2 him hcm.1 ?_
              intro j z h1 h2 hz hcz
              have hnj := T.next_le (i := i + 1) (j := j) h1 (Nat.le_of_lt (lt_of_get hz))
              have hnj1 := (T.vkstep hz).1.next
              have hLj : L j := by
                rcases hcm.2.2.1 j z hz hcz h2 with h | h
                · exact h
                · omega
              rcases T.reg.ord hz hcz hy (by omega) hm with ⟨h, _⟩ | ⟨hfl2, hfo⟩
              · exact absurd (hI.clos j i hLj (h (by omega))) hni
              · rcases T.reg.wvs hz hcz hy (by omega) hfl2 with h | h
                · exact absurd (hI.clos j i hLj h) hni
                · refine T.foot_get hz hcz hfo (by omega) fun hwz b hb e => ?_
                  have hap := T.ft_apart hy hz (by omega) hw hwz hft hb h
                  rw [← e] at hap
                  simp [apartS, whole] at hap
          · have hfl : floats y.o.op = false := by simpa using hfl
            have elt : ∀ j x, d[j]? = some x → x.cls = 2 → j < i → L j := by
              intro j x hx hcx hj
              rcases T.reg.ord hx hcx hy (by omega) hm with ⟨_, h⟩ | ⟨h, _⟩
              · exact hanc j (h hj)
              · rw [hfl] at h; simp at h
            have egt : ∀ j x, d[j]? = some x → x.cls = 2 → i ≤ j → ¬ L j := by
              intro j x hx hcx hj hL
              have hne : i ≠ j := by intro e; subst e; exact hni hL
              rcases T.reg.ord hx hcx hy hne hm with ⟨h, _⟩ | ⟨h, _⟩
              · exact hni (hI.clos j i hL (h (by omega)))
              · rw [hfl] at h; simp at h
            have hws := hI.wr_at T (Nat.le_of_lt hiN) elt egt
            refine go (S i) (S (i + 1)) rfl hws rfl (fun _ _ _ => rfl) ?_ hv
            intro id m g1 g2 hcm
            have him : i + 1 ≤ m := by
              rcases Nat.lt_or_ge i m with h | h
              · exact h
              · have := T.next_le h (Nat.le_of_lt hiN); have := hcm.2.1; omega
            refine T.heap_same g2 him hcm.1 ?_
            intro j z h1 h2 hz hcz
            exfalso
            have hnj := T.next_le (i := i + 1) (j := j) h1 (Nat.le_of_lt (lt_of_get hz))
            have hnj1 := (T.vkstep hz).1.next
            rcases hcm.2.2.1 j z hz hcz h2 with h | h
            · exact egt j z hz hcz (by omega) h
            · omega

/-- How many are left. -/
def left (listed : Array Bool) : Nat := listed.toList.countP (· == false)

theorem any_wp (hE : EnvOk E) (hC : COk E c) (T : Trace E c lo ops nt d F S FT) (hw0 : WR E ρ0 (S 0) w0) (hu0 : Und ρ0 (S 0) (S d.length)) (hnt : nt ≤ a0.tmps.size) {ro : Option Nat} {Q : Exit → Act → World → Prop}
    (hQ : ∀ ρ' a' w', FRel ρ' w' (F d.length) a'.tmps → a'.tmps.size = a0.tmps.size → a'.defers = a0.defers → Stp E lo ρ0 (S 0) w0 ρ' (S d.length) w' → Q .normal a' w') :
    ∀ (fuel : Nat) (listed : Array Bool) (a : Act) (ρ : Rho) (w : World), listed.size = d.length → Inv E lo ops d F S ρ0 w0 a0 (fun i => listed[i]? = some true) a ρ w → left listed ≤ fuel →
      wpAnyIn (Wd ro) 0 E.P .any ops Q fuel listed a w := by
  -- all has been done, if nothing is ready
  have fin : ∀ (listed : Array Bool) (a : Act) (ρ : Rho) (w : World), listed.size = d.length → Inv E lo ops d F S ρ0 w0 a0 (fun i => listed[i]? = some true) a ρ w → Region.ready .any ops listed = [] → Q .normal a w := by
    intro listed a ρ w hsz hI hr
    have hall : ∀ i, i < d.length → listed[i]? = some true := by
      intro i
      induction i using Nat.strongRecOn with
      | _ i ih =>
        intro hi
        cases hli : listed[i]? with
        | none => rw [Array.getElem?_eq_none_iff] at hli; omega
        | some b =>
          cases b with
          | true => rfl
          | false =>
            exfalso
            obtain ⟨y, hy⟩ := T.get hi
            obtain ⟨o, ho, _⟩ := T.reg.op hy
            have : i ∈ Region.ready .any ops listed := by
              rw [mem_ready]
              refine ⟨by rw [Array.getD_eq_getD_getElem?, hli]; rfl, o, ho, fun e he hb => ?_⟩
              have hlt := T.reg.back ho e he hb
              rw [Array.getD_eq_getD_getElem?, ih e.on hlt (by omega)]; rfl
            rw [hr] at this; simp at this
    obtain ⟨h1, h2⟩ := hI.done T hw0 hu0 hall
    exact hQ ρ a w h1 hI.asz hI.adf h2
  intro fuel
  induction fuel with
  | zero =>
    intro listed a ρ w hsz hI hl
    have hr : Region.ready .any ops listed = [] := by
      apply List.eq_nil_iff_forall_not_mem.2
      intro i hi
      rw [mem_ready] at hi
      have h0 : left listed = 0 := by omega
      unfold left at h0
      rw [List.countP_eq_zero] at h0
      have hg := hi.1
      rw [Array.getD_eq_getD_getElem?] at hg
      cases hq : listed[i]? with
      | none => rw [hq] at hg; simp at hg
      | some b =>
        rw [hq] at hg; simp at hg; subst hg
        have := h0 false (by rw [← Array.getElem?_toList] at hq; exact List.mem_of_getElem? hq)
        simp at this
    exact ⟨hr, fin listed a ρ w hsz hI hr⟩
  | succ fuel ih =>
    intro listed a ρ w hsz hI hl
    refine ⟨fin listed a ρ w hsz hI, fun i hi => ?_⟩
    rw [mem_ready] at hi
    obtain ⟨hg, o, ho, hpre⟩ := hi
    have hli : listed[i]? = some false := by
      rw [Array.getD_eq_getD_getElem?] at hg
      cases hq : listed[i]? with
      | none => rw [hq] at hg; simp at hg
      | some b => rw [hq] at hg; simp at hg; subst hg; rfl
    have hiN : i < d.length := by
      rw [← hsz]
      rcases Nat.lt_or_ge i listed.size with h | h
      · exact h
      · rw [Array.getElem?_eq_none h] at hli; simp at hli
    obtain ⟨y, hy⟩ := T.get hiN
    have hanc := anc_ready ho hI.clos (fun e he hb => by
      have := hpre e he hb
      rw [Array.getD_eq_getD_getElem?] at this
      cases hq : listed[e.on]? with
      | none => rw [hq] at this; simp at this
      | some b => rw [hq] at this; simp at this; subst this; rfl)
    refine hI.step hE hC T hu0 hnt hy (by rw [hli]; simp) hanc ?_
    intro a' ρ' w' hI'
    have hiff : ∀ j, (listed.setIfInBounds i true)[j]? = some true ↔ (listed[j]? = some true ∨ j = i) := by
      intro j
      rw [Array.getElem?_setIfInBounds]
      split
      · rename_i e; subst e
        rw [if_pos (by omega)]; simp
      · rename_i e
        constructor
        · exact .inl
        · rintro (h | h)
          · exact h
          · exact absurd h.symm e
    refine ih (listed.setIfInBounds i true) a' ρ' w' (by simpa using hsz) ?_ ?_
    · have : (fun j => (listed.setIfInBounds i true)[j]? = some true) = fun j => listed[j]? = some true ∨ j = i := by
        funext j; exact propext (hiff j)
      rw [this]; exact hI'
    · have : left (listed.setIfInBounds i true) + 1 = left listed := by
        unfold left
        rw [Array.toList_setIfInBounds]
        have key : ∀ (l : List Bool) (i : Nat), l[i]? = some false → (l.set i true).countP (· == false) + 1 = l.countP (· == false) := by
          intro l
          induction l with
          | nil => intro i h; simp at h
          | cons b r ih =>
            intro i h
            cases i with
            | zero => simp at h; subst h; simp [List.countP_cons]
            | succ i =>
              have := ih i (by simpa using h)
              simp only [List.set_cons_succ, List.countP_cons]
              omega
        exact key _ _ (by simpa using hli)
      omega

theorem draw_wp (hE : EnvOk E) (hC : COk E c) {id : Nat} {ro : Option Nat} {Q : Exit → Act → World → Prop} {fr fr' : Fr} {s s' : St} {l : List VOper}
    (hc : compOps E.P E.eqs E.keys nt ops ops.toList = some l) (hd : compDraw l ops.toList = some d) (h : drawV c lo 0 d [] fr s = some (fr', s')) (hF : FRel ρ w fr a.tmps) (hn : nt ≤ a.tmps.size) (hw : WR E ρ s w)
    (hu : Und ρ s s') (hlo : lo ≤ s.next)
    (hQ : ∀ ρ' a' w', FRel ρ' w' fr' a'.tmps → a'.tmps.size = a.tmps.size → a'.defers = a.defers → Stp E lo ρ s w ρ' s' w' → Q .normal a' w') : (Code.region id ops true).wpIn (Wd ro) 0 E.P Q a w := by
  obtain ⟨F, S, FT, e1, e2, _, e4, e5, hstep⟩ := drawV_trace d 0 [] fr s h
  simp only [Nat.zero_add] at e4 e5 hstep
  subst e1; subst e2; subst e4; subst e5
  have T : Trace E c lo ops nt d F S FT := ⟨reg_of hc hd, hC.vk, fun {i y} hy => hstep i y hy, hlo, hw.fresh⟩
  refine wpIn_region_any hE.mixed ?_
  have hw1 : WR E ρ (S 0) { w with drawn := w.drawn + 1 } := hw.at rfl
  have hlen : ops.size = d.length := T.reg.len.symm
  rw [hlen]
  refine any_wp (w0 := { w with drawn := w.drawn + 1 }) (a0 := a) (ρ0 := ρ) hE hC T hw1 hu hn ?_ d.length _ a ρ _ (by simp) ?_ ?_
  · intro ρ' a' w' g1 g2 g3 g4
    exact hQ ρ' a' w' g1 g2 g3 (Stp.at (w := w) (w1 := { w with drawn := w.drawn + 1 }) rfl ⟨rfl, rfl⟩ g4)
  · have hI := Inv.start (a0 := a) T hw1 hu (FRel.mono (w := w) (w' := { w with drawn := w.drawn + 1 }) (fun _ _ h => h) (fun _ => Nat.le_refl _) hF)
    have : (fun i : Nat => (Array.replicate d.length false)[i]? = some true) = fun _ => False := by
      funext i
      apply propext
      simp [Array.getElem?_replicate]
    rw [this]; exact hI
  · unfold left
    have := List.countP_le_length (p := (· == false)) (l := (Array.replicate d.length false).toList)
    simpa using this

end
end VE

namespace VE
open Go

section
variable {E : Env} {lo : Nat} {ρ : Rho} {s s' : St} {w : World} {v : V} {fr : Fr} {a : Act} {c : Orc}

/-- A block is laid that has no name. -/
theorem Stp.push (o : Obj) (hw : WR E ρ s w) : Stp E lo ρ s w ρ s { w with heap := w.heap.push o } := by
  have hold : ∀ (k : Nat) (x : Obj), w.heap[k]? = some x → (w.heap.push o)[k]? = some x := by
    intro k x hk
    rw [Array.getElem?_push]
    have : k < w.heap.size := by
      rcases Nat.lt_or_ge k w.heap.size with h0 | h0
      · exact h0
      · rw [Array.getElem?_eq_none h0] at hk; simp at hk
    rw [if_neg (by omega)]; exact hk
  have hcs : ∀ k, csz w k ≤ csz { w with heap := w.heap.push o } k := fun k => by
    cases hk : w.heap[k]? with
    | none => simp [csz, hk]
    | some x => exact Nat.le_of_eq (csz_same (by rw [hk]; exact hold k x hk)).symm
  refine ⟨fun _ _ h => h, fun id x h h' => by rw [h] at h'; simp at h', fun id b sh h h' => by rw [h] at h'; simp at h', hcs, by simp, fun k x hk _ => hold k x hk, fun k L h => ⟨L, hold k _ h, rfl⟩, ?_, rfl, rfl⟩
  exact ⟨fun id b sh x h1 h2 => (hw.obj id b sh x h1 h2).mono (fun _ _ h => h) hcs fun o' h => hold b o' h, fun id b sh h => by have := hw.lt id b sh h; simp; omega, hw.inj, hw.fresh⟩

theorem get_push (h : Array Obj) (o : Obj) : (h.push o)[h.size]? = some o := by simp

theorem enterLoop_ok {P : Program} {fn : FuncId} {tmps : Array Value} {ps : Array Tmp} {x y : Code} {ro : Option Nat} (hr : RoOk ro w) :
    (ro = none ∧ (Instr.enterLoop fn tmps ps x y ro).run P w = .ok (w.heap.size + 1, [{ target := .collected w.heap.size, args := #[] }])
        { w with heap := (w.heap.push (.deferred (some []))).push (.loop { state := .ready, pending := none, fn, tmps, params := ps, assign := x, body := y, defers := w.heap.size }) }) ∨
    ∃ D, (Instr.enterLoop fn tmps ps x y ro).run P w = .ok (w.heap.size, []) { w with heap := w.heap.push (.loop { state := .ready, pending := none, fn, tmps, params := ps, assign := x, body := y, defers := D }) } := by
  cases ro with
  | none => left; refine ⟨rfl, ?_⟩; simp [Instr.enterLoop, newObj, Sem.run]; rfl
  | some l =>
    right
    obtain ⟨L, hL⟩ := hr l rfl
    have hg := getObj_run (P := P) hL rfl
    exact ⟨L.defers, by simp [Instr.enterLoop, Instr.getLoop, hg, newObj, Sem.run]⟩

theorem rangeFunc_wp (hC : COk E c) {g : Operand} {ps : Array Tmp} {x y : Code} {x' y' : VC} {nt : Nat} {ro : Option Nat} {fr' : Fr} {e : VX} (hx : CRel E.P E.eqs E.keys nt x x') (hy : CRel E.P E.eqs E.keys nt y y') (hp : ∀ t ∈ ps, t < nt)
    (h : X c lo (.rangeFunc g ps.toList x' y') fr s = some (e, fr', s')) (hn : nt ≤ a.tmps.size) (hF : FRel ρ w fr a.tmps) (hw : WR E ρ s w) (hu : Und ρ s s') (hlo : lo ≤ s.next) (hro : RoOk ro w) :
    (Code.rangeFunc g ps x y).wpIn (Wd ro) 0 E.P (XPost E lo ρ s w a e fr' s') a w := by
  simp only [X] at h
  split at h
  · rename_i k first captured hf
    split at h
    · rename_i v1 s1 hcall
      split at h
      · rename_i st pend fr2 ps2 x2 y2 hg
        split at h
        · simp at h
        · rename_i hst
          have hfin : ∃ o, o = VO.loop .exhausted pend fr2 ps2 x2 y2 ∧ s' = s1.put s.next o ∧ fr' = fr ∧ ((pend = none ∧ e = .nrm) ∨ pend = some e) := by
            cases pend with
            | none => simp only [Option.some.injEq, Prod.mk.injEq] at h; exact ⟨_, rfl, h.2.2.symm, h.2.1.symm, .inl ⟨rfl, h.1.symm⟩⟩
            | some q => simp only [Option.some.injEq, Prod.mk.injEq] at h; exact ⟨_, rfl, h.2.2.symm, h.2.1.symm, .inr (by rw [h.1])⟩
          obtain ⟨o, ho, rfl, rfl, hpe⟩ := hfin
          have sA : VK lo s (s.alloc (.loop .ready none fr' ps.toList x' y')) := .alloc hlo _
          have kA := hC.vk.call (Nat.le_trans hlo sA.next) hcall
          have hun : ρ s.next = none := hu _ (Nat.le_refl _) (by have := kA.next; rw [next_put]; simp [St.alloc] at this; omega)
          refine wpIn_rangeFunc fun fn _ => ?_
          -- the record is laid
          have start : ∃ (l : Nat) (mark : List Deferred) (w1 : World), (Instr.enterLoop fn a.tmps ps x y (Wd ro).round).run E.P w = .ok (l, mark) w1 ∧
              Stp E lo ρ s w (ρ.put s.next (l, 0)) (s.alloc (.loop .ready none fr' ps.toList x' y')) w1 ∧ mark.Pairwise (fun x y => x.target ≠ y.target) ∧ ∀ d ∈ mark, Marked (ρ.put s.next (l, 0)) w w1 d := by
            rcases enterLoop_ok (P := E.P) (fn := fn) (tmps := a.tmps) (ps := ps) (x := x) (y := y) hro with ⟨_, r⟩ | ⟨D, r⟩
            · refine ⟨_, _, _, r, ?_, by simp, ?_⟩
              · have p1 : Stp E lo ρ s w ρ s { w with heap := w.heap.push (.deferred (some [])) } := .push _ hw
                have hF1 := (hF.mono p1.ext p1.sz).mono (Rho.put_ext (x := ((w.heap.push (.deferred (some []))).size, 0)) hun) (fun k => (Stp.push (E := E) (lo := lo) (.loop { state := .ready, pending := none, fn, tmps := a.tmps, params := ps, assign := x, body := y, defers := w.heap.size }) p1.wr).sz k)
                have p2 := Stp.make (E := E) (lo := lo) (ρ := ρ) (s := s) (w := { w with heap := w.heap.push (.deferred (some [])) })
                  (w' := { w with heap := (w.heap.push (.deferred (some []))).push (.loop { state := .ready, pending := none, fn, tmps := a.tmps, params := ps, assign := x, body := y, defers := w.heap.size }) })
                  (o := .loop .ready none fr' ps.toList x' y') (o' := .loop { state := .ready, pending := none, fn, tmps := a.tmps, params := ps, assign := x, body := y, defers := w.heap.size }) hun hlo p1.wr rfl
                  ⟨{ state := .ready, pending := none, fn, tmps := a.tmps, params := ps, assign := x, body := y, defers := w.heap.size }, get_push _ _, rfl, rfl, by simp, rfl, hF1, nt, hn, by simpa using hp, hx, hy⟩ ⟨rfl, rfl⟩
                have p3 := p1.trans p2 (.refl _ _) sA (fun id h1 h2 => hu id h1 (Nat.lt_of_lt_of_le h2 (by rw [next_put]; exact kA.next))) hw
                rw [Array.size_push] at p3
                exact p3
              · intro d hd
                simp at hd; subst hd
                refine ⟨w.heap.size, rfl, Nat.le_refl _, ?_, ?_⟩
                · simp only
                  rw [Array.getElem?_push, if_neg (by simp), Array.getElem?_push, if_pos rfl]
                · intro id sh hx
                  rcases Rho.put_some hx with ⟨_, e1⟩ | ⟨_, e1⟩
                  · injection e1 with e1 _; omega
                  · have := hw.lt _ _ _ e1; omega
            · refine ⟨_, _, _, r, ?_, .nil, by simp⟩
              exact .make hun hlo hw rfl ⟨{ state := .ready, pending := none, fn, tmps := a.tmps, params := ps, assign := x, body := y, defers := D }, get_push _ _, rfl, rfl, by simp, rfl,
                hF.mono (Rho.put_ext hun) (fun k => (Stp.push (E := E) (lo := lo) _ hw).sz k), nt, hn, by simpa using hp, hx, hy⟩ ⟨rfl, rfl⟩
          obtain ⟨l, mark, w1, q1, q2, q3, q4⟩ := start
          obtain ⟨a1, c1, h1, h2, hfe⟩ := ((evO_rel hF hf).mono q2.ext q2.sz).inv_fn
          have hua : Und (ρ.put s.next (l, 0)) (s.alloc (.loop .ready none fr' ps.toList x' y')) s1 := Und.snd (lo := lo) (s2 := s1) (fun id h1 h2 => hu id h1 (by rw [next_put]; exact h2)) sA q2
          have hyl : VRelL (ρ.put s.next (l, 0)) w1 [.yl s.next] (#[Value.func (.yield l) #[] #[]] : Array Value).toList := .cons (.yl (Rho.put_same _ _ _)) .nil
          obtain ⟨⟨fd, g1, g2, g3⟩, hcl⟩ := hC.call (args' := a1 ++ #[.func (.yield l) #[] #[]] ++ c1) hcall (by simpa using (h1.append hyl).append h2) q2.wr hua (Nat.le_trans hlo sA.next)
          have hres : (resolve a.eval (rangeCall g l) 0).run E.P w1 = .ok { target := .fn (.func k) c1, args := a1 ++ #[.func (.yield l) #[] #[]] } w1 := by
            simp only [resolve, rangeCall, hfe, Deferred.ofValue]
            simp [Act.eval]
          have hinv : (invoke (.fn (.func k) c1) (a1 ++ #[.func (.yield l) #[] #[]])).run E.P w1 = .ok (.enter k (a1 ++ #[.func (.yield l) #[] #[]] ++ c1)) w1 := by
            simp [invoke, callFunc, g1, g2, g3]
          refine ⟨l, mark, w1, { target := .fn (.func k) c1, args := a1 ++ #[.func (.yield l) #[] #[]] }, w1, k, a1 ++ #[.func (.yield l) #[] #[]] ++ c1, w1, q1, hres, fun _ _ => trivial, hinv, fun h => by simp [Wd, Fence.wide] at h, ?_⟩
          refine CallsIn.mono (callsIn_wd (ro' := ro) (m := 0 - 1) hcl) ?_
          · intro en w3 hen
            cases en with
            | returned u =>
              obtain ⟨ρ2, r1, r2⟩ := hen
              have hρ2 : ρ2 s.next = some (l, 0) := r2.ext _ _ (Rho.put_same _ _ _)
              obtain ⟨L, L1, L2, L3, L4, L5, L6, L7⟩ := r2.wr.obj _ _ _ _ hρ2 hg
              have st := q2.trans r2 sA kA (fun id h1 h2 => hu id h1 (by rw [next_put]; exact h2)) hw
              have st2 : Stp E lo ρ2 s1 w3 ρ2 (s1.put s.next o) { w3 with heap := w3.heap.setIfInBounds l (.loop { L with state := .exhausted }) } := by
                refine .obj hρ2 hlo ⟨_, hg, rfl⟩ r2.wr L1 rfl rfl (fun L' hL' => by injection hL' with hL'; subst hL'; exact ⟨_, rfl, rfl⟩) ?_
                intro w' hw' hb hcz
                subst ho
                refine ⟨_, hb, rfl, L3, L4, L5, L6.mono (fun _ _ h => h) hcz, L7⟩
              have st3 := st.trans st2 (sA.trans kA) (.put o hlo ⟨_, hg, rfl⟩) hu hw
              have hgo := getObj_run (P := E.P) L1 rfl
              have hso := setObj_run (P := E.P) L1 (o' := .loop { L with state := .exhausted }) rfl
              refine ⟨L.pending, { w3 with heap := w3.heap.setIfInBounds l (.loop { L with state := .exhausted }) }, ?_, ?_⟩
              · have hb : ¬ (L.state = .busy) := by rw [L2]; exact hst
                simp [Instr.endLoop, Instr.getLoop, hgo, hb, hso]
              · have fin : XEnd E lo ρ s w a fr' (s1.put s.next o) { a with defers := mark ++ a.defers } { w3 with heap := w3.heap.setIfInBounds l (.loop { L with state := .exhausted }) } := by
                  refine ⟨⟨ρ2, hF.mono st3.ext st3.sz, st3, mark, rfl, q3, fun d hd => ((q4 d hd).keep r2).keep st2⟩, rfl⟩
                rw [L3] at fin ⊢
                rcases hpe with ⟨rfl, rfl⟩ | rfl
                · exact ⟨rfl, fin⟩
                · cases e with
                  | nrm => exact (L4 rfl).elim
                  | exit id => exact wpIn_exit ⟨rfl, fin⟩
                  | goto id => exact wpIn_goto ⟨rfl, fin⟩
                  | ret => exact wpIn_ret ⟨rfl, fin⟩
            | panicked _ => exact hen.elim
            | outgrown => exact hen.elim
      · simp at h
    · simp at h
  · simp at h

theorem X_ok (hE : EnvOk E) (hC : COk E c) {nt : Nat} {ro : Option Nat} {cb : Code} {y : VC} (hy : CRel E.P E.eqs E.keys nt cb y) : ∀ {fr fr' : Fr} {s s' : St} {x : VX} {ρ : Rho} {w : World} {a : Act}, X c lo y fr s = some (x, fr', s') →
    nt ≤ a.tmps.size → FRel ρ w fr a.tmps → WR E ρ s w → Und ρ s s' → lo ≤ s.next → RoOk ro w → cb.wpIn (Wd ro) 0 E.P (XPost E lo ρ s w a x fr' s') a w := by
  induction hy with
  | skip =>
    intro fr fr' s s' x ρ w a h hn hF hw hu hlo hro
    simp only [X, Option.some.injEq, Prod.mk.injEq] at h
    obtain ⟨rfl, rfl, rfl⟩ := h
    exact wpIn_skip ⟨rfl, .refl hw hF⟩
  | ops hc =>
    intro fr fr' s s' x ρ w a h hn hF hw hu hlo hro
    simp only [X] at h
    split at h
    · rename_i fr1 s1 h1
      simp only [Option.some.injEq, Prod.mk.injEq] at h
      obtain ⟨rfl, rfl, rfl⟩ := h
      refine wpIn_region ?_
      have := ops_wp (ro := ro) (Q := XPost E lo ρ s w a .nrm fr1 s1) hE hC _ _ 0 fr s a w ρ rfl hc h1 hF hn hw hu hlo (fun ρ' a' w' g1 g2 g3 g4 => ⟨rfl, ⟨ρ', g1, g4, [], g3, .nil, by simp⟩, g2⟩)
      simpa using this
    · simp at h
  | draw hc hd =>
    intro fr fr' s s' x ρ w a h hn hF hw hu hlo hro
    simp only [X] at h
    split at h
    · rename_i fr1 s1 h1
      simp only [Option.some.injEq, Prod.mk.injEq] at h
      obtain ⟨rfl, rfl, rfl⟩ := h
      exact draw_wp hE hC hc hd h1 hF hn hw hu hlo (fun ρ' a' w' g1 g2 g3 g4 => ⟨rfl, ⟨ρ', g1, g4, [], g3, .nil, by simp⟩, g2⟩)
    · simp at h
  | seq ha hb iha ihb =>
    intro fr fr' s s' x ρ w a h hn hF hw hu hlo hro
    simp only [X] at h
    refine wpIn_seq ?_
    split at h
    · rename_i fr1 s1 h1
      have k1 := VK.X hC.vk _ hlo h1
      have k2 := VK.X hC.vk _ (Nat.le_trans hlo k1.next) h
      refine wpIn_mono (iha h1 hn hF hw (hu.fst k2) hlo hro) ?_
      rintro e a1 w1 ⟨rfl, ⟨ρ1, g1, g2, ds, g3, g4, g5⟩, g6⟩
      refine wpIn_mono (ihb h (by rw [g6]; exact hn) g1 g2.wr (hu.snd k1 g2) (Nat.le_trans hlo k1.next) (hro.keep g2.loops)) ?_
      rintro e a2 w2 ⟨rfl, q⟩
      exact ⟨rfl, XEnd.trans (fr1 := fr1) hw hu k1 k2 g2 g3 g4 g5 g6 q⟩
    · rename_i r hr
      refine wpIn_mono (iha h hn hF hw hu hlo hro) ?_
      rintro e a1 w1 ⟨rfl, q⟩
      cases x with
      | nrm => exact (hr _ _ h).elim
      | exit id => exact ⟨rfl, q⟩
      | goto l => exact ⟨rfl, q⟩
      | ret => exact ⟨rfl, q⟩
  | cond cnd ha hb iha ihb =>
    intro fr fr' s s' x ρ w a h hn hF hw hu hlo hro
    simp only [X] at h
    split at h
    · rename_i hc; exact wpIn_cond_true (evO_rel hF hc).inv_b (iha h hn hF hw hu hlo hro)
    · rename_i hc; exact wpIn_cond_false (evO_rel hF hc).inv_b (ihb h hn hF hw hu hlo hro)
    · simp at h
  | block id hb ih =>
    intro fr fr' s s' x ρ w a h hn hF hw hu hlo hro
    simp only [X] at h
    refine wpIn_block ?_
    split at h
    · rename_i id' fr1 s1 h1
      have hs : s1 = s' := by split at h <;> (simp at h; exact h.2.2)
      subst hs
      refine wpIn_mono (ih h1 hn hF hw hu hlo hro) ?_
      rintro e a1 w1 ⟨rfl, q⟩
      simp only [exitV, Exit.inBlock]
      split at h
      · rename_i e; subst e
        simp at h; obtain ⟨rfl, rfl⟩ := h
        rw [if_pos rfl]; exact ⟨rfl, q⟩
      · rename_i e
        simp at h; obtain ⟨rfl, rfl⟩ := h
        rw [if_neg e]; exact ⟨rfl, q⟩
    · rename_i r hr
      refine wpIn_mono (ih h hn hF hw hu hlo hro) ?_
      rintro e a1 w1 ⟨rfl, q⟩
      cases x with
      | exit id => exact (hr _ _ _ h).elim
      | nrm => exact ⟨rfl, q⟩
      | goto l => exact ⟨rfl, q⟩
      | ret => exact ⟨rfl, q⟩
  | loop k hb ih =>
    intro fr fr' s s' x ρ w a h hn hF hw hu hlo hro
    simp only [X] at h
    exact wpIn_loop' (hC.loop h hb hn (hF.keepV k) hw hu hlo hro)
  | rangeFunc f hx hy hp =>
    intro fr fr' s s' x ρ w a h hn hF hw hu hlo hro
    exact rangeFunc_wp hC hx hy hp h hn hF hw hu hlo hro
  | exit id =>
    intro fr fr' s s' x ρ w a h hn hF hw hu hlo hro
    simp only [X, Option.some.injEq, Prod.mk.injEq] at h
    obtain ⟨rfl, rfl, rfl⟩ := h
    exact wpIn_exit ⟨rfl, .refl hw hF⟩
  | scope hb ih =>
    intro fr fr' s s' x ρ w a h hn hF hw hu hlo hro
    simp only [X] at h
    exact wpIn_scope' (hC.jump h hb hb hn hF hw hu hlo hro)
  | label l =>
    intro fr fr' s s' x ρ w a h hn hF hw hu hlo hro
    simp only [X, Option.some.injEq, Prod.mk.injEq] at h
    obtain ⟨rfl, rfl, rfl⟩ := h
    exact wpIn_label ⟨rfl, .refl hw hF⟩
  | goto l =>
    intro fr fr' s s' x ρ w a h hn hF hw hu hlo hro
    simp only [X, Option.some.injEq, Prod.mk.injEq] at h
    obtain ⟨rfl, rfl, rfl⟩ := h
    exact wpIn_goto ⟨rfl, .refl hw hF⟩
  | ret =>
    intro fr fr' s s' x ρ w a h hn hF hw hu hlo hro
    simp only [X, Option.some.injEq, Prod.mk.injEq] at h
    obtain ⟨rfl, rfl, rfl⟩ := h
    exact wpIn_ret ⟨rfl, .refl hw hF⟩

end
end VE

namespace VE
open Go

section
variable {E : Env} {lo : Nat} {ρ : Rho} {s s' : St} {w : World} {v : V} {fr : Fr} {a : Act} {c : Orc}

theorem LoopIn.mono {F : Fence} {P : Program} {cb : Code} {Q Q' : Exit → Act → World → Prop} (h : LoopIn F P cb Q a w) (hq : ∀ e a w, Q e a w → Q' e a w) : LoopIn F P cb Q' a w :=
  fun b k cs hro hb hr => let ⟨e, a', w', q, r⟩ := h b k cs hro hb hr; ⟨e, a', w', hq _ _ _ q, r⟩

theorem ScopeIn.mono {F : Fence} {P : Program} {cb cur : Code} {Q Q' : Exit → Act → World → Prop} (h : ScopeIn F P cb cur Q a w) (hq : ∀ e a w, Q e a w → Q' e a w) : ScopeIn F P cb cur Q' a w :=
  fun b k cs hro hb hr => let ⟨e, a', w', q, r⟩ := h b k cs hro hb hr; ⟨e, a', w', hq _ _ _ q, r⟩

/-! ### Arguments, results -/

theorem argsV_get : ∀ (l : List V) (k : Nat) {t : Nat} {v : V}, (argsV k l).get t = some v → k ≤ t ∧ l[t - k]? = some v
  | [], k, t, v, h => by simp [argsV, Tr.get_nil] at h
  | x :: r, k, t, v, h => by
    simp only [argsV] at h
    rw [Tr.get_set] at h
    split at h
    · rename_i e; subst e; injection h with h; subst h; exact ⟨Nat.le_refl _, by simp⟩
    · obtain ⟨h1, h2⟩ := argsV_get r (k + 1) h
      refine ⟨by omega, ?_⟩
      rw [show t - k = (t - (k + 1)) + 1 by omega]; simpa using h2

theorem FRel.args {l : List V} {l' : Array Value} (h : VRelL ρ w l l'.toList) (rest : Array Value) : FRel ρ w (argsV 0 l) (l' ++ rest) := by
  intro t v hv
  obtain ⟨_, h2⟩ := argsV_get l 0 hv
  obtain ⟨v', h3, h4⟩ := h.get h2
  refine ⟨v', ?_, h4⟩
  rw [Nat.sub_zero, Array.getElem?_toList] at h3
  have hlt : t < l'.size := by
    rcases Nat.lt_or_ge t l'.size with h0 | h0
    · exact h0
    · rw [Array.getElem?_eq_none h0] at h3; simp at h3
  rw [Array.getElem?_append_left hlt]
  exact h3

theorem FRel.setL : ∀ {ps : List Nat} {vs : List V} {l' : List Value} {fr : Fr} {t : Array Value}, FRel ρ w fr t → VRelL ρ w vs l' → (∀ p ∈ ps, p < t.size) → FRel ρ w (setL fr (ps.zip vs)) ((ps.zip l').foldl (fun tmps (x : Tmp × Value) => tmps.setIfInBounds x.1 x.2) t)
  | [], vs, l', fr, t, h, _, _ => by simpa [VE.setL] using h
  | p :: ps, _, _, fr, t, h, .nil, _ => by simpa [VE.setL] using h
  | p :: ps, _, _, fr, t, h, .cons (v := v) (v' := v') a b, hp => by
    simp only [List.zip_cons_cons, VE.setL, List.foldl_cons]
    refine FRel.setL ?_ b (by simpa using fun q hq => hp q (List.mem_cons_of_mem _ hq))
    exact FRel.put (a := { tmps := t, defers := [] }) (dst := some p) h (fun d e => by injection e with e; subst e; exact hp _ (List.mem_cons_self ..)) a

theorem size_fold : ∀ (l : List (Tmp × Value)) (t : Array Value), (l.foldl (fun tmps (x : Tmp × Value) => tmps.setIfInBounds x.1 x.2) t).size = t.size
  | [], _ => rfl
  | _ :: r, t => by simp only [List.foldl_cons]; rw [size_fold r]; simp

theorem resV_ok {r : ResultVar} {q : VRes} {tmps : Array Value} (hw : WR E ρ s w) (hF : FRel ρ w fr tmps) (hc : compR E.P [r] = some [q]) (h : resV fr s q = some v) :
    ∃ v', (match r with
      | .tmp t => (Pure.pure (tmps.getD t undef) : Sem Value)
      | .cell a t => do loadVar t (← asAddr (tmps.getD a undef))).run E.P w = .ok v' w ∧ VRel ρ w v v' := by
  cases r with
  | tmp t =>
    simp [compR] at hc; subst hc
    simp only [resV] at h
    obtain ⟨v', h1, h2⟩ := hF _ _ h
    exact ⟨v', by simp [h1], h2⟩
  | cell t ty =>
    simp only [compR] at hc
    split at hc
    · rename_i g l hg hl
      simp at hl; subst hl
      simp at hc; subst hc
      simp only [resV] at h
      split at h
      · rename_i id off ht
        rw [Option.bind_eq_some_iff] at h
        obtain ⟨cs, hr, hm⟩ := h
        obtain ⟨v', h1, h2⟩ := hF _ _ ht
        obtain ⟨b, sh, hρ, rfl⟩ := h2.inv_p
        obtain ⟨u, h3, h4⟩ := loadVar_ok hw hg hρ hr hm
        exact ⟨u, by simp [h1, asAddr, h3], h4⟩
      · simp at h
    · simp at hc

theorem resL_ok {tmps : Array Value} (hw : WR E ρ s w) (hF : FRel ρ w fr tmps) : ∀ {rs : List ResultVar} {qs : List VRes} {vs : List V}, compR E.P rs = some qs → resL fr s qs = some vs →
    ∃ l, (rs.mapM (m := Sem) fun
      | .tmp t => (Pure.pure (tmps.getD t undef) : Sem Value)
      | .cell a t => do loadVar t (← asAddr (tmps.getD a undef))).run E.P w = .ok l w ∧ VRelL ρ w vs l
  | [], qs, vs, hc, h => by
    simp [compR] at hc; subst hc
    simp [resL] at h; subst h
    exact ⟨[], rfl, .nil⟩
  | r :: rs, qs, vs, hc, h => by
    have hsplit : ∃ q qs', qs = q :: qs' ∧ compR E.P [r] = some [q] ∧ compR E.P rs = some qs' := by
      cases r with
      | tmp t => simp only [compR, Option.map_eq_some_iff] at hc; obtain ⟨l, hl, rfl⟩ := hc; exact ⟨_, _, rfl, by simp [compR], hl⟩
      | cell t ty =>
        simp only [compR] at hc
        split at hc
        · rename_i g l hg hl; injection hc with hc; subst hc; exact ⟨_, _, rfl, by simp [compR, hg], hl⟩
        · simp at hc
    obtain ⟨q, qs', rfl, h1, h2⟩ := hsplit
    simp only [resL] at h
    split at h
    · rename_i v vs' hv hvs
      injection h with h; subst h
      obtain ⟨v', r1, r2⟩ := resV_ok hw hF h1 hv
      obtain ⟨l, r3, r4⟩ := resL_ok hw hF h2 hvs
      refine ⟨v' :: l, ?_, .cons r2 r4⟩
      rw [List.mapM_cons, Sem.run_bind, r1, Result.andThen_ok, Sem.run_bind, r3, Result.andThen_ok, Sem.run_pure]
    · simp at h

theorem one_rel {vs : List V} {l : List Value} (h : VRelL ρ w vs l) : VRel ρ w (one vs) (if h : l.toArray.size = 1 then l.toArray[0] else .tuple l.toArray) := by
  cases h with
  | nil => exact .tu .nil
  | cons a t =>
    cases t with
    | nil => simpa [one] using a
    | cons b t => simpa [one] using VRel.tu (.cons a (.cons b t))

theorem results_ok {fn : Func} {tmps : Array Value} {qs : List VRes} {vs : List V} (hw : WR E ρ s w) (hF : FRel ρ w fr tmps) (hc : compR E.P fn.results.toList = some qs) (h : resL fr s qs = some vs) :
    ∃ v', (results fn tmps).run E.P w = .ok v' w ∧ VRel ρ w (one vs) v' := by
  obtain ⟨l, h1, h2⟩ := resL_ok hw hF hc h
  refine ⟨_, ?_, one_rel h2⟩
  unfold results
  rw [Sem.run_bind, Array.mapM_eq_mapM_toList, Sem.run_map]
  erw [h1]
  simp

/-- A block of deferred calls is shut. -/
theorem Stp.shut {ρ' : Rho} {w' : World} {r : Nat} (hs : Stp E lo ρ s w ρ' s' w') (h1 : w.heap.size ≤ r) (h2 : w'.heap[r]? = some (.deferred (some []))) (h3 : ∀ id sh, ρ' id ≠ some (r, sh)) :
    Stp E lo ρ s w ρ' s' { w' with heap := w'.heap.setIfInBounds r (.deferred none) } := by
  have hlt : r < w'.heap.size := by
    rcases Nat.lt_or_ge r w'.heap.size with h0 | h0
    · exact h0
    · rw [Array.getElem?_eq_none h0] at h2; simp at h2
  have hb : ({ w' with heap := w'.heap.setIfInBounds r (.deferred none) } : World).heap[r]? = some (.deferred none) := by simp [hlt]
  have hh : ∀ k, k ≠ r → ({ w' with heap := w'.heap.setIfInBounds r (.deferred none) } : World).heap[k]? = w'.heap[k]? := fun k hk => by
    simp only; exact Array.getElem?_setIfInBounds_ne (Ne.symm hk)
  have hcs : ∀ k, csz w' k ≤ csz { w' with heap := w'.heap.setIfInBounds r (.deferred none) } k := fun k => by
    by_cases e : k = r
    · subst e; simp [csz, h2]
    · exact Nat.le_of_eq (csz_same (hh k e)).symm
  have hold : ∀ b o, w.heap[b]? = some o → b ≠ r := by
    intro b o hb0 e
    subst e
    rw [Array.getElem?_eq_none h1] at hb0; simp at hb0
  refine ⟨hs.ext, hs.new, hs.newb, fun b => Nat.le_trans (hs.sz b) (hcs b), by have := hs.size; simpa using this, ?_, ?_, ?_, hs.oo⟩
  · intro b o h4 h5
    rw [hh b (hold b o h4)]; exact hs.keep b o h4 h5
  · intro b L h4
    rw [hh b (hold b _ h4)]; exact hs.loops b L h4
  · refine ⟨?_, fun id b sh h => by have := hs.wr.lt id b sh h; simpa using this, hs.wr.inj, hs.wr.fresh⟩
    intro id b sh o h4 h5
    have hne : b ≠ r := fun e => by subst e; exact h3 _ _ h4
    exact (hs.wr.obj id b sh o h4 h5).mono (fun _ _ h => h) hcs fun o' h => by rw [hh b hne]; exact h

/-- What is left behind by ranges over functions is taken up; then the results. -/
theorem leaves_ok {fn : Func} {tmps : Array Value} {qs : List VRes} {vs : List V} (hc : compR E.P fn.results.toList = some qs) (h : resL fr s' qs = some vs) : ∀ (ds : List Deferred) {ρ' : Rho} {w' : World},
    Stp E lo ρ s w ρ' s' w' → FRel ρ' w' fr tmps → ds.Pairwise (fun x y => x.target ≠ y.target) → (∀ d ∈ ds, Marked ρ' w w' d) → LeavesInM (Wd none) 0 E.P fn tmps (RetPost E lo ρ s w (one vs) s') ds .returning w'
  | [], ρ', w', hs, hF, _, _ => by
    obtain ⟨v', h1, h2⟩ := results_ok hs.wr hF hc h
    exact ⟨v', h1, ρ', h2, hs⟩
  | d :: ds, ρ', w', hs, hF, hp, hm => by
    rw [List.pairwise_cons] at hp
    obtain ⟨r, rfl, m1, m2, m3⟩ := hm d (List.mem_cons_self ..)
    have hs' := hs.shut m1 m2 m3
    have hg := getObj_run (P := E.P) m2 rfl
    have hso := setObj_run (P := E.P) m2 (o' := .deferred none) rfl
    refine ⟨by simp, .inl ⟨r, { w' with heap := w'.heap.setIfInBounds r (.deferred none) }, rfl, by simp [Instr.takeDeferred, hg, hso], ?_⟩⟩
    refine leaves_ok hc h ds hs' (hF.mono (fun _ _ h => h) fun k => ?_) hp.2 ?_
    · by_cases e : k = r
      · subst e; simp [csz, m2]
      · exact Nat.le_of_eq (csz_same (by simp only; exact (Array.getElem?_setIfInBounds_ne (Ne.symm e)))).symm
    · intro d hd
      obtain ⟨r', rfl, n1, n2, n3⟩ := hm d (List.mem_cons_of_mem _ hd)
      have hne : r ≠ r' := by have := hp.1 _ hd; simpa using this
      exact ⟨r', rfl, n1, by simp only; rw [Array.getElem?_setIfInBounds_ne hne]; exact n2, n3⟩

/-- The table: of every function what the evaluator runs. -/
def TabOk (E : Env) (T : Tr VFn) : Prop := ∀ k f, T.get k = some f → ∃ fn hints, E.P.funcs[k]? = some fn ∧ compF E.P E.eqs E.keys hints fn = some f

theorem call_ok (hE : EnvOk E) {T : Tr VFn} (hT : TabOk E T) {c : Orc} (hC : COk E c) {k : Nat} {f : VFn} {args : List V} {x : VX} {fr' : Fr} {vs : List V} {args' : Array Value} (hk : T.get k = some f) (hl : args.length = f.params)
    (h : X c lo f.body (argsV 0 args) s = some (x, fr', s')) (hx : x = .nrm ∨ x = .ret) (hr : resL fr' s' f.results = some vs) (ha : VRelL ρ w args args'.toList) (hw : WR E ρ s w) (hu : Und ρ s s') (hlo : lo ≤ s.next) :
    Callee E.P k ∧ CallsIn (Wd none) 0 E.P k args' w (RetPost E lo ρ s w (one vs) s') := by
  obtain ⟨fn, hints, hfn, hcf⟩ := hT k f hk
  unfold compF at hcf
  split at hcf
  · simp at hcf
  · rename_i cb hcb
    split at hcf
    · rename_i y r hcc hcr
      split at hcf
      · simp at hcf
      · rename_i hname
        injection hcf with hcf; subst hcf
        refine ⟨⟨fn, hfn, by simpa using hname, by rw [hcb]; simp⟩, callsIn_of_wp_marks hfn hcb trivial ?_⟩
        have hy := compC_rel cb hints y [] hcc
        refine wpIn_mono (X_ok (ro := none) hE hC hy h ?_ (FRel.args ha _) hw hu hlo (fun l e => by simp at e)) ?_
        · simp; omega
        · rintro e a' w' ⟨rfl, ⟨ρ', g1, g2, ds, g3, g4, g5⟩, g6⟩
          have := leaves_ok hcr hr ds g2 g1 g4 g5
          rw [List.append_nil] at g3
          rcases hx with rfl | rfl
          · show LeavesInM _ _ _ _ _ _ _ _ _; rw [g3]; exact this
          · show LeavesInM _ _ _ _ _ _ _ _ _; rw [g3]; exact this
    · simp at hcf

theorem zip_toList {α β : Type} (x : Array α) (y : Array β) : (x.zip y).toList = x.toList.zip y.toList := by simp

theorem round_ok (hE : EnvOk E) {c : Orc} (hC : COk E c) {id b sh : Nat} {args : List V} {args' : Array Value} {st0 : LoopState} {pend0 : Option VX} {fr0 : Fr} {ps : List Nat} {x y : VC} {fr1 : Fr} {s1 : St} {pend1 : Option VX} {frb : Fr} {psb : List Nat} {xb yb : VC}
    {q : VX} {fr2 : Fr} {s2 : St} {st3 : LoopState} {pend3 : Option VX} {fr3 : Fr} {ps3 : List Nat} {x3 y3 : VC} {o : VO} {r : Bool} (hlid : lo ≤ id) (h0 : s.heap.get id = some (.loop st0 pend0 fr0 ps x y)) (hl : args.length = ps.length)
    (h1 : X c lo x (setL fr0 (ps.zip args)) s = some (.nrm, fr1, s1)) (h2 : s1.heap.get id = some (.loop .ready pend1 frb psb xb yb)) (h3 : X c lo y fr1 (s1.put id (.loop .busy pend1 frb psb xb yb)) = some (q, fr2, s2))
    (h4 : s2.heap.get id = some (.loop st3 pend3 fr3 ps3 x3 y3)) (ho : (q = .nrm ∧ o = .loop .ready none fr3 ps3 x3 y3 ∧ r = true) ∨ (q ≠ .nrm ∧ o = .loop .done (some q) fr3 ps3 x3 y3 ∧ r = false))
    (ha : VRelL ρ w args args'.toList) (hw : WR E ρ s w) (hu : Und ρ s (s2.put id o)) (hlo : lo ≤ s.next) (hρ : ρ id = some (b, sh)) :
    ∃ L : Loop, w.heap[b]? = some (.loop L) ∧ args'.size = L.params.size ∧
      RoundIn (Wd none) 0 E.P b L.fn ((L.params.zip args').foldl (fun tmps (x : Tmp × Value) => tmps.setIfInBounds x.1 x.2) L.tmps) L.assign L.body w (RetPost E lo ρ s w (.b r) (s2.put id o)) := by
  obtain ⟨L, L1, L2, L3, L4, L5, L6, nt, L7, L8, L9, L10⟩ := hw.obj _ _ _ _ hρ h0
  have k1 := VK.X hC.vk _ hlo h1
  have hl1 := Nat.le_trans hlo k1.next
  have k2 : VK lo s1 (s1.put id (.loop .busy pend1 frb psb xb yb)) := .put _ hlid ⟨_, h2, rfl⟩
  have hl2 := Nat.le_trans hl1 k2.next
  have k3 := VK.X hC.vk _ hl2 h3
  have k4 : VK lo s2 (s2.put id o) := .put _ hlid ⟨_, h4, rfl⟩
  have halen := ha.length
  refine ⟨L, L1, ?_, roundIn_of_wpIn trivial ?_⟩
  · have : L.params.toList.length = ps.length := by rw [L5]
    simp at this halen; omega
  · have hfold : (L.params.zip args').foldl (fun tmps (x : Tmp × Value) => tmps.setIfInBounds x.1 x.2) L.tmps = (ps.zip args'.toList).foldl (fun tmps (x : Tmp × Value) => tmps.setIfInBounds x.1 x.2) L.tmps := by
      rw [← Array.foldl_toList, zip_toList, L5]
    have hF0 : FRel ρ w (setL fr0 (ps.zip args)) ((L.params.zip args').foldl (fun tmps (x : Tmp × Value) => tmps.setIfInBounds x.1 x.2) L.tmps) := by
      rw [hfold]; exact FRel.setL L6 ha (fun p hp => Nat.lt_of_lt_of_le (L8 p hp) L7)
    have hz0 : nt ≤ ((L.params.zip args').foldl (fun tmps (x : Tmp × Value) => tmps.setIfInBounds x.1 x.2) L.tmps).size := by
      rw [hfold, size_fold]; exact L7
    have u1 : Und ρ s s1 := hu.fst (k2.trans (k3.trans k4))
    refine wpIn_mono (X_ok (ro := some b) (a := { tmps := _, defers := [] }) hE hC L9 h1 hz0 hF0 hw u1 hlo (fun l e => by injection e with e; subst e; exact ⟨L, L1⟩)) ?_
    rintro e a1 w1 ⟨rfl, ⟨ρ1, g1, g2, _, _, _, _⟩, g6⟩
    have hρ1 := g2.ext _ _ hρ
    obtain ⟨M, M1, M2, M3, M4, M5, M6, M7⟩ := g2.wr.obj _ _ _ _ hρ1 h2
    have st2 : Stp E lo ρ1 s1 w1 ρ1 (s1.put id (.loop .busy pend1 frb psb xb yb)) { w1 with heap := w1.heap.setIfInBounds b (.loop { M with state := .busy }) } := by
      refine .obj hρ1 hlid ⟨_, h2, rfl⟩ g2.wr M1 rfl rfl (fun L' hL' => by injection hL' with hL'; subst hL'; exact ⟨_, rfl, rfl⟩) ?_
      intro w' hw' hb hcz
      exact ⟨_, hb, rfl, M3, M4, M5, M6.mono (fun _ _ h => h) hcz, M7⟩
    have hgo := getObj_run (P := E.P) M1 rfl
    have hso := setObj_run (P := E.P) M1 (o' := .loop { M with state := .busy }) rfl
    have sA := g2.trans st2 k1 k2 (hu.fst (k3.trans k4)) hw
    have kA := k1.trans k2
    refine ⟨{ w1 with heap := w1.heap.setIfInBounds b (.loop { M with state := .busy }) }, ?_, ?_⟩
    · simp [Instr.beginRound, Instr.getLoop, hgo, hso, M2]
    have hro2 : RoOk (some b) { w1 with heap := w1.heap.setIfInBounds b (.loop { M with state := .busy }) } := fun l e => by
      injection e with e; subst e
      obtain ⟨L', h, _⟩ := st2.loops _ _ M1
      exact ⟨L', h⟩
    refine wpIn_mono (X_ok (ro := some b) hE hC L10 h3 (by rw [g6]; exact hz0) (g1.mono st2.ext st2.sz) st2.wr ((hu.fst k4).snd kA sA) hl2 hro2) ?_
    rintro e a2 w2 ⟨rfl, ⟨ρ2, j1, j2, _, _, _, _⟩, _⟩
    have hρ2 := j2.ext _ _ hρ1
    obtain ⟨N, N1, N2, N3, N4, N5, N6, N7⟩ := j2.wr.obj _ _ _ _ hρ2 h4
    have sB := sA.trans j2 kA k3 (hu.fst k4) hw
    have fin : ∀ (jump : Option Code) (st : LoopState), st = (if jump.isNone then .ready else .done) → (∀ w', w' = { w2 with heap := w2.heap.setIfInBounds b (.loop { N with state := st, pending := jump }) } → w'.heap[b]? = some (.loop { N with state := st, pending := jump }) →
        (∀ k, csz w2 k ≤ csz w' k) → ORel E ρ2 w' o b sh) → jump.isNone = r → ∃ v w', (Instr.endRound b jump).run E.P w2 = .ok v w' ∧ RetPost E lo ρ s w (.b r) (s2.put id o) (.returned v) w' := by
      intro jump st hst hor hr
      have hgo := getObj_run (P := E.P) N1 rfl
      have hso := setObj_run (P := E.P) N1 (o' := .loop { N with state := st, pending := jump }) rfl
      have st3 : Stp E lo ρ2 s2 w2 ρ2 (s2.put id o) { w2 with heap := w2.heap.setIfInBounds b (.loop { N with state := st, pending := jump }) } :=
        .obj hρ2 hlid ⟨_, h4, rfl⟩ j2.wr N1 rfl rfl (fun L' hL' => by injection hL' with hL'; subst hL'; exact ⟨_, rfl, rfl⟩) hor
      refine ⟨.bool r, { w2 with heap := w2.heap.setIfInBounds b (.loop { N with state := st, pending := jump }) }, ?_, ρ2, .b r, sB.trans st3 (kA.trans k3) k4 hu hw⟩
      subst hst
      simp only [hr] at hso
      simp [Instr.endRound, Instr.getLoop, hgo, hso, hr]
    rcases ho with ⟨rfl, rfl, rfl⟩ | ⟨hq, rfl, rfl⟩
    · refine fin none .ready rfl ?_ rfl
      intro w' _ hb hcz
      exact ⟨_, hb, rfl, rfl, by simp, N5, N6.mono (fun _ _ h => h) hcz, N7⟩
    · have each : ∀ jc, jumpC q = some jc → ∃ v w', (Instr.endRound b (some jc)).run E.P w2 = .ok v w' ∧ RetPost E lo ρ s w (.b false) (s2.put id (.loop .done (some q) fr3 ps3 x3 y3)) (.returned v) w' := by
        intro jc hjc
        refine fin (some jc) .done rfl ?_ rfl
        intro w' _ hb hcz
        exact ⟨_, hb, rfl, by simp [hjc], fun e => hq (by injection e), N5, N6.mono (fun _ _ h => h) hcz, N7⟩
      cases q with
      | nrm => exact (hq rfl).elim
      | exit id => exact each _ rfl
      | goto l => exact each _ rfl
      | ret => exact each _ rfl

theorem orc_ok (hE : EnvOk E) {T : Tr VFn} (hT : TabOk E T) : ∀ n, COk E (orc T n)
  | 0 => ⟨VKOrc.orc T 0, fun h => by simp [orc] at h, fun h => by simp [orc] at h, fun h => by simp [orc] at h, fun h => by simp [orc] at h⟩
  | n + 1 => by
    have ih := orc_ok hE hT n
    refine ⟨VKOrc.orc T (n + 1), ?_, ?_, ?_, ?_⟩
    · intro lo k args s s' v ρ w args' h ha hw hu hlo
      simp only [orc] at h
      split at h
      · rename_i f hk
        split at h
        · rename_i hl
          split at h
          · rename_i fr' s1 h1
            simp only [Option.map_eq_some_iff] at h
            obtain ⟨vs, hr, h⟩ := h
            injection h with h1' h2'; subst h1'; subst h2'
            exact call_ok hE hT ih hk hl h1 (.inl rfl) hr ha hw hu hlo
          · rename_i fr' s1 h1
            simp only [Option.map_eq_some_iff] at h
            obtain ⟨vs, hr, h⟩ := h
            injection h with h1' h2'; subst h1'; subst h2'
            exact call_ok hE hT ih hk hl h1 (.inr rfl) hr ha hw hu hlo
          · simp at h
        · simp at h
      · simp at h
    · intro lo id args s s' v ρ w args' b sh h ha hw hu hlo hρ
      simp only [orc] at h
      split at h
      · simp at h
      · rename_i hlid
        split at h
        · rename_i st0 pend0 fr0 ps x y h0
          split at h
          · rename_i hl
            split at h
            · rename_i fr1 s1 h1
              split at h
              · rename_i pend1 frb psb xb yb h2
                split at h
                · rename_i q fr2 s2 h3
                  split at h
                  · rename_i st3 pend3 fr3 ps3 x3 y3 h4
                    have hfin : ∃ o r, s' = s2.put id o ∧ v = .b r ∧ ((q = .nrm ∧ o = .loop .ready none fr3 ps3 x3 y3 ∧ r = true) ∨ (q ≠ .nrm ∧ o = .loop .done (some q) fr3 ps3 x3 y3 ∧ r = false)) := by
                      cases q <;> simp only [Option.some.injEq, Prod.mk.injEq] at h <;> obtain ⟨rfl, rfl⟩ := h
                      · exact ⟨_, _, rfl, rfl, .inl ⟨rfl, rfl, rfl⟩⟩
                      · exact ⟨_, _, rfl, rfl, .inr ⟨by simp, rfl, rfl⟩⟩
                      · exact ⟨_, _, rfl, rfl, .inr ⟨by simp, rfl, rfl⟩⟩
                      · exact ⟨_, _, rfl, rfl, .inr ⟨by simp, rfl, rfl⟩⟩
                    obtain ⟨o, r, rfl, rfl, ho⟩ := hfin
                    exact round_ok hE ih (Nat.le_of_not_lt hlid) h0 hl h1 h2 h3 h4 ho ha hw hu hlo hρ
                  · simp at h
                · simp at h
              · simp at h
            · simp at h
          · simp at h
        · simp at h
    · intro lo keep y fr fr' s s' x ρ w cb nt a ro h hy hn hF hw hu hlo hro
      simp only [orc] at h
      refine loopIn_once ?_
      split at h
      · rename_i fr1 s1 h1
        have k1 := VK.X ih.vk _ hlo h1
        have k2 := ih.vk.loop (Nat.le_trans hlo k1.next) h
        refine wpIn_mono (X_ok hE ih hy h1 hn hF hw (hu.fst k2) hlo hro) ?_
        rintro e a1 w1 ⟨rfl, ⟨ρ1, g1, g2, ds, g3, g4, g5⟩, g6⟩
        refine LoopIn.mono (ih.loop h hy (by rw [g6]; exact hn) (g1.keepV keep) g2.wr (hu.snd k1 g2) (Nat.le_trans hlo k1.next) (hro.keep g2.loops)) ?_
        rintro e a2 w2 ⟨rfl, q⟩
        exact ⟨rfl, XEnd.trans (fr1 := fr1) hw hu k1 k2 g2 g3 g4 g5 g6 q⟩
      · rename_i r hr
        refine wpIn_mono (X_ok hE ih hy h hn hF hw hu hlo hro) ?_
        rintro e a1 w1 ⟨rfl, q⟩
        cases x with
        | nrm => exact (hr _ _ h).elim
        | exit id => exact ⟨rfl, q⟩
        | goto l => exact ⟨rfl, q⟩
        | ret => exact ⟨rfl, q⟩
    · intro lo y z fr fr' s s' x ρ w cb cur nt a ro h hy hz hn hF hw hu hlo hro
      simp only [orc] at h
      refine scopeIn_once ?_
      split at h
      · rename_i l fr1 s1 h1
        have k1 := VK.X ih.vk _ hlo h1
        split at h
        · rename_i rest hrest
          have k2 := ih.vk.jump (Nat.le_trans hlo k1.next) h
          obtain ⟨rc, f1, f2⟩ := findLabel_rel hy _ _ hrest
          refine wpIn_mono (X_ok hE ih hz h1 hn hF hw (hu.fst k2) hlo hro) ?_
          rintro e a1 w1 ⟨rfl, ⟨ρ1, g1, g2, ds, g3, g4, g5⟩, g6⟩
          simp only [exitV, scopeThen, f1]
          refine ScopeIn.mono (ih.jump h hy f2 (by rw [g6]; exact hn) g1 g2.wr (hu.snd k1 g2) (Nat.le_trans hlo k1.next) (hro.keep g2.loops)) ?_
          rintro e a2 w2 ⟨rfl, q⟩
          exact ⟨rfl, XEnd.trans (fr1 := fr1) hw hu k1 k2 g2 g3 g4 g5 g6 q⟩
        · rename_i hrest
          simp only [Option.some.injEq, Prod.mk.injEq] at h
          obtain ⟨rfl, rfl, rfl⟩ := h
          refine wpIn_mono (X_ok hE ih hz h1 hn hF hw hu hlo hro) ?_
          rintro e a1 w1 ⟨rfl, q⟩
          simp only [exitV, scopeThen, findLabel_none hy _ hrest]
          exact ⟨rfl, q⟩
      · rename_i r hr
        refine wpIn_mono (X_ok hE ih hz h hn hF hw hu hlo hro) ?_
        rintro e a1 w1 ⟨rfl, q⟩
        cases x with
        | goto l => exact (hr _ _ _ h).elim
        | exit id => exact ⟨rfl, q⟩
        | nrm => exact ⟨rfl, q⟩
        | ret => exact ⟨rfl, q⟩

end
end VE

