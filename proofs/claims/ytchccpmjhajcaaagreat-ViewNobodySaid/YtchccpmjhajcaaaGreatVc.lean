/- Each operation of the evaluator is what the operation of the model does: second part. -/
import Derived.Test.YtchccpmjhajcaaaGreatVb
set_option linter.unusedVariables false
set_option linter.unusedSimpArgs false
set_option linter.unusedSectionVars false
namespace VE
open Go

def notCells : Obj → Bool
  | .cells .. => false
  | _ => true

section
variable {E : Env} {lo : Nat} {ρ : Rho} {s s' : St} {w : World} {v : V}

theorem setObj_run {P : Program} {b : Nat} {o o' : Obj} (h : w.heap[b]? = some o) (hn : notCells o = true) : (setObj b o').run P w = .ok () { w with heap := w.heap.setIfInBounds b o' } := by
  cases o <;> first | (simp [notCells] at hn; done) | simp [setObj, Sem.run, h]

theorem getObj_run {P : Program} {b : Nat} {o : Obj} (h : w.heap[b]? = some o) (hn : notCells o = true) : (getObj b).run P w = .ok o w := by
  cases o <;> first | (simp [notCells] at hn; done) | simp [getObj, Sem.run, h]

/-- A block that holds no cells is turned. -/
theorem Stp.obj {id b sh : Nat} {o : VO} {o1 o2 : Obj} (hρ : ρ id = some (b, sh)) (hl : lo ≤ id) (ha : alive s id) (hw : WR E ρ s w) (h1 : w.heap[b]? = some o1) (n1 : notCells o1 = true) (n2 : notCells o2 = true)
    (hk : ∀ L : Loop, o1 = .loop L → ∃ L' : Loop, o2 = .loop L' ∧ L'.defers = L.defers) (ho : ∀ w', w' = { w with heap := w.heap.setIfInBounds b o2 } → w'.heap[b]? = some o2 → (∀ k, csz w k ≤ csz w' k) → ORel E ρ w' o b sh) :
    Stp E lo ρ s w ρ (s.put id o) { w with heap := w.heap.setIfInBounds b o2 } := by
  have hlt : b < w.heap.size := by
    rcases Nat.lt_or_ge b w.heap.size with h0 | h0
    · exact h0
    · rw [Array.getElem?_eq_none h0] at h1; simp at h1
  have hb : ({ w with heap := w.heap.setIfInBounds b o2 } : World).heap[b]? = some o2 := by simp [hlt]
  have hh : ∀ k, k ≠ b → ({ w with heap := w.heap.setIfInBounds b o2 } : World).heap[k]? = w.heap[k]? := fun k hk => by
    simp only; exact Array.getElem?_setIfInBounds_ne (Ne.symm hk)
  have hc1 : csz w b = 0 := by cases o1 <;> simp [notCells] at n1 <;> simp [csz, h1]
  have hc2 : csz { w with heap := w.heap.setIfInBounds b o2 } b = 0 := by
    unfold csz; rw [hb]; cases o2 <;> simp [notCells] at n2 <;> rfl
  have hcs : ∀ k, csz w k ≤ csz { w with heap := w.heap.setIfInBounds b o2 } k := fun k => by
    by_cases e : k = b
    · subst e; omega
    · exact Nat.le_of_eq (csz_same (hh k e)).symm
  exact .upd hρ hl ha hw hh (by simp) (by omega) (ho _ rfl hb hcs) (fun L h => by
    rw [h1] at h; injection h with h
    obtain ⟨L', e1, e2⟩ := hk L h
    exact ⟨L', by rw [hb, e1], e2⟩) ⟨rfl, rfl⟩

theorem mapUpdate_ok (hE : EnvOk E) {t kt e : TypeId} {ks : List CK} {d : TypeDesc} {kv vv : V} {m1 k1 v1 : Value} {id : Nat} {es es2 : List (V × V)} (hw : WR E ρ s w) (ht : E.P.underlying t = some (.map kt e))
    (hk : E.keys.lookup kt = some ks) (hd : E.P.underlying kt = some d) (hm : VRel ρ w (.m id) m1) (hkv : VRel ρ w kv k1) (hvv : VRel ρ w vv v1) (hself : (keq (isAggD d) ks kv kv).isSome = true)
    (hlo : lo ≤ id) (hg : s.heap.get id = some (.map es)) (hp : putE (isAggD d) ks kv vv es = some es2) :
    ∃ w', (Instr.mapUpdate t m1 k1 v1).run E.P w = .ok () w' ∧ Stp E lo ρ s w ρ (s.put id (.map es2)) w' := by
  obtain ⟨he, hkb, hdd⟩ := keyConds hE hk
  obtain ⟨o, h1, h2⟩ := putE_idx hp
  obtain ⟨b, sh, hρ, rfl⟩ := hm.inv_m
  obtain ⟨arr, clock, hb, hr1, hr2⟩ := hw.obj _ _ _ _ hρ hg
  have hck : ∀ c w1, (Instr.checkKey c 10000 kt k1).run E.P w1 = .ok () w1 := by
    intro c w1
    cases hq : keq (isAggD d) ks kv kv with
    | none => rw [hq] at hself; simp at hself
    | some q =>
      obtain ⟨_, q2, q3⟩ := keq_ok hd he hdd hkv hkv hq
      exact checkKey_ok (dd := 99) hkb he (by simpa using q3) q2 c w1 9998
  have hfk := findKey_ok hd he hdd hkv (es := es) (es' := arr.toList) ⟨hr1, hr2⟩ h1 w
  have hgo := getObj_run (P := E.P) hb rfl
  have hal : alive s id := ⟨_, hg, rfl⟩
  cases o with
  | none =>
    refine ⟨_, ?_, Stp.obj (o2 := .map (arr.push { key := k1, val := v1, born := clock }) (clock + 1)) hρ hlo hal hw hb rfl rfl (by simp) ?_⟩
    · simp only [Instr.mapUpdate, Sem.run_bind, r_und ht, Result.andThen_ok, hgo, hck, hfk, Option.bind_none]
      exact setObj_run hb rfl
    · intro w' _ hb' hcs
      refine ⟨_, _, hb', ?_, ?_⟩
      · rw [h2]; simp only [List.map_append, List.map_cons, List.map_nil, Array.toList_push]
        exact (hr1.mono (fun _ _ h => h) hcs).append (.cons (hkv.mono (fun _ _ h => h) hcs) .nil)
      · rw [h2]; simp only [List.map_append, List.map_cons, List.map_nil, Array.toList_push]
        exact (hr2.mono (fun _ _ h => h) hcs).append (.cons (hvv.mono (fun _ _ h => h) hcs) .nil)
  | some i =>
    obtain ⟨a, u, g1, g2⟩ := idxE_lt h1
    have hlt : i < es.length := (List.getElem?_eq_some_iff.1 g1).1
    have hlen : arr.toList.length = es.length := by have := hr1.length; simp at this ⊢; omega
    have hi : i < arr.toList.length := by omega
    have hi' : i < arr.size := by simpa using hi
    obtain ⟨a', q1, q2⟩ := hr1.get (show (es.map (·.1))[i]? = some a by simp [g1])
    have hkey : arr[i].key = a' := by
      rw [List.getElem?_map, List.getElem?_eq_getElem hi] at q1
      simpa using q1
    have hsb : Instr.sameBits 10000 arr[i].key k1 = true := by
      rw [hkey]
      exact sameBits_rel hkv q2 g2 (keyKinds (dd := 98) hkb he) (fun hag v hv => by
        have := (keq_ok hd he hdd hkv q2 g2)
        cases hv2 : isAgV v with
        | false => rfl
        | true =>
          exfalso
          unfold keq at g2
          split at g2
          · rename_i hag2
            have cl : ∀ (ks : List CK) (l m : List V) (r : Bool), ceqs ks l m = some r → ∀ v ∈ l, isAgV v = false := by
              intro ks
              induction ks with
              | nil => intro l m r h v hv; cases l <;> cases m <;> simp [ceqs] at h; simp at hv
              | cons k ks ih =>
                intro l m r h v hv
                cases l with
                | nil => simp at hv
                | cons x l => cases m with
                  | nil => simp [ceqs] at h
                  | cons y m =>
                    simp only [ceqs] at h
                    split at h
                    · rename_i a r e1 e2
                      rcases List.mem_cons.1 hv with rfl | hv
                      · unfold ceq at e1; split at e1 <;> first | rfl | (simp at e1)
                      · exact ih l m _ e2 v hv
                    · simp at h
            rw [cl _ _ _ _ g2 v hv] at hv2; simp at hv2
          · simp at g2) 9999
    refine ⟨_, ?_, Stp.obj (o2 := .map (arr.modify i fun e => { e with key := k1, val := v1 }) clock) hρ hlo hal hw hb rfl rfl (by simp) ?_⟩
    · simp only [Instr.mapUpdate, Sem.run_bind, r_und ht, Result.andThen_ok, hgo, hck, hfk, Option.bind_some, List.getElem?_eq_getElem hi, Option.map_some, Array.getElem?_eq_getElem hi', Option.getD_some,
        Instr.keyThatStays, hsb, if_true, Sem.run_pure]
      exact setObj_run hb rfl
    · intro w' _ hb' hcs
      refine ⟨_, _, hb', ?_, ?_⟩
      · rw [h2]
        refine VRelL.of_get (by simp; simpa using hlen.symm) ?_
        intro j x hx
        simp only [List.getElem?_map, List.getElem?_set, Array.toList_modify, List.getElem?_modify] at hx ⊢
        by_cases e : i = j
        · subst e
          simp only [if_true, if_pos hlt, Option.map_some, Option.some.injEq] at hx
          subst hx
          exact ⟨k1, by simp [hi'], hkv.mono (fun _ _ h => h) hcs⟩
        · simp only [if_neg e] at hx ⊢
          obtain ⟨v', r1, r2⟩ := hr1.get (show (es.map (·.1))[j]? = some x by rw [List.getElem?_map]; exact hx)
          refine ⟨v', ?_, r2.mono (fun _ _ h => h) hcs⟩
          rw [List.getElem?_map] at r1
          simpa using r1
      · rw [h2]
        refine VRelL.of_get (by simp; simpa using hlen.symm) ?_
        intro j x hx
        simp only [List.getElem?_map, List.getElem?_set, Array.toList_modify, List.getElem?_modify] at hx ⊢
        by_cases e : i = j
        · subst e
          simp only [if_true, if_pos hlt, Option.map_some, Option.some.injEq] at hx
          subst hx
          exact ⟨v1, by simp [hi'], hvv.mono (fun _ _ h => h) hcs⟩
        · simp only [if_neg e] at hx ⊢
          obtain ⟨v', r1, r2⟩ := hr2.get (show (es.map (·.2))[j]? = some x by rw [List.getElem?_map]; exact hx)
          refine ⟨v', ?_, r2.mono (fun _ _ h => h) hcs⟩
          rw [List.getElem?_map] at r1
          simpa using r1

end
end VE

namespace VE
open Go

section
variable {E : Env} {lo : Nat} {ρ : Rho} {s s' : St} {w : World} {v : V} {orc : Orc} {fr : Fr} {a : Act}

theorem evP_rel (hF : FRel ρ w fr a.tmps) : ∀ {l : List (Nat × Nat × Operand)} {vs : List (Nat × Nat × V)}, evP fr l = some vs →
    vs.length = l.length ∧ ∀ (i : Nat) (p : Nat × Nat × V), vs[i]? = some p → ∃ x, l[i]? = some (p.1, p.2.1, x) ∧ VRel ρ w p.2.2 (a.eval x)
  | [], vs, h => by simp [evP] at h; subst h; exact ⟨rfl, fun i p h => by simp at h⟩
  | (o, n, x) :: r, vs, h => by
    simp only [evP] at h
    split at h
    · rename_i y ys h1 h2
      injection h with h; subst h
      obtain ⟨e1, e2⟩ := evP_rel hF h2
      refine ⟨by simp [e1], ?_⟩
      intro i p hp
      cases i with
      | zero => simp at hp; subst hp; exact ⟨x, rfl, evO_rel hF h1⟩
      | succ i => simpa using e2 i p (by simpa using hp)
    · simp at h

theorem evC_evP : ∀ {l : List (Nat × Nat × Operand)} {vs : List (Nat × V)}, evC fr (l.map (·.2)) = some vs → ∃ ps : List (Nat × Nat × V), evP fr l = some ps ∧ ps.map (·.2) = vs ∧ ∀ frm to, inRow frm to l = true → inRowV frm to ps = true
  | [], vs, h => by simp [evC] at h; subst h; exact ⟨[], rfl, rfl, fun frm to h => by simpa [inRow, inRowV] using h⟩
  | (o, n, x) :: r, vs, h => by
    simp only [List.map_cons, evC] at h
    split at h
    · rename_i y ys h1 h2
      injection h with h; subst h
      obtain ⟨ps, e1, e2, e3⟩ := evC_evP h2
      refine ⟨(o, n, y) :: ps, by simp [evP, h1, e1], by simp [e2], ?_⟩
      intro frm to hr
      simp only [inRow, inRowV, Bool.and_eq_true] at hr ⊢
      exact ⟨hr.1, e3 _ _ hr.2⟩
    · simp at h

/-- Parts of a struct, where they go. -/
theorem placesS_ok {fs : Array Field} : ∀ {ps : List (Nat × Operand)} {l : List (Nat × Nat × Operand)}, placesS E.P fs ps = some l →
    l.length = ps.length ∧ ∀ (i : Nat) (p : Nat × Nat × Operand), l[i]? = some p → ∃ k f, ps[i]? = some (k, p.2.2) ∧ fs[k]? = some f ∧ p.1 = f.offset ∧ sizeV E.P f.type = some p.2.1
  | [], l, h => by simp [placesS] at h; subst h; exact ⟨rfl, fun i p h => by simp at h⟩
  | (k, x) :: r, l, h => by
    simp only [placesS] at h
    split at h
    · rename_i f hf
      split at h
      · rename_i n l' h1 h2
        injection h with h; subst h
        obtain ⟨e1, e2⟩ := placesS_ok h2
        refine ⟨by simp [e1], ?_⟩
        intro i p hp
        cases i with
        | zero => simp at hp; subst hp; exact ⟨k, f, rfl, hf, rfl, h1⟩
        | succ i => simpa using e2 i p (by simpa using hp)
      · simp at h
    · simp at h

theorem run_places {P : Program} : ∀ (fs : List Field), (∀ f ∈ fs, (sizeV P f.type).isSome = true) → ∀ w : World,
    (fs.mapM (m := Sem) fun f => do pure (f.offset, ← Go.sizeOf f.type)).run P w = .ok (fs.map fun f => (f.offset, (sizeV P f.type).getD 0)) w
  | [], _, w => rfl
  | f :: fs, h, w => by
    have h1 := h f (by simp)
    obtain ⟨n, hn⟩ := Option.isSome_iff_exists.1 h1
    have ih := run_places fs (fun g hg => h g (by simp [hg])) w
    simp only [List.mapM_cons, Sem.run_bind, r_size hn, Result.andThen_ok, Sem.run_pure, ih, hn, List.map_cons, Option.getD_some]

theorem build_struct_ok {t : TypeId} {z : V} {fs : Array Field} {parts : Array (Nat × Operand)} {l : List (Nat × Nat × Operand)} {ps : List (Nat × Nat × V)} {cs : List V} (hw : WR E ρ s w) (hF : FRel ρ w fr a.tmps)
    (hz : zeroV E.P t = some z) (hu : E.P.underlying t = some (.struct fs)) (hp : placesS E.P fs parts.toList = some l) (hall : (fs.all fun f => (sizeV E.P f.type).isSome) = true) (he : evP fr l = some ps)
    (hf : fillV z.cells ps = some cs) : ValOk E lo ρ s w (.ag cs) s (Instr.build t (parts.map fun (i, x) => (i, a.eval x))) := by
  obtain ⟨z', hz1, hzr⟩ := r_zero hz w
  obtain ⟨l1, l2⟩ := placesS_ok hp
  obtain ⟨p1, p2⟩ := evP_rel hF he
  have hpl := run_places (P := E.P) fs.toList (fun f hf => Array.all_eq_true_iff_forall_mem.1 hall f (by simpa using hf)) w
  obtain ⟨cs', c1, c2⟩ := fill_ok (place := ((fs.map fun f => (f.offset, (sizeV E.P f.type).getD 0))[·]?)) ps (parts.map fun (i, x) => (i, a.eval x)).toList z.cells z'.cells cs ((hzr ρ w).cells) (by simp [p1, l1]) (by
    intro i p hi
    obtain ⟨x, q1, q2⟩ := p2 i p hi
    obtain ⟨k, f, r1, r2, r3, r4⟩ := l2 i _ q1
    refine ⟨(k, a.eval x), ?_, ?_, q2⟩
    · simp only [Array.toList_map, List.getElem?_map, r1, Option.map_some]
    · simp only [Array.getElem?_map, r2, Option.map_some, r4, Option.getD_some, r3]
      try (simp only at r3 r4; rw [r3])) hf
  refine .pure hw (v' := .agg cs') ?_ (.ag c2)
  have hm : (fs.mapM (m := Sem) fun f => do pure (f.offset, ← Go.sizeOf f.type)).run E.P w = .ok (fs.map fun f => (f.offset, (sizeV E.P f.type).getD 0)) w := by
    rw [Array.mapM_eq_mapM_toList, Sem.run_map, hpl]
    simp only [Result.andThen_ok]
    congr 1
    apply Array.ext'
    simp
  simp only [Instr.build, Sem.run_bind, hz1, r_und hu, Result.andThen_ok, hm, c1, Sem.run_pure]

theorem build_array_ok {t e : TypeId} {n k : Nat} {z : V} {parts : Array (Nat × Operand)} {ps : List (Nat × Nat × V)} {cs : List V} (hw : WR E ρ s w) (hF : FRel ρ w fr a.tmps)
    (hz : zeroV E.P t = some z) (hu : E.P.underlying t = some (.array k e)) (hn : sizeV E.P e = some n) (he : evP fr (placesA n parts.toList) = some ps)
    (hf : fillV z.cells ps = some cs) : ValOk E lo ρ s w (.ag cs) s (Instr.build t (parts.map fun (i, x) => (i, a.eval x))) := by
  obtain ⟨z', hz1, hzr⟩ := r_zero hz w
  obtain ⟨p1, p2⟩ := evP_rel hF he
  obtain ⟨cs', c1, c2⟩ := fill_ok (place := fun i => some (i * n, n)) ps (parts.map fun (i, x) => (i, a.eval x)).toList z.cells z'.cells cs ((hzr ρ w).cells) (by simp [p1, placesA]) (by
    intro i p hi
    obtain ⟨x, q1, q2⟩ := p2 i p hi
    simp only [placesA, List.getElem?_map, Option.map_eq_some_iff] at q1
    obtain ⟨⟨j, y⟩, r1, r2⟩ := q1
    simp only [Prod.mk.injEq] at r2
    refine ⟨(j, a.eval x), ?_, ?_, q2⟩
    · simp only [Array.toList_map, List.getElem?_map, r1, Option.map_some, r2.2.2]
    · rw [← r2.1, ← r2.2.1]) hf
  refine .pure hw (v' := .agg cs') ?_ (.ag c2)
  simp only [Instr.build, Sem.run_bind, hz1, r_und hu, Result.andThen_ok, r_size hn, c1, Sem.run_pure]

theorem bslice_ok {t e : TypeId} {n len : Nat} {z : V} {parts : Array (Nat × Operand)} {ps : List (Nat × Nat × V)} {cs : List V} (hw : WR E ρ s w) (hF : FRel ρ w fr a.tmps) (hun : ρ s.next = none) (hlo : lo ≤ s.next)
    (hz : zeroV E.P e = some z) (hu : E.P.underlying t = some (.slice e)) (hn : sizeV E.P e = some n) (hzl : z.cells.length = n) (hle : len * n ≤ 16777216) (he : evP fr (placesA n parts.toList) = some ps)
    (hf : fillV (reps len z.cells) ps = some cs) : ValOk E lo ρ s w (.sl s.next 0 len len n true) (s.alloc (.cells cs)) (Instr.buildSlice t len (parts.map fun (i, x) => (i, a.eval x))) := by
  obtain ⟨z', hz1, hzr⟩ := r_zero hz w
  obtain ⟨p1, p2⟩ := evP_rel hF he
  obtain ⟨q1, q2⟩ := zeroCells_rel ((hzr ρ w).cells) len
  have hzc := (hzr ρ w).cells.length
  have hcs : z'.cells.size = n := by rw [← hzl, hzc]; simp
  -- the zero cells, as the model lays them
  have hzz : ∃ zz : Array Value, (do
      let zero ← if len * n = 0 then pure #[] else do pure (← zeroValue e).cells
      pure ((Array.range (len * n)).map (zero[· % zero.size]!)) : Sem (Array Value)).run E.P w = .ok zz w ∧ VRelL ρ w (reps len z.cells) zz.toList := by
    by_cases h0 : len * n = 0
    · refine ⟨#[], by simp [h0], ?_⟩
      have : reps len z.cells = [] := List.length_eq_zero_iff.1 (by rw [length_reps, hzl, h0])
      rw [this]; exact .nil
    · refine ⟨Builtin.zeroCells z'.cells len, ?_, q1⟩
      simp [h0, hz1, Builtin.zeroCells, hcs]
  obtain ⟨zz, z1, z2⟩ := hzz
  obtain ⟨cs', c1, c2⟩ := fill_ok (place := fun i => some (i * n, n)) ps (parts.map fun (i, x) => (i, a.eval x)).toList _ zz cs z2 (by simp [p1, placesA]) (by
    intro i p hi
    obtain ⟨x, q1, q2⟩ := p2 i p hi
    simp only [placesA, List.getElem?_map, Option.map_eq_some_iff] at q1
    obtain ⟨⟨j, y⟩, r1, r2⟩ := q1
    simp only [Prod.mk.injEq] at r2
    refine ⟨(j, a.eval x), ?_, ?_, q2⟩
    · simp only [Array.toList_map, List.getElem?_map, r1, Option.map_some, r2.2.2]
    · rw [← r2.1, ← r2.2.1]) hf
  obtain ⟨w', n1, n2, n3⟩ := newRow_ok (E := E) (lo := lo) (t := e) hw hun hlo c2
  refine ⟨_, w', .slice (some ⟨w.heap.size, 0, none⟩) len len, ?_, ?_, n2⟩
  · have hle' : ¬ (len * n > 2 ^ 24) := by omega
    simp only [Sem.run_bind] at z1
    simp only [Instr.buildSlice, Sem.run_bind, r_und hu, r_size hn, Result.andThen_ok, if_neg hle', Sem.run_pure]
    by_cases h0 : len * n = 0
    · simp only [h0, if_true, Sem.run_pure, Result.andThen_ok] at z1 ⊢
      injection z1 with z1; subst z1
      simp only [c1, Sem.run_bind, n1, Result.andThen_ok, Sem.run_pure]
    · simp only [if_neg h0, Sem.run_bind, hz1, Sem.run_pure, Result.andThen_ok] at z1 ⊢
      injection z1 with z1; subst z1
      simp only [c1, Sem.run_bind, n1, Result.andThen_ok, Sem.run_pure]
  · refine .sl (Rho.put_same _ _ _) (Nat.le_refl _) (Nat.le_refl _) (fun _ => rfl) ?_ (.inl (by simp))
    rw [n3]
    have : cs'.size = len * n := by
      have h1 := c2.length
      have h2 : cs.length = len * n := by
        have g : ∀ (ps : List (Nat × Nat × V)) (z cs : List V), fillV z ps = some cs → cs.length = z.length := by
          intro ps
          induction ps with
          | nil => intro z cs h; simp [fillV] at h; rw [h]
          | cons p ps ih =>
            intro z cs h
            obtain ⟨o, m, x⟩ := p
            simp only [fillV] at h
            split at h
            · rename_i hc
              rw [ih _ _ h, length_splice (by omega)]
            · simp at h
        rw [g ps _ _ hf, length_reps, hzl]
      rw [← h2, h1]; simp
    rw [this]; simp

theorem makeSlice_ok {t e : TypeId} {n b : Nat} {z : V} {lv cv : V} {l1 c1 : Value} {k k' : IntKind} {l c : Int} (hw : WR E ρ s w) (hun : ρ s.next = none) (hlo : lo ≤ s.next)
    (hu : E.P.underlying t = some (.slice e)) (hn : sizeV E.P e = some n) (hz : zeroV E.P e = some z) (hb : bytesV E.P e = some b) (hzl : z.cells.length = n)
    (hl : VRel ρ w (.i k l) l1) (hc : VRel ρ w (.i k' c) c1) (h0 : 0 ≤ l) (h1 : l ≤ c) (h2 : b * c ≤ 1099511627776) (h3 : c ≤ 1099511627776) :
    ValOk E lo ρ s w (.sl s.next 0 l.toNat c.toNat n true) (s.alloc (.cells (reps c.toNat z.cells))) (Instr.makeSlice t l1 c1) := by
  obtain ⟨z', hz1, hzr⟩ := r_zero hz w
  obtain ⟨q1, q2⟩ := zeroCells_rel ((hzr ρ w).cells) c.toNat
  have hzc := (hzr ρ w).cells.length
  have hcs : z'.cells.size = n := by rw [← hzl, hzc]; simp
  obtain ⟨inf, hinf, hib⟩ := r_bytes hb w
  obtain ⟨w', n1, n2, n3⟩ := newRow_ok (E := E) (lo := lo) (t := e) hw hun hlo q1
  rw [hl.inv_i, hc.inv_i]
  refine ⟨_, w', .slice (some ⟨w.heap.size, 0, none⟩) l.toNat c.toNat, ?_, ?_, n2⟩
  · have e1 : IntKind.i64.wrap l = l := wrap_small h0 (by omega)
    have e2 : IntKind.i64.wrap c = c := wrap_small (by omega) (by omega)
    have e3 : ¬ (c < 0) := by omega
    have e4 : ¬ ((281474976710656 : Int) < (inf.bytes : Int) * c) := by rw [hib]; omega
    have e5 : ¬ (l < 0) := by omega
    have e6 : ¬ (c < l) := by omega
    by_cases hz0 : c.toNat * n = 0
    · have e7 : Builtin.zeroCells z'.cells c.toNat = #[] := Array.eq_empty_of_size_eq_zero (by rw [q2, hcs, hz0])
      rw [e7] at n1
      have e8 : ∀ f : Nat → Value, Array.map f (Array.range 0) = #[] := fun f => by simp
      simp [Instr.makeSlice, r_und hu, asInt, asIntOf, hinf, e1, e2, e3, e4, e5, e6, r_size hn, hz0, e8, n1]
    · have e7 : Builtin.zeroCells z'.cells c.toNat = Array.map (fun x => z'.cells[x % z'.cells.size]!) (Array.range (c.toNat * n)) := by
        simp [Builtin.zeroCells, hcs]
      rw [e7] at n1
      simp only [Instr.makeSlice, Sem.run_bind, r_und hu, asInt, asIntOf, hinf, e1, e2, r_size hn, Result.andThen_ok, Sem.run_pure]
      have e9 : ¬ (((decide (c < 0) || decide ((inf.bytes : Int) * c > 2 ^ 48)) || decide (l < 0) || decide (l > c)) = true) := by
        simp; omega
      rw [if_neg e9]
      simp only [Sem.run_bind, r_size hn, run_askRoom, Result.andThen_ok, if_neg hz0, hz1, Sem.run_pure, n1]
  · refine .sl (Rho.put_same _ _ _) (by omega) (Nat.le_refl _) (fun _ => rfl) ?_ (.inl (by simp))
    rw [n3, q2, hcs]; simp

end
end VE

namespace VE
open Go

/-! ## One operation of the program -/

section
variable {E : Env} {lo : Nat} {ρ : Rho} {s s' : St} {w : World} {v : V} {fr : Fr} {a : Act} {c : Orc}

theorem undef_rel : VRel ρ w (.tu []) undef := .tu .nil

theorem OpOk.unit {m : Sem Unit} {w' : World} {ρ' : Rho} (h : m.run E.P w = .ok () w') (hs : Stp E lo ρ s w ρ' s' w') : OpOk E lo ρ s w (.tu []) s' (do m; pure .skip) :=
  ⟨ρ', w', .skip, undef, by simp [h], .inr ⟨rfl, rfl⟩, undef_rel, hs⟩

theorem OpOk.val {v' : Value} (hw : WR E ρ s w) (hv : VRel ρ w v v') : OpOk E lo ρ s w v s (pure (.value v')) :=
  ⟨ρ, w, .value v', v', rfl, .inl rfl, hv, .refl lo hw⟩

theorem und1 (hu : Und ρ s s') (h : s'.next = s.next + 1) : ρ s.next = none := hu _ (Nat.le_refl _) (by omega)

/-- What one operation of the evaluator comes to. -/
abbrev Ran (c : Orc) (lo : Nat) (fr : Fr) (x : VOp) (s : St) (v : V) (s' : St) : Prop := opV c lo fr x s = some (v, s')

theorem o_mv (hw : WR E ρ s w) (hF : FRel ρ w fr a.tmps) {x : Operand} (h : Ran c lo fr (.mv x) s v s') : OpOk E lo ρ s w v s' (pure (.value (a.eval x))) := by
  simp only [Ran, opV, Option.map_eq_some_iff] at h
  obtain ⟨y, hy, h⟩ := h
  injection h with h1 h2; subst h1; subst h2
  exact .val hw (evO_rel hF hy)

theorem o_pick (hw : WR E ρ s w) (hF : FRel ρ w fr a.tmps) {x y z : Operand} (h : Ran c lo fr (.pick x y z) s v s') :
    OpOk E lo ρ s w v s' (do pure (.value (if ← asBool (a.eval x) then a.eval y else a.eval z))) := by
  simp only [Ran, opV] at h
  split at h
  · rename_i hc
    simp only [Option.map_eq_some_iff] at h
    obtain ⟨q, hq, h⟩ := h
    injection h with h1 h2; subst h1; subst h2
    exact ⟨ρ, w, _, _, by simp [(evO_rel hF hc).inv_b, asBool], .inl rfl, evO_rel hF hq, .refl lo hw⟩
  · rename_i hc
    simp only [Option.map_eq_some_iff] at h
    obtain ⟨q, hq, h⟩ := h
    injection h with h1 h2; subst h1; subst h2
    exact ⟨ρ, w, _, _, by simp [(evO_rel hF hc).inv_b, asBool], .inl rfl, evO_rel hF hq, .refl lo hw⟩
  · simp at h

theorem o_alloc (hw : WR E ρ s w) (hu : Und ρ s s') (hlo : lo ≤ s.next) {t : TypeId} {z : V} (hz : zeroV E.P t = some z) (h : Ran c lo fr (.alloc z.cells) s v s') :
    ValOk E lo ρ s w v s' (Instr.alloc t true (.tuple #[])) := by
  simp only [Ran, opV, Option.some.injEq, Prod.mk.injEq] at h
  obtain ⟨rfl, rfl⟩ := h
  obtain ⟨z', hz1, hzr⟩ := r_zero hz w
  obtain ⟨w', h1, h2⟩ := newVar_ok (t := t) hw (und1 hu rfl) hlo (hzr ρ w)
  refine ⟨_, w', _, ?_, .p (Rho.put_same _ _ _), h2⟩
  simp [Instr.alloc, hz1, h1]

theorem o_box (hw : WR E ρ s w) (hF : FRel ρ w fr a.tmps) (hu : Und ρ s s') (hlo : lo ≤ s.next) {t : TypeId} {x : Operand} (h : Ran c lo fr (.box x) s v s') :
    ValOk E lo ρ s w v s' (Instr.box t (a.eval x)) := by
  simp only [Ran, opV] at h
  split at h
  · rename_i y hy
    simp only [Option.some.injEq, Prod.mk.injEq] at h
    obtain ⟨rfl, rfl⟩ := h
    obtain ⟨w', h1, h2⟩ := newVar_ok (t := t) hw (und1 hu rfl) hlo (evO_rel hF hy)
    refine ⟨_, w', _, ?_, .p (Rho.put_same _ _ _), h2⟩
    simp [Instr.box, h1]
  · simp at h

theorem o_load (hw : WR E ρ s w) (hF : FRel ρ w fr a.tmps) {t : TypeId} {g : Option Nat} {x : Operand} (hg : aggV E.P t = some g) (h : Ran c lo fr (.load g x) s v s') :
    ValOk E lo ρ s w v s' (Instr.loadAt t (a.eval x)) := by
  simp only [Ran, opV] at h
  split at h
  · rename_i id off hx
    split at h
    · rename_i cs hr
      simp only [Option.map_eq_some_iff] at h
      obtain ⟨q, hq, h⟩ := h
      injection h with h1 h2; subst h1; subst h2
      obtain ⟨b, sh, hρ, he⟩ := (evO_rel hF hx).inv_p
      obtain ⟨v', h1, h2⟩ := loadVar_ok hw hg hρ hr hq
      exact .pure hw (by simp [Instr.loadAt, he, Instr.sureAddr, h1]) h2
    · simp at h
  · simp at h

theorem o_store (hw : WR E ρ s w) (hF : FRel ρ w fr a.tmps) {t : TypeId} {n : Nat} {x y : Operand} (hn : sizeV E.P t = some n) (h : Ran c lo fr (.store n x y) s v s') :
    OpOk E lo ρ s w v s' (do Instr.storeAt t (a.eval x) (a.eval y); pure .skip) := by
  simp only [Ran, opV] at h
  split at h
  · rename_i id off u hx hy
    split at h
    · rename_i hl
      simp only [Option.map_eq_some_iff] at h
      obtain ⟨q, hq, h⟩ := h
      injection h with h1 h2; subst h1; subst h2
      obtain ⟨b, sh, hρ, he⟩ := (evO_rel hF hx).inv_p
      obtain ⟨w', h1, h2⟩ := storeVar_ok hw hn hρ (evO_rel hF hy) hl hq
      exact .unit (by simp [Instr.storeAt, he, Instr.sureAddr, h1]) h2
    · simp at h
  · simp at h

theorem o_nilCheck (hw : WR E ρ s w) (hF : FRel ρ w fr a.tmps) {o : Oper} {x : Operand} (ho : o.op = .nilCheck x) (h : Ran c lo fr (.nilCheck x) s v s') : OpOk E lo ρ s w v s' (execOp a.eval o) := by
  simp only [Ran, opV] at h
  split at h
  · rename_i hx
    injection h with h; injection h with h1 h2; subst h1; subst h2
    have hr := evO_rel hF hx
    obtain ⟨b, sh, hρ, he⟩ := hr.inv_p
    exact ⟨ρ, w, _, _, by simp [execOp, ho, he]; rfl, .inl rfl, by rw [he] at hr; exact hr, .refl lo hw⟩
  · rename_i hx
    injection h with h; injection h with h1 h2; subst h1; subst h2
    have hr := evO_rel hF hx
    obtain ⟨x', _, he⟩ := hr.inv_it
    exact ⟨ρ, w, _, _, by simp [execOp, ho, he]; rfl, .inl rfl, by rw [he] at hr; exact hr, .refl lo hw⟩
  · rename_i hx
    injection h with h; injection h with h1 h2; subst h1; subst h2
    have hr := evO_rel hF hx
    obtain ⟨x', _, _, _, he⟩ := hr.inv_fn
    exact ⟨ρ, w, _, _, by simp [execOp, ho, he]; rfl, .inl rfl, by rw [he] at hr; exact hr, .refl lo hw⟩
  · rename_i hx
    injection h with h; injection h with h1 h2; subst h1; subst h2
    have hr := evO_rel hF hx
    obtain ⟨b, sh, hρ, he⟩ := hr.inv_yl
    exact ⟨ρ, w, _, _, by simp [execOp, ho, he]; rfl, .inl rfl, by rw [he] at hr; exact hr, .refl lo hw⟩
  · simp at h

theorem o_bin (hw : WR E ρ s w) (hF : FRel ρ w fr a.tmps) {op : BinOp} {t : TypeId} {x y : Operand} (h : Ran c lo fr (.bin op x y) s v s') :
    ValOk E lo ρ s w v s' (do eqGuard op t x y (a.eval x) (a.eval y); binOp op t (a.eval x) (a.eval y)) := by
  simp only [Ran, opV] at h
  split at h
  · rename_i p q hx hy
    simp only [Option.map_eq_some_iff] at h
    obtain ⟨r, hr, h⟩ := h
    injection h with h1 h2; subst h1; subst h2
    obtain ⟨v', h1, h2, h3⟩ := bin_ok (E := E) (t := t) (evO_rel hF hx) (evO_rel hF hy) hr
    exact .pure hw (by simp [h3, h1]) h2
  · simp at h

theorem o_eqB (hw : WR E ρ s w) (hF : FRel ρ w fr a.tmps) {op : BinOp} {neg : Bool} {t : TypeId} {x y : Operand} (hu : E.P.underlying t = some .bool) (hop : (op = .eql ∧ neg = false) ∨ (op = .neq ∧ neg = true))
    (h : Ran c lo fr (.eqB neg x y) s v s') : ValOk E lo ρ s w v s' (do eqGuard op t x y (a.eval x) (a.eval y); binOp op t (a.eval x) (a.eval y)) := by
  simp only [Ran, opV] at h
  split at h
  · rename_i p q hx hy
    injection h with h; injection h with h1 h2; subst h1; subst h2
    rw [(evO_rel hF hx).inv_b, (evO_rel hF hy).inv_b]
    have e : (Op.equal t (.bool p) (.bool q)).run E.P w = .ok (p == q) w :=
      eq_cell (ρ := ρ) (w := w) (k := .b) hu rfl (.b p) (.b q) rfl 9999 w
    rcases hop with ⟨rfl, rfl⟩ | ⟨rfl, rfl⟩
    · exact .pure hw (by simp [eqGuard, binOp, e]) (.b _)
    · exact .pure hw (by simp [eqGuard, binOp, e]) (.b _)
  · simp at h

theorem o_eqAg (hE : EnvOk E) (hw : WR E ρ s w) (hF : FRel ρ w fr a.tmps) {op : BinOp} {neg : Bool} {t : TypeId} {ks : List CK} {x y : Operand} {d : TypeDesc} (hu : E.P.underlying t = some d) (hd : isAggD d = true)
    (hk : E.eqs.lookup t = some ks) (hop : (op = .eql ∧ neg = false) ∨ (op = .neq ∧ neg = true))
    (h : Ran c lo fr (.eqAg neg ks x y) s v s') : ValOk E lo ρ s w v s' (do eqGuard op t x y (a.eval x) (a.eval y); binOp op t (a.eval x) (a.eval y)) := by
  simp only [Ran, opV] at h
  split at h
  · rename_i xs ys hx hy
    simp only [Option.map_eq_some_iff] at h
    obtain ⟨r, hr, h⟩ := h
    injection h with h1 h2; subst h1; subst h2
    obtain ⟨xs', hx1, hx2⟩ := (evO_rel hF hx).inv_ag
    obtain ⟨ys', hy1, hy2⟩ := (evO_rel hF hy).inv_ag
    obtain ⟨he, hg⟩ := hE.eqs t ks hk
    obtain ⟨_, _, heq⟩ := eqB_ok _ _ _ he
    have e : (Op.equal t (.agg xs') (.agg ys')).run E.P w = .ok r w :=
      heq Op.maxDepth ρ w xs ys _ _ _ _ r (by decide) hr hx1 hy1 ⟨d, hu, by simp [hd]⟩ ⟨d, hu, by simp [hd]⟩ w
    rw [hx2, hy2]
    have g : (eqGuard op t x y (.agg xs') (.agg ys')).run E.P w = .ok () w := by
      rcases hop with ⟨rfl, rfl⟩ | ⟨rfl, rfl⟩ <;> simp [eqGuard, hg]
    rcases hop with ⟨rfl, rfl⟩ | ⟨rfl, rfl⟩
    · exact .pure hw (by simp [g, binOp, e]; rfl) (by simpa using .b _)
    · exact .pure hw (by simp [g, binOp, e]; rfl) (by simpa using .b _)
  · simp at h

/-- The value of a nil of a kind of type. -/
def nilVal : Nat → Value
  | 0 => .pointer none
  | 1 => .slice none 0 0
  | 2 => .map none
  | 3 => .nilFunc
  | _ => .nilIface

theorem nilConst_val {k : Nat} {x : Operand} (h : nilConst k x = true) : x = .const (nilVal k) := by
  unfold nilConst at h
  split at h <;> first | rfl | (simp at h)

theorem isNil_equal {P : Program} {k : Nat} {d : TypeDesc} {t : TypeId} {x : V} {x' : Value} {r : Bool} (hu : P.underlying t = some d) (hk : nilK d = some k) (hx : VRel ρ w x x') (h : isNilV k x = some r) (w1 : World) (n : Nat) :
    (Op.equalIn (n + 1) t x' (nilVal k)).run P w1 = .ok r w1 ∧ (Op.equalIn (n + 1) t (nilVal k) x').run P w1 = .ok r w1 := by
  cases d <;> simp only [nilK, reduceCtorEq, Option.some.injEq] at hk <;> subst hk <;> cases x <;> simp only [isNilV, reduceCtorEq, Option.some.injEq] at h <;> subst h <;> cases hx <;>
    simp [Op.equalIn, r_und hu, nilVal]

theorem isNil_bin {op : BinOp} {neg : Bool} {k : Nat} {d : TypeDesc} {t : TypeId} {x : V} {x' : Value} {r : Bool} {p q : Operand} (hu : E.P.underlying t = some d) (hk : nilK d = some k) (hx : VRel ρ w x x') (h : isNilV k x = some r)
    (hop : (op = .eql ∧ neg = false) ∨ (op = .neq ∧ neg = true)) (hc : (∃ u, p = .const u) ∨ ∃ u, q = .const u) :
    (do eqGuard op t p q x' (nilVal k); binOp op t x' (nilVal k)).run E.P w = .ok (.bool (r != neg)) w ∧ (do eqGuard op t p q (nilVal k) x'; binOp op t (nilVal k) x').run E.P w = .ok (.bool (r != neg)) w := by
  obtain ⟨e1, e2⟩ := isNil_equal hu hk hx h w 9999
  have e1 : (Op.equal t x' (nilVal k)).run E.P w = .ok r w := e1
  have e2 : (Op.equal t (nilVal k) x').run E.P w = .ok r w := e2
  cases d <;> simp only [nilK, reduceCtorEq, Option.some.injEq] at hk <;> subst hk <;> cases x <;> simp only [isNilV, reduceCtorEq, Option.some.injEq] at h <;> subst h <;> cases hx <;>
    rcases hop with ⟨rfl, rfl⟩ | ⟨rfl, rfl⟩ <;> (try simp only [nilVal] at e1 e2) <;> rcases hc with ⟨u, rfl⟩ | ⟨u, rfl⟩ <;> simp [eqGuard, binOp, nilVal, e1, e2]

theorem o_isNil (hw : WR E ρ s w) (hF : FRel ρ w fr a.tmps) {op : BinOp} {neg : Bool} {k : Nat} {d : TypeDesc} {t : TypeId} {x y z : Operand} (hu : E.P.underlying t = some d) (hk : nilK d = some k)
    (hop : (op = .eql ∧ neg = false) ∨ (op = .neq ∧ neg = true)) (hz : (nilConst k y = true ∧ z = x) ∨ (nilConst k x = true ∧ z = y)) (h : Ran c lo fr (.isNil k neg z) s v s') :
    ValOk E lo ρ s w v s' (do eqGuard op t x y (a.eval x) (a.eval y); binOp op t (a.eval x) (a.eval y)) := by
  simp only [Ran, opV] at h
  split at h
  · rename_i q hq
    simp only [Option.map_eq_some_iff] at h
    obtain ⟨r, hr, h⟩ := h
    injection h with h1 h2; subst h1; subst h2
    rcases hz with ⟨hc, rfl⟩ | ⟨hc, rfl⟩
    · have := nilConst_val hc; subst this
      exact .pure hw (isNil_bin hu hk (evO_rel hF hq) hr hop (.inr ⟨_, rfl⟩)).1 (.b _)
    · have := nilConst_val hc; subst this
      exact .pure hw (isNil_bin hu hk (evO_rel hF hq) hr hop (.inl ⟨_, rfl⟩)).2 (.b _)
  · simp at h

theorem o_un (hw : WR E ρ s w) (hF : FRel ρ w fr a.tmps) {op : UnOp} {x : Operand} (h : Ran c lo fr (.un op x) s v s') : ValOk E lo ρ s w v s' (Op.unary op (a.eval x)) := by
  simp only [Ran, opV] at h
  split at h
  · rename_i q hq
    simp only [Option.map_eq_some_iff] at h
    obtain ⟨r, hr, h⟩ := h
    injection h with h1 h2; subst h1; subst h2
    obtain ⟨v', h1, h2⟩ := un_ok (E := E) (evO_rel hF hq) hr
    exact .pure hw h1 h2
  · simp at h

theorem o_toInt (hw : WR E ρ s w) (hF : FRel ρ w fr a.tmps) {k : IntKind} {x : Operand} {t u : TypeId} {d : TypeDesc} (ht : E.P.underlying t = some d) (hu : E.P.underlying u = some (.int k)) (h : Ran c lo fr (.toInt k x) s v s') :
    ValOk E lo ρ s w v s' (convert t u (a.eval x)) := by
  simp only [Ran, opV, Option.map_eq_some_iff] at h
  obtain ⟨r, hr, h⟩ := h
  injection h with h1 h2; subst h1; subst h2
  rw [Option.bind_eq_some_iff] at hr
  obtain ⟨q, hq, hr⟩ := hr
  have hx := evO_rel hF hq
  cases q <;> simp only [toIntV, reduceCtorEq] at hr
  · injection hr with hr; subst hr
    rw [hx.inv_i]
    exact .pure hw (by simp [convert, r_und ht, r_und hu, Conv.intToInt]) (.i _ _)
  · rw [Option.bind_eq_some_iff] at hr
    obtain ⟨y, h1, h2⟩ := hr
    rw [hx.inv_f]
    exact .pure hw (by simpa [convert, r_und ht, r_und hu] using pureS_run h1 E.P w) (ofVal_rel h2)

theorem o_toFloat (hw : WR E ρ s w) (hF : FRel ρ w fr a.tmps) {k : FloatKind} {x : Operand} {t u : TypeId} {d : TypeDesc} (ht : E.P.underlying t = some d) (hu : E.P.underlying u = some (.float k)) (h : Ran c lo fr (.toFloat k x) s v s') :
    ValOk E lo ρ s w v s' (convert t u (a.eval x)) := by
  simp only [Ran, opV, Option.map_eq_some_iff] at h
  obtain ⟨r, hr, h⟩ := h
  injection h with h1 h2; subst h1; subst h2
  rw [Option.bind_eq_some_iff] at hr
  obtain ⟨q, hq, hr⟩ := hr
  have hx := evO_rel hF hq
  cases q <;> simp only [toFloatV, reduceCtorEq] at hr
  · injection hr with hr; subst hr
    rw [hx.inv_i]
    exact .pure hw (by simp [convert, r_und ht, r_und hu, Conv.intToFloat]) (.f _ _)
  · split at hr
    · rename_i e; subst e
      injection hr with hr; subst hr
      rw [hx.inv_f]
      exact .pure hw (by simp [convert, r_und ht, r_und hu, Conv.floatToFloat]) (.f _ _)
    · simp at hr

theorem bytes_eta (b : ByteArray) : (⟨⟨b.data.toList⟩⟩ : ByteArray) = b := rfl

theorem o_toStr (hw : WR E ρ s w) (hF : FRel ρ w fr a.tmps) {x : Operand} {t u : TypeId} {d : TypeDesc} (ht : E.P.underlying t = some d) (hu : E.P.underlying u = some .string) (h : Ran c lo fr (.toStr x) s v s') :
    ValOk E lo ρ s w v s' (convert t u (a.eval x)) := by
  simp only [Ran, opV] at h
  split at h
  · rename_i bs hq
    injection h with h; injection h with h1 h2; subst h1; subst h2
    rw [(evO_rel hF hq).inv_s]
    exact .pure hw (by simp [convert, r_und ht, r_und hu]) (.s _)
  · rename_i k n hq
    injection h with h; injection h with h1 h2; subst h1; subst h2
    rw [(evO_rel hF hq).inv_i]
    exact .pure hw (by simp [convert, r_und ht, r_und hu, Conv.intToString]) (.s _)
  · simp at h

theorem o_bytesStr (hw : WR E ρ s w) (hF : FRel ρ w fr a.tmps) {x : Operand} {t u e : TypeId} (ht : E.P.underlying t = some (.slice e)) (hu : E.P.underlying u = some .string) (he : E.P.underlying e = some (.int .u8)) (h : Ran c lo fr (.bytesStr x) s v s') :
    ValOk E lo ρ s w v s' (convert t u (a.eval x)) := by
  simp only [Ran, opV] at h
  cases hq : evO fr x with
  | none => simp [hq] at h
  | some q =>
    have hx := evO_rel hF hq
    have hc : ∀ y, VRel ρ w q y → (q = .sn ∨ ∃ id off len lb sz ex, q = .sl id off len lb sz ex) → (convert t u y).run E.P w = (Conv.bytesToString y).run E.P w := by
      intro y hy hs
      rcases hs with rfl | ⟨id, off, len, lb, sz, ex, rfl⟩
      · rw [hy.inv_sn]; simp [convert, r_und ht, r_und hu, r_und he]
      · obtain ⟨_, _, _, _, _, _, _, _, _, _, rfl⟩ := hy.inv_sl; simp [convert, r_und ht, r_und hu, r_und he]
    have hs : q = .sn ∨ ∃ id off len lb sz ex, q = .sl id off len lb sz ex := by
      cases q <;> simp [hq] at h <;> simp
    obtain ⟨rfl, v', h1, h2⟩ := bytesStr_ok (E := E) hw hx (v := v) (s' := s') (by
      rw [hq] at h; rcases hs with rfl | ⟨id, off, len, lb, sz, ex, rfl⟩ <;> exact h)
    exact .pure hw (by rw [hc _ hx hs, h1]) h2

theorem o_runesStr (hw : WR E ρ s w) (hF : FRel ρ w fr a.tmps) {x : Operand} {t u e : TypeId} (ht : E.P.underlying t = some (.slice e)) (hu : E.P.underlying u = some .string) (he : E.P.underlying e = some (.int .i32)) (h : Ran c lo fr (.runesStr x) s v s') :
    ValOk E lo ρ s w v s' (convert t u (a.eval x)) := by
  simp only [Ran, opV] at h
  cases hq : evO fr x with
  | none => simp [hq] at h
  | some q =>
    have hx := evO_rel hF hq
    have hc : ∀ y, VRel ρ w q y → (q = .sn ∨ ∃ id off len lb sz ex, q = .sl id off len lb sz ex) → (convert t u y).run E.P w = (Conv.runesToString y).run E.P w := by
      intro y hy hs
      rcases hs with rfl | ⟨id, off, len, lb, sz, ex, rfl⟩
      · rw [hy.inv_sn]; simp [convert, r_und ht, r_und hu, r_und he]
      · obtain ⟨_, _, _, _, _, _, _, _, _, _, rfl⟩ := hy.inv_sl; simp [convert, r_und ht, r_und hu, r_und he]
    have hs : q = .sn ∨ ∃ id off len lb sz ex, q = .sl id off len lb sz ex := by
      cases q <;> simp [hq] at h <;> simp
    obtain ⟨rfl, v', h1, h2⟩ := runesStr_ok (E := E) hw hx (v := v) (s' := s') (by
      rw [hq] at h; rcases hs with rfl | ⟨id, off, len, lb, sz, ex, rfl⟩ <;> exact h)
    exact .pure hw (by rw [hc _ hx hs, h1]) h2

theorem o_mkIface (hw : WR E ρ s w) (hF : FRel ρ w fr a.tmps) {x : Operand} {t : TypeId} {d : TypeDesc} (ht : E.P.underlying t = some d) (hd : (∃ m, d = .interface m) → False) (h : Ran c lo fr (.mkIface t x) s v s') :
    ValOk E lo ρ s w v s' (Instr.makeInterface t (a.eval x)) := by
  simp only [Ran, opV, Option.map_eq_some_iff] at h
  obtain ⟨r, hr, h⟩ := h
  injection h with h1 h2; subst h1; subst h2
  refine .pure hw (v' := .iface t (a.eval x)) ?_ (.it _ (evO_rel hF hr))
  simp only [Instr.makeInterface, Sem.run_bind, r_und ht, Result.andThen_ok]
  cases d <;> first | rfl | exact absurd ⟨_, rfl⟩ hd

theorem o_mkFunc (hw : WR E ρ s w) (hF : FRel ρ w fr a.tmps) {f : Fn} {l m : Array Operand} (h : Ran c lo fr (.mkFunc f l.toList m.toList) s v s') :
    ValOk E lo ρ s w v s' (Instr.makeFunc f (l.map a.eval) (m.map a.eval)) := by
  simp only [Ran, opV] at h
  split at h
  · rename_i k xs ys hx hy
    injection h with h; injection h with h1 h2; subst h1; subst h2
    exact .pure hw (v' := .func (.func k) (l.map a.eval) (m.map a.eval)) rfl (.fn _ (by simpa using evL_rel hF hx) (by simpa using evL_rel hF hy))
  · simp at h

theorem o_mkMap (hw : WR E ρ s w) (hu : Und ρ s s') (hlo : lo ≤ s.next) {t : TypeId} (h : Ran c lo fr .mkMap s v s') : ValOk E lo ρ s w v s' (Instr.makeMap t none) := by
  simp only [Ran, opV, Option.some.injEq, Prod.mk.injEq] at h
  obtain ⟨rfl, rfl⟩ := h
  have st : Stp E lo ρ s w (ρ.put s.next (w.heap.size, 0)) (s.alloc (.map [])) { w with heap := w.heap.push (.map #[] 0) } :=
    .make (und1 hu rfl) hlo hw rfl ⟨#[], 0, by simp, .nil, .nil⟩ ⟨rfl, rfl⟩
  exact ⟨_, _, _, by simp [Instr.makeMap, newObj, Sem.run], .m (Rho.put_same _ _ _), st⟩

end
end VE

namespace VE
open Go

section
variable {E : Env} {lo : Nat} {ρ : Rho} {s s' : St} {w : World} {v : V} {fr : Fr} {a : Act} {c : Orc}

theorem o_build_struct (hw : WR E ρ s w) (hF : FRel ρ w fr a.tmps) {t : TypeId} {z : V} {fs : Array Field} {parts : Array (Nat × Operand)} {l : List (Nat × Nat × Operand)}
    (hz : zeroV E.P t = some z) (hu : E.P.underlying t = some (.struct fs)) (hp : placesS E.P fs parts.toList = some l) (hall : (fs.all fun f => (sizeV E.P f.type).isSome) = true)
    (h : Ran c lo fr (if inRow 0 z.cells.length l then .buildC (l.map (·.2)) else .build z.cells l) s v s') : ValOk E lo ρ s w v s' (Instr.build t (parts.map fun (i, x) => (i, a.eval x))) := by
  split at h
  · rename_i hr
    simp only [Ran, opV] at h
    split at h
    · rename_i vs hv
      simp only [Option.map_eq_some_iff] at h
      obtain ⟨cs, hc, h⟩ := h
      injection h with h1 h2; subst h1; subst h2
      obtain ⟨ps, hp1, hp2, hp3⟩ := evC_evP hv
      exact build_struct_ok hw hF hz hu hp hall hp1 (by rw [fillV_inRow ps 0 _ _ cs rfl (hp3 _ _ hr) (by rw [hp2]; exact hc)]; simp)
    · simp at h
  · simp only [Ran, opV] at h
    split at h
    · rename_i vs hv
      simp only [Option.map_eq_some_iff] at h
      obtain ⟨cs, hc, h⟩ := h
      injection h with h1 h2; subst h1; subst h2
      exact build_struct_ok hw hF hz hu hp hall hv hc
    · simp at h

theorem o_build_array (hw : WR E ρ s w) (hF : FRel ρ w fr a.tmps) {t e : TypeId} {n k : Nat} {z : V} {parts : Array (Nat × Operand)}
    (hz : zeroV E.P t = some z) (hu : E.P.underlying t = some (.array k e)) (hn : sizeV E.P e = some n)
    (h : Ran c lo fr (if inRow 0 z.cells.length (placesA n parts.toList) then .buildC ((placesA n parts.toList).map (·.2)) else .build z.cells (placesA n parts.toList)) s v s') :
    ValOk E lo ρ s w v s' (Instr.build t (parts.map fun (i, x) => (i, a.eval x))) := by
  split at h
  · rename_i hr
    simp only [Ran, opV] at h
    split at h
    · rename_i vs hv
      simp only [Option.map_eq_some_iff] at h
      obtain ⟨cs, hc, h⟩ := h
      injection h with h1 h2; subst h1; subst h2
      obtain ⟨ps, hp1, hp2, hp3⟩ := evC_evP hv
      exact build_array_ok hw hF hz hu hn hp1 (by rw [fillV_inRow ps 0 _ _ cs rfl (hp3 _ _ hr) (by rw [hp2]; exact hc)]; simp)
    · simp at h
  · simp only [Ran, opV] at h
    split at h
    · rename_i vs hv
      simp only [Option.map_eq_some_iff] at h
      obtain ⟨cs, hc, h⟩ := h
      injection h with h1 h2; subst h1; subst h2
      exact build_array_ok hw hF hz hu hn hv hc
    · simp at h

theorem o_bslice (hw : WR E ρ s w) (hF : FRel ρ w fr a.tmps) (hu0 : Und ρ s s') (hlo : lo ≤ s.next) {t e : TypeId} {n len : Nat} {z : V} {parts : Array (Nat × Operand)}
    (hz : zeroV E.P e = some z) (hu : E.P.underlying t = some (.slice e)) (hn : sizeV E.P e = some n) (hzl : z.cells.length = n) (hle : len * n ≤ 16777216)
    (h : Ran c lo fr (if inRow 0 (len * n) (placesA n parts.toList) then .bsliceC n len ((placesA n parts.toList).map (·.2)) else .bslice z.cells n len (placesA n parts.toList)) s v s') :
    ValOk E lo ρ s w v s' (Instr.buildSlice t len (parts.map fun (i, x) => (i, a.eval x))) := by
  split at h
  · rename_i hr
    simp only [Ran, opV] at h
    split at h
    · rename_i vs hv
      split at h
      · rename_i cs hc
        injection h with h; injection h with h1 h2; subst h1; subst h2
        obtain ⟨ps, hp1, hp2, hp3⟩ := evC_evP hv
        exact bslice_ok hw hF (und1 hu0 rfl) hlo hz hu hn hzl hle hp1 (by rw [fillV_inRow ps 0 (len * n) _ cs (by rw [length_reps, hzl]) (hp3 _ _ hr) (by rw [hp2]; exact hc)]; simp)
      · simp at h
    · simp at h
  · simp only [Ran, opV] at h
    split at h
    · rename_i vs hv
      split at h
      · rename_i cs hc
        injection h with h; injection h with h1 h2; subst h1; subst h2
        exact bslice_ok hw hF (und1 hu0 rfl) hlo hz hu hn hzl hle hv hc
      · simp at h
    · simp at h

theorem o_mkSlice (hw : WR E ρ s w) (hF : FRel ρ w fr a.tmps) (hu0 : Und ρ s s') (hlo : lo ≤ s.next) {t e : TypeId} {n b : Nat} {z : V} {x y : Operand}
    (hu : E.P.underlying t = some (.slice e)) (hn : sizeV E.P e = some n) (hz : zeroV E.P e = some z) (hb : bytesV E.P e = some b) (hzl : z.cells.length = n)
    (h : Ran c lo fr (.mkSlice z.cells n b x y) s v s') : ValOk E lo ρ s w v s' (Instr.makeSlice t (a.eval x) (a.eval y)) := by
  simp only [Ran, opV] at h
  split at h
  · rename_i k l k' cc hx hy
    split at h
    · rename_i hc
      injection h with h; injection h with h1 h2; subst h1; subst h2
      exact makeSlice_ok (lv := .i k l) (cv := .i k' cc) hw (und1 hu0 rfl) hlo hu hn hz hb hzl (evO_rel hF hx) (evO_rel hF hy) hc.1 hc.2.1 hc.2.2.1 hc.2.2.2
    · simp at h
  · simp at h

theorem o_slStr (hw : WR E ρ s w) (hF : FRel ρ w fr a.tmps) {t : TypeId} {x : Operand} {l h' : Option Operand} (hu : E.P.underlying t = some .string) (h : Ran c lo fr (.slStr x l h') s v s') :
    ValOk E lo ρ s w v s' (Instr.sliceAt t (a.eval x) (l.map a.eval) (h'.map a.eval) none) := by
  simp only [Ran, opV] at h
  split at h
  · rename_i bs lv hv hx hl hh
    split at h
    · rename_i hi ehi
      split at h
      · rename_i l0 el
        injection h with h; injection h with h1 h2; subst h1; subst h2
        rw [(evO_rel hF hx).inv_s]
        obtain ⟨r1, r2, r3⟩ := sliceBounds_ok (E := E) (ρ := ρ) (w := w) (isS := false) (m := 0) (Nat.le_refl bs.length) (Nat.le_refl bs.length) (opt_rel hF hl) (opt_rel hF hh) ehi el
        have e : ((⟨⟨bs⟩⟩ : ByteArray).extract l0 hi) = ⟨⟨(bs.drop l0).take (hi - l0)⟩⟩ := by
          apply ByteArray.ext
          simp [ByteArray.data_extract, List.extract_toArray, List.extract]
        refine .pure hw (v' := .string ⟨⟨(bs.drop l0).take (hi - l0)⟩⟩) ?_ (.s _)
        have hs : (⟨⟨bs⟩⟩ : ByteArray).size = bs.length := rfl
        simp [Instr.sliceAt, Instr.slice, r_und hu, hs, r1, e]
      · simp at h
    · simp at h
  · simp at h

theorem o_slArr (hw : WR E ρ s w) (hF : FRel ρ w fr a.tmps) {t e : TypeId} {n sz : Nat} {x : Operand} {l h' m : Option Operand} (hu : E.P.underlying t = some (.array n e)) (hn : sizeV E.P e = some sz)
    (h : Ran c lo fr (.slArr n sz x l h' m) s v s') : ValOk E lo ρ s w v s' (Instr.sliceAt t (a.eval x) (l.map a.eval) (h'.map a.eval) (m.map a.eval)) := by
  simp only [Ran, opV] at h
  split at h
  · rename_i id off lv hv hx hl hh hm
    split at h
    · rename_i cs hr
      simp only [Option.map_eq_some_iff] at h
      obtain ⟨q, hq, h⟩ := h
      injection h with h1 h2; subst h1; subst h2
      obtain ⟨b, sh, hρ, he⟩ := (evO_rel hF hx).inv_p
      rw [he]
      obtain ⟨c0, t0, f0, g3, g4⟩ := rd_block hw hρ hr
      have hm' := opt_rel hF hm
      obtain ⟨l0, h0, m0, r1, r2⟩ := sliceV_rel (E := E) (isS := false) hρ (Nat.le_refl n) (Nat.le_refl n) (fun _ => rfl) (by rw [csz_of g3]; omega) (.inl rfl) (opt_rel hF hl) (opt_rel hF hh) hm' hq
      refine .pure hw ?_ r2
      simp only [Instr.sliceAt, Instr.sureAddr, r_und hu, Sem.run_bind, Result.andThen_ok, r1, r_size hn, Sem.run_pure]
    · simp at h
  · simp at h

theorem o_slSl (hw : WR E ρ s w) (hF : FRel ρ w fr a.tmps) {t e : TypeId} {sz : Nat} {x : Operand} {l h' m : Option Operand} (hu : E.P.underlying t = some (.slice e)) (hn : sizeV E.P e = some sz)
    (h : Ran c lo fr (.slSl sz x l h' m) s v s') : ValOk E lo ρ s w v s' (Instr.sliceAt t (a.eval x) (l.map a.eval) (h'.map a.eval) (m.map a.eval)) := by
  simp only [Ran, opV] at h
  split at h
  · rename_i id off len lb sz' ex lv hv mv hx hl hh hm
    split at h
    · rename_i e; subst e
      simp only [Option.map_eq_some_iff] at h
      obtain ⟨q, hq, h⟩ := h
      injection h with h1 h2; subst h1; subst h2
      obtain ⟨b, sh, off', cap, hρ, c1, c2, c3, c4, c5, he⟩ := (evO_rel hF hx).inv_sl
      rw [he]
      obtain ⟨l0, h0, m0, r1, r2⟩ := sliceV_rel (E := E) (isS := true) hρ c1 c2 c3 c4 c5 (opt_rel hF hl) (opt_rel hF hh) (opt_rel hF hm) hq
      refine .pure hw ?_ r2
      simp only [Instr.sliceAt, Instr.slice, r_und hu, Sem.run_bind, Result.andThen_ok, r1, r_size hn, Sem.run_pure]
      split <;> rfl
    · simp at h
  · rename_i lv hv mv hx hl hh hm
    rw [(evO_rel hF hx).inv_sn]
    split at h
    · rename_i p1 p2 p3 e1 e2 e3
      split at h
      · simp at h
      · rename_i hne
        injection h with h; injection h with h1 h2; subst h1; subst h2
        refine .pure hw (v' := .slice none 0 0) ?_ .sn
        have key : (Instr.sliceBounds true 0 0 (l.map a.eval) (h'.map a.eval) (m.map a.eval)).run E.P w = .ok (0, 0, 0) w := by
          have z : ∀ (u : V) (u' : Value) (n : Nat) (code : BoundsCode), VRel ρ w u u' → bnd 0 (some u) 0 = some n → (Instr.sliceBound u' 0 code).run E.P w = .ok 0 w := by
            intro u u' n code hr hb
            obtain ⟨g1, g2⟩ := bnd_ok (E := E) hr hb 0 (Nat.le_refl _) code
            rw [g1]; congr 1; omega
          rcases opt_rel hF hl with ⟨rfl, el⟩ | ⟨u1, z1, rfl, el, hr1⟩ <;> rcases opt_rel hF hh with ⟨rfl, eh⟩ | ⟨u2, z2, rfl, eh, hr2⟩ <;> rcases opt_rel hF hm with ⟨rfl, em⟩ | ⟨u3, z3, rfl, em, hr3⟩ <;>
            simp only [el, eh, em] <;> first
              | (simp at hne; done)
              | (simp only [Instr.sliceBounds, Sem.run_bind, Sem.run_pure, Result.andThen_ok, Option.isSome_none, Option.isSome_some, if_true, Bool.false_eq_true, if_false, z _ _ _ _ hr1 e2, z _ _ _ _ hr2 e1, z _ _ _ _ hr3 e3]; done)
              | (simp only [Instr.sliceBounds, Sem.run_bind, Sem.run_pure, Result.andThen_ok, Option.isSome_none, Option.isSome_some, if_true, Bool.false_eq_true, if_false, z _ _ _ _ hr2 e1, z _ _ _ _ hr3 e3]; done)
              | (simp only [Instr.sliceBounds, Sem.run_bind, Sem.run_pure, Result.andThen_ok, Option.isSome_none, Option.isSome_some, if_true, Bool.false_eq_true, if_false, z _ _ _ _ hr1 e2, z _ _ _ _ hr2 e1]; done)
              | (simp only [Instr.sliceBounds, Sem.run_bind, Sem.run_pure, Result.andThen_ok, Option.isSome_none, Option.isSome_some, if_true, Bool.false_eq_true, if_false, z _ _ _ _ hr1 e2]; done)
              | (simp only [Instr.sliceBounds, Sem.run_bind, Sem.run_pure, Result.andThen_ok, Option.isSome_none, Option.isSome_some, if_true, Bool.false_eq_true, if_false, z _ _ _ _ hr2 e1]; done)
              | (simp only [Instr.sliceBounds, Sem.run_bind, Sem.run_pure, Result.andThen_ok, Option.isSome_none, Option.isSome_some, if_true, Bool.false_eq_true, if_false]; done)
        simp only [Instr.sliceAt, Instr.slice, r_und hu, Sem.run_bind, Result.andThen_ok, key, r_size hn, Sem.run_pure]
        simp
    · simp at h
  · simp at h

theorem o_fieldAddr (hw : WR E ρ s w) (hF : FRel ρ w fr a.tmps) {t : TypeId} {fs : Array Field} {i : Nat} {f : Field} {n : Nat} {x : Operand} (hu : E.P.underlying t = some (.struct fs)) (hf : fs[i]? = some f) (hn : sizeV E.P f.type = some (n + 1))
    (h : Ran c lo fr (.fieldAddr f.offset x) s v s') : ValOk E lo ρ s w v s' (Instr.fieldAt t (a.eval x) i) := by
  simp only [Ran, opV] at h
  split at h
  · rename_i id off hx
    injection h with h; injection h with h1 h2; subst h1; subst h2
    obtain ⟨b, sh, hρ, he⟩ := (evO_rel hF hx).inv_p
    refine .pure hw (v' := .pointer (some ⟨b, sh + (off + f.offset), none⟩)) ?_ (.p hρ)
    simp [Instr.fieldAt, r_und hu, hf, he, Instr.sureAddr, fieldPlace, r_size hn, add_none, Nat.add_assoc]
  · simp at h

theorem o_field (hw : WR E ρ s w) (hF : FRel ρ w fr a.tmps) {t : TypeId} {fs : Array Field} {i : Nat} {f : Field} {g : Option Nat} {x : Operand} (hu : E.P.underlying t = some (.struct fs)) (hf : fs[i]? = some f) (hg : aggV E.P f.type = some g)
    (h : Ran c lo fr (.field f.offset g x) s v s') : ValOk E lo ρ s w v s' (Instr.field t (a.eval x) i) := by
  simp only [Ran, opV] at h
  split at h
  · rename_i cs hx
    simp only [Option.map_eq_some_iff] at h
    obtain ⟨q, hq, h⟩ := h
    injection h with h1 h2; subst h1; subst h2
    obtain ⟨cs', hr, he⟩ := (evO_rel hF hx).inv_ag
    obtain ⟨v', h1, h2⟩ := part_ok (E := E) hg hr hq
    exact .pure hw (by simp [Instr.field, r_und hu, hf, he, asAgg, h1]) h2
  · simp at h

theorem o_idxSl (hw : WR E ρ s w) (hF : FRel ρ w fr a.tmps) {t e : TypeId} {sz : Nat} {x i : Operand} (hu : E.P.underlying t = some (.slice e)) (hn : sizeV E.P e = some sz)
    (h : Ran c lo fr (.idxSl sz x i) s v s') : ValOk E lo ρ s w v s' (Instr.indexAt t (a.eval x) (a.eval i)) := by
  simp only [Ran, opV] at h
  split at h
  · rename_i id off len lb sz' ex k n hx hi
    split at h
    · rename_i hc
      obtain ⟨rfl, h0, hlt⟩ := hc
      injection h with h; injection h with h1 h2; subst h1; subst h2
      obtain ⟨b, sh, off', cap, hρ, c1, c2, c3, c4, c5, he⟩ := (evO_rel hF hx).inv_sl
      rw [he, (evO_rel hF hi).inv_i]
      have e5 : off' = sh + off := by
        rcases c5 with h | h
        · exact h
        · exfalso; omega
      subst e5
      refine .pure hw (v' := .pointer (some ⟨b, sh + (off + n.toNat * sz'), none⟩)) ?_ (.p hρ)
      simp [Instr.indexAt, asIntOf, r_und hu, h0, hlt, r_size hn, add_none, Nat.add_assoc]
    · simp at h
  · simp at h

theorem o_idxArr (hw : WR E ρ s w) (hF : FRel ρ w fr a.tmps) {t e : TypeId} {len sz : Nat} {x i : Operand} (hu : E.P.underlying t = some (.array len e)) (hn : sizeV E.P e = some sz)
    (h : Ran c lo fr (.idxArr len sz x i) s v s') : ValOk E lo ρ s w v s' (Instr.indexAt t (a.eval x) (a.eval i)) := by
  simp only [Ran, opV] at h
  split at h
  · rename_i id off k n hx hi
    split at h
    · rename_i hc
      obtain ⟨h0, hlt⟩ := hc
      injection h with h; injection h with h1 h2; subst h1; subst h2
      obtain ⟨b, sh, hρ, he⟩ := (evO_rel hF hx).inv_p
      rw [he, (evO_rel hF hi).inv_i]
      refine .pure hw (v' := .pointer (some ⟨b, sh + (off + n.toNat * sz), none⟩)) ?_ (.p hρ)
      simp [Instr.indexAt, asIntOf, r_und hu, h0, hlt, r_size hn, add_none, Nat.add_assoc, Instr.sureAddr]
    · simp at h
  · simp at h

theorem o_idxStr (hw : WR E ρ s w) (hF : FRel ρ w fr a.tmps) {t : TypeId} {x i : Operand} (hu : E.P.underlying t = some .string)
    (h : Ran c lo fr (.idxStr x i) s v s') : ValOk E lo ρ s w v s' (Instr.index t (a.eval x) (a.eval i)) := by
  simp only [Ran, opV] at h
  split at h
  · rename_i bs k n hx hi
    split at h
    · rename_i h0
      split at h
      · rename_i y hy
        injection h with h; injection h with h1 h2; subst h1; subst h2
        rw [(evO_rel hF hx).inv_s, (evO_rel hF hi).inv_i]
        refine .pure hw (v' := .int .u8 y.toNat) ?_ (.i _ _)
        have e : (⟨⟨bs⟩⟩ : ByteArray)[n.toNat]? = some y := by
          have hlt : n.toNat < bs.length := by
            rcases Nat.lt_or_ge n.toNat bs.length with h | h
            · exact h
            · rw [List.getElem?_eq_none h] at hy; simp at hy
          have hs : (⟨⟨bs⟩⟩ : ByteArray).size = bs.length := rfl
          rw [getElem?_pos (⟨⟨bs⟩⟩ : ByteArray) n.toNat (by rw [hs]; exact hlt)]
          rw [List.getElem?_eq_getElem hlt] at hy
          injection hy with hy
          rw [← hy]; rfl
        simp [Instr.index, asIntOf, r_und hu, h0, e]
      · simp at h
    · simp at h
  · simp at h

theorem o_idxAg (hw : WR E ρ s w) (hF : FRel ρ w fr a.tmps) {t e : TypeId} {len sz : Nat} {g : Option Nat} {x i : Operand} (hu : E.P.underlying t = some (.array len e)) (hn : sizeV E.P e = some sz) (hg : aggV E.P e = some g)
    (h : Ran c lo fr (.idxAg len sz g x i) s v s') : ValOk E lo ρ s w v s' (Instr.index t (a.eval x) (a.eval i)) := by
  simp only [Ran, opV] at h
  split at h
  · rename_i cs k n hx hi
    split at h
    · rename_i hc
      simp only [Option.map_eq_some_iff] at h
      obtain ⟨q, hq, h⟩ := h
      injection h with h1 h2; subst h1; subst h2
      obtain ⟨cs', hr, he⟩ := (evO_rel hF hx).inv_ag
      rw [he, (evO_rel hF hi).inv_i]
      obtain ⟨v', h1, h2⟩ := part_ok (E := E) hg hr hq
      exact .pure hw (by simp [Instr.index, asIntOf, r_und hu, hc.1, hc.2, r_size hn, h1]) h2
    · simp at h
  · simp at h

end
end VE

namespace VE
open Go

section
variable {E : Env} {lo : Nat} {ρ : Rho} {s s' : St} {w : World} {v : V} {fr : Fr} {a : Act} {c : Orc}

theorem o_lookup (hE : EnvOk E) (hw : WR E ρ s w) (hF : FRel ρ w fr a.tmps) {t kt e : TypeId} {z : V} {ks : List CK} {d : TypeDesc} {m k : Operand} {ok : Bool} (hu : E.P.underlying t = some (.map kt e)) (hz : zeroV E.P e = some z)
    (hk : E.keys.lookup kt = some ks) (hd : E.P.underlying kt = some d) (h : Ran c lo fr (.lookup (isAggD d) ks z ok m k) s v s') : ValOk E lo ρ s w v s' (Instr.lookup t (a.eval m) (a.eval k) ok) := by
  simp only [Ran, opV] at h
  split at h
  · rename_i mv kv hm hkv
    split at h
    · rename_i es hes
      split at h
      · rename_i hself
        simp only [Option.map_eq_some_iff] at h
        obtain ⟨r, hr, h⟩ := h
        injection h with h1 h2; subst h1; subst h2
        obtain ⟨v', h1, h2⟩ := lookup_ok (ok := ok) (es := es) hE hw hu hz hk hd (evO_rel hF hm) (evO_rel hF hkv) hself (by cases mv <;> exact hes) hr
        exact .pure hw h1 h2
      · simp at h
    · simp at h
  · simp at h

theorem o_mapSet (hE : EnvOk E) (hw : WR E ρ s w) (hF : FRel ρ w fr a.tmps) {t kt e : TypeId} {ks : List CK} {d : TypeDesc} {m k x : Operand} (hu : E.P.underlying t = some (.map kt e))
    (hk : E.keys.lookup kt = some ks) (hd : E.P.underlying kt = some d) (h : Ran c lo fr (.mapSet (isAggD d) ks m k x) s v s') :
    OpOk E lo ρ s w v s' (do Instr.mapUpdate t (a.eval m) (a.eval k) (a.eval x); pure .skip) := by
  simp only [Ran, opV] at h
  split at h
  · rename_i id kv vv hm hkv hvv
    split at h
    · simp at h
    · rename_i hlo
      split at h
      · rename_i es hg
        split at h
        · rename_i hself
          simp only [Option.map_eq_some_iff] at h
          obtain ⟨r, hr, h⟩ := h
          injection h with h1 h2; subst h1; subst h2
          obtain ⟨w', h1, h2⟩ := mapUpdate_ok (id := id) hE hw hu hk hd (evO_rel hF hm) (evO_rel hF hkv) (evO_rel hF hvv) hself (Nat.le_of_not_lt hlo) hg hr
          exact .unit h1 h2
        · simp at h
      · simp at h
  · simp at h

theorem o_range (hw : WR E ρ s w) (hF : FRel ρ w fr a.tmps) (hu0 : Und ρ s s') (hlo : lo ≤ s.next) {t : TypeId} {x : Operand} (hu : E.P.underlying t = some .string) (h : Ran c lo fr (.range x) s v s') :
    ValOk E lo ρ s w v s' (Instr.range t (a.eval x)) := by
  simp only [Ran, opV] at h
  split at h
  · rename_i bs hx
    injection h with h; injection h with h1 h2; subst h1; subst h2
    rw [(evO_rel hF hx).inv_s]
    have st : Stp E lo ρ s w (ρ.put s.next (w.heap.size, 0)) (s.alloc (.iter bs 0)) { w with heap := w.heap.push (.stringIter ⟨⟨bs⟩⟩ 0) } :=
      .make (und1 hu0 rfl) hlo hw rfl (by simp [ORel]) ⟨rfl, rfl⟩
    exact ⟨_, _, _, by simp [Instr.range, r_und hu, newObj, Sem.run], .p (Rho.put_same _ _ _), st⟩
  · simp at h

theorem o_next (hw : WR E ρ s w) (hF : FRel ρ w fr a.tmps) {t : TypeId} {x : Operand} (h : Ran c lo fr (.next x) s v s') :
    ValOk E lo ρ s w v s' (Instr.next (a.eval x) true t) := by
  simp only [Ran, opV] at h
  split at h
  · rename_i id hx
    split at h
    · simp at h
    · rename_i hlo
      split at h
      · rename_i bs pos hg
        obtain ⟨b, sh, hρ, he⟩ := (evO_rel hF hx).inv_p
        obtain ⟨rfl, hb⟩ := hw.obj _ _ _ _ hρ hg
        rw [he]
        have hb := getObj_run (P := E.P) hb rfl
        have hs : (⟨⟨bs⟩⟩ : ByteArray).size = bs.length := rfl
        split at h
        · rename_i hlt
          injection h with h; injection h with h1 h2; subst h1; subst h2
          have ho := (hw.obj _ _ _ _ hρ hg).2
          have st : Stp E lo ρ s w ρ (s.put id (.iter bs (pos + (Utf8.decode ⟨⟨bs⟩⟩ pos).2))) { w with heap := w.heap.setIfInBounds b (.stringIter ⟨⟨bs⟩⟩ (pos + (Utf8.decode ⟨⟨bs⟩⟩ pos).2)) } :=
            .obj hρ (by omega) ⟨_, hg, rfl⟩ hw ho rfl rfl (by simp) fun w' _ h1 _ => ⟨rfl, h1⟩
          refine ⟨_, _, .tuple #[.bool true, goInt pos, .int .i32 (Utf8.decode ⟨⟨bs⟩⟩ pos).1], ?_, .tu (.cons (.b _) (.cons (.i _ _) (.cons (.i _ _) .nil))), st⟩
          simp [Instr.next, hb, hs, hlt, setObj_run (P := E.P) ho (o' := .stringIter ⟨⟨bs⟩⟩ (pos + (Utf8.decode ⟨⟨bs⟩⟩ pos).2)) rfl]
        · rename_i hlt
          injection h with h; injection h with h1 h2; subst h1; subst h2
          exact .pure hw (v' := .tuple #[.bool false]) (by simp [Instr.next, hb, hs, hlt]) (.tu (.cons (.b _) .nil))
      · simp at h
  · simp at h

theorem o_extract (hw : WR E ρ s w) (hF : FRel ρ w fr a.tmps) {x : Operand} {i : Nat} (h : Ran c lo fr (.extract x i) s v s') :
    ValOk E lo ρ s w v s' (Instr.extract (a.eval x) i) := by
  simp only [Ran, opV] at h
  split at h
  · rename_i l hx
    simp only [Option.map_eq_some_iff] at h
    obtain ⟨r, hr, h⟩ := h
    injection h with h1 h2; subst h1; subst h2
    obtain ⟨cs, hr2, he⟩ := (evO_rel hF hx).inv_tu
    obtain ⟨v', h1, h2⟩ := hr2.get hr
    rw [Array.getElem?_toList] at h1
    exact .pure hw (by simp [Instr.extract, he, h1]) h2
  · simp at h

/-! ### Builtins -/

theorem o_lenStr (hw : WR E ρ s w) (hF : FRel ρ w fr a.tmps) {x : Operand} {t ty : TypeId} (hu : E.P.underlying t = some .string) (h : Ran c lo fr (.lenStr x) s v s') : ValOk E lo ρ s w v s' (Builtin.len_ #[t] ty #[a.eval x]) := by
  simp only [Ran, opV] at h
  split at h
  · rename_i bs hx
    injection h with h; injection h with h1 h2; subst h1; subst h2
    rw [(evO_rel hF hx).inv_s]
    have hs : (⟨⟨bs⟩⟩ : ByteArray).size = bs.length := rfl
    exact .pure hw (v' := goInt bs.length) (by simp [Builtin.len_, r_und hu, hs]) (.i _ _)
  · simp at h

theorem o_lenSl (hw : WR E ρ s w) (hF : FRel ρ w fr a.tmps) {x : Operand} {t e ty : TypeId} (hu : E.P.underlying t = some (.slice e)) (h : Ran c lo fr (.lenSl x) s v s') : ValOk E lo ρ s w v s' (Builtin.len_ #[t] ty #[a.eval x]) := by
  simp only [Ran, opV] at h
  split at h
  · rename_i hx
    injection h with h; injection h with h1 h2; subst h1; subst h2
    rw [(evO_rel hF hx).inv_sn]
    exact .pure hw (v' := goInt 0) (by simp [Builtin.len_, r_und hu]) (.i _ _)
  · rename_i hx
    injection h with h; injection h with h1 h2; subst h1; subst h2
    obtain ⟨b, sh, off', cap, hρ, c1, c2, c3, c4, c5, he⟩ := (evO_rel hF hx).inv_sl
    rw [he]
    exact .pure hw (v' := goInt _) (by simp [Builtin.len_, r_und hu]) (.i _ _)
  · simp at h

theorem o_lenC (hw : WR E ρ s w) {x : Operand} {t e ty : TypeId} {n : Nat} (hu : E.P.underlying t = some (.array n e)) (h : Ran c lo fr (.lenC n) s v s') : ValOk E lo ρ s w v s' (Builtin.len_ #[t] ty #[a.eval x]) := by
  simp only [Ran, opV] at h
  injection h with h; injection h with h1 h2; subst h1; subst h2
  exact .pure hw (v' := goInt n) (by simp [Builtin.len_, r_und hu]) (.i _ _)

theorem o_cap (hw : WR E ρ s w) (hF : FRel ρ w fr a.tmps) {x : Operand} {t e ty : TypeId} (hu : E.P.underlying t = some (.slice e)) (h : Ran c lo fr (.cap x) s v s') : ValOk E lo ρ s w v s' (Builtin.cap_ #[t] ty #[a.eval x]) := by
  simp only [Ran, opV] at h
  split at h
  · rename_i hx
    injection h with h; injection h with h1 h2; subst h1; subst h2
    rw [(evO_rel hF hx).inv_sn]
    exact .pure hw (v' := goInt 0) (by simp [Builtin.cap_, r_und hu]) (.i _ _)
  · rename_i hx
    injection h with h; injection h with h1 h2; subst h1; subst h2
    obtain ⟨b, sh, off', cap, hρ, c1, c2, c3, c4, c5, he⟩ := (evO_rel hF hx).inv_sl
    have := c3 rfl; subst this
    rw [he]
    exact .pure hw (v' := goInt _) (by simp [Builtin.cap_, r_und hu]) (.i _ _)
  · simp at h

theorem o_append (hw : WR E ρ s w) (hF : FRel ρ w fr a.tmps) (hu : Und ρ s s') (hlo : lo ≤ s.next) {t u e ty : TypeId} {d : TypeDesc} {z : V} {sz bytes : Nat} {x y : Operand}
    (ht : E.P.underlying t = some (.slice e)) (hd : E.P.underlying u = some d) (hz : zeroV E.P e = some z) (hn : sizeV E.P e = some sz) (hb : bytesV E.P e = some bytes) (hzl : z.cells.length = sz)
    (h : Ran c lo fr (.append (isIntD d) z.cells sz bytes x y) s v s') : ValOk E lo ρ s w v s' (Builtin.append_ #[t, u] ty #[a.eval x, a.eval y]) := by
  simp only [Ran, opV] at h
  split at h
  · rename_i av xv hx hy
    exact append_ok hw hu hlo ht hd hz hn hb hzl rfl (evO_rel hF hx) (evO_rel hF hy) h
  · simp at h

theorem o_copy (hw : WR E ρ s w) (hF : FRel ρ w fr a.tmps) {t u e ty : TypeId} {sz : Nat} {x y : Operand} (ht : E.P.underlying t = some (.slice e)) (hn : sizeV E.P e = some sz)
    (h : Ran c lo fr (.copy sz x y) s v s') : ValOk E lo ρ s w v s' (Builtin.copy_ #[t, u] ty #[a.eval x, a.eval y]) := by
  simp only [Ran, opV] at h
  split at h
  · rename_i dv xv hx hy
    split at h
    · rename_i dl xl h1 h2
      split at h
      · rename_i cs h3
        exact copy_ok hw ht hn (evO_rel hF hx) (evO_rel hF hy) h1 h2 h3 (by cases dv <;> exact h)
      · simp at h
    · simp at h
  · simp at h

theorem o_clear (hw : WR E ρ s w) (hF : FRel ρ w fr a.tmps) {t e ty : TypeId} {z : V} {x : Operand} (ht : E.P.underlying t = some (.slice e)) (hz : zeroV E.P e = some z)
    (h : Ran c lo fr (.clear z.cells x) s v s') : ValOk E lo ρ s w v s' (Builtin.clear_ #[t] ty #[a.eval x]) := by
  simp only [Ran, opV] at h
  cases hq : evO fr x with
  | none => simp [hq] at h
  | some q =>
    exact clear_ok hw ht hz (evO_rel hF hq) (v := v) (s' := s') (by
      rw [hq] at h
      cases q <;> first | exact h | simp at h)

theorem o_max (hw : WR E ρ s w) (hF : FRel ρ w fr a.tmps) {ty : TypeId} {ts : Array TypeId} {x : Operand} {l : List Operand} {args : Array Value} (ha : args.toList = (x :: l).map a.eval)
    (h : Ran c lo fr (.mnmx true x l) s v s') : ValOk E lo ρ s w v s' (Builtin.max_ ts ty args) := by
  simp only [Ran, opV] at h
  split at h
  · rename_i p vs hx hl
    simp only [Option.map_eq_some_iff] at h
    obtain ⟨r, hr, h⟩ := h
    injection h with h1 h2; subst h1; subst h2
    obtain ⟨v', h1, h2⟩ := mnmx_ok (E := E) (evO_rel hF hx) (evL_rel hF hl) hr
    exact .pure hw (by simpa [Builtin.max_, ha] using h1) h2
  · simp at h

theorem o_min (hw : WR E ρ s w) (hF : FRel ρ w fr a.tmps) {ty : TypeId} {ts : Array TypeId} {x : Operand} {l : List Operand} {args : Array Value} (ha : args.toList = (x :: l).map a.eval)
    (h : Ran c lo fr (.mnmx false x l) s v s') : ValOk E lo ρ s w v s' (Builtin.min_ ts ty args) := by
  simp only [Ran, opV] at h
  split at h
  · rename_i p vs hx hl
    simp only [Option.map_eq_some_iff] at h
    obtain ⟨r, hr, h⟩ := h
    injection h with h1 h2; subst h1; subst h2
    obtain ⟨v', h1, h2⟩ := mnmx_ok (E := E) (evO_rel hF hx) (evL_rel hF hl) hr
    exact .pure hw (by simpa [Builtin.min_, ha] using h1) h2
  · simp at h

theorem o_complex (hw : WR E ρ s w) (hF : FRel ρ w fr a.tmps) {ty : TypeId} {ts : Array TypeId} {x y : Operand}
    (h : Ran c lo fr (.complex x y) s v s') : ValOk E lo ρ s w v s' (Builtin.complex_ ts ty #[a.eval x, a.eval y]) := by
  simp only [Ran, opV] at h
  split at h
  · rename_i k p k' q hx hy
    split at h
    · rename_i e; subst e
      injection h with h; injection h with h1 h2; subst h1; subst h2
      rw [(evO_rel hF hx).inv_f, (evO_rel hF hy).inv_f]
      have e : Builtin.complex_ ts ty #[.float k p, .float k q] = if k = k then pure (.complex k p q) else stuck "complex: parts of different kinds" := rfl
      exact .pure hw (by rw [e, if_pos rfl]; rfl) (.c _ _ _)
    · simp at h
  · simp at h

theorem o_real (hw : WR E ρ s w) (hF : FRel ρ w fr a.tmps) {ty : TypeId} {ts : Array TypeId} {x : Operand}
    (h : Ran c lo fr (.real x) s v s') : ValOk E lo ρ s w v s' (Builtin.real_ ts ty #[a.eval x]) := by
  simp only [Ran, opV] at h
  split at h
  · rename_i hx
    injection h with h; injection h with h1 h2; subst h1; subst h2
    rw [(evO_rel hF hx).inv_c]
    exact .pure hw rfl (.f _ _)
  · simp at h

theorem o_imag (hw : WR E ρ s w) (hF : FRel ρ w fr a.tmps) {ty : TypeId} {ts : Array TypeId} {x : Operand}
    (h : Ran c lo fr (.imag x) s v s') : ValOk E lo ρ s w v s' (Builtin.imag_ ts ty #[a.eval x]) := by
  simp only [Ran, opV] at h
  split at h
  · rename_i hx
    injection h with h; injection h with h1 h2; subst h1; subst h2
    rw [(evO_rel hF hx).inv_c]
    exact .pure hw rfl (.f _ _)
  · simp at h

end
end VE

namespace VE
open Go

section
variable {E : Env} {lo : Nat} {ρ : Rho} {s s' : St} {w : World} {v : V} {fr : Fr} {a : Act} {c : Orc}

theorem not_die {Q : Prop} (h : Ran c lo fr .die s v s') : Q := by simp [Ran, opV] at h

theorem toList_one {α : Type} {l : Array α} {x : α} (h : l.toList = [x]) : l = #[x] := by
  apply Array.ext'; simpa using h

theorem toList_two {α : Type} {l : Array α} {x y : α} (h : l.toList = [x, y]) : l = #[x, y] := by
  apply Array.ext'; simpa using h

theorem op_builtin (hw : WR E ρ s w) (hF : FRel ρ w fr a.tmps) (hu : Und ρ s s') (hlo : lo ≤ s.next) {b : Builtin} {args : Array Operand} {ts : Array TypeId} {ty : TypeId} {cs : Array Bool} {op : VOp}
    (hop : (match b, args.toList, ts.toList with
      | .len, [x], [t] => match E.P.underlying t with
        | some .string => VOp.lenStr x
        | some (.slice _) => .lenSl x
        | some (.array n _) => .lenC n
        | _ => .die
      | .cap, [x], [t] => match E.P.underlying t with
        | some (.slice _) => .cap x
        | _ => .die
      | .append, [s, x], [t, u] => match E.P.underlying t, E.P.underlying u with
        | some (.slice e), some d => match zeroV E.P e, sizeV E.P e, bytesV E.P e with
          | some z, some n, some b => if z.cells.length = n then .append (isIntD d) z.cells n b s x else .die
          | _, _, _ => .die
        | _, _ => .die
      | .copy, [d, x], [t, _] => match E.P.underlying t with
        | some (.slice e) => match sizeV E.P e with
          | some n => .copy n d x
          | none => .die
        | _ => .die
      | .clear, [x], [t] => match E.P.underlying t with
        | some (.slice e) => match zeroV E.P e with
          | some z => .clear z.cells x
          | none => .die
        | _ => .die
      | .max, x :: l, _ => .mnmx true x l
      | .min, x :: l, _ => .mnmx false x l
      | .complex, [x, y], _ => .complex x y
      | .real, [x], _ => .real x
      | .imag, [x], _ => .imag x
      | _, _, _ => .die) = op) (h : Ran c lo fr op s v s') : OpOk E lo ρ s w v s' (builtin b ts ty cs (args.map a.eval)) := by
  split at hop
  · rename_i x t ha ht
    have ha := toList_one ha; have ht := toList_one ht; subst ha; subst ht
    simp only [List.map_toArray, List.map_cons, List.map_nil]
    split at hop <;> subst hop
    · exact (o_lenStr hw hF ‹_› h).op
    · exact (o_lenSl hw hF ‹_› h).op
    · exact (o_lenC (x := x) hw ‹_› h).op
    · exact not_die h
  · rename_i x t ha ht
    have ha := toList_one ha; have ht := toList_one ht; subst ha; subst ht
    simp only [List.map_toArray, List.map_cons, List.map_nil]
    split at hop <;> subst hop
    · exact (o_cap hw hF ‹_› h).op
    · exact not_die h
  · rename_i y x t u ha ht
    have ha := toList_two ha; have ht := toList_two ht; subst ha; subst ht
    simp only [List.map_toArray, List.map_cons, List.map_nil]
    split at hop
    · split at hop
      · split at hop <;> subst hop
        · exact (o_append hw hF hu hlo ‹_› ‹_› ‹_› ‹_› ‹_› ‹_› h).op
        · exact not_die h
      · subst hop; exact not_die h
    · subst hop; exact not_die h
  · rename_i y x t u ha ht
    have ha := toList_two ha; have ht := toList_two ht; subst ha; subst ht
    simp only [List.map_toArray, List.map_cons, List.map_nil]
    split at hop
    · split at hop <;> subst hop
      · exact (o_copy hw hF ‹_› ‹_› h).op
      · exact not_die h
    · subst hop; exact not_die h
  · rename_i x t ha ht
    have ha := toList_one ha; have ht := toList_one ht; subst ha; subst ht
    simp only [List.map_toArray, List.map_cons, List.map_nil]
    split at hop
    · split at hop <;> subst hop
      · exact (o_clear hw hF ‹_› ‹_› h).op
      · exact not_die h
    · subst hop; exact not_die h
  · rename_i x l ha
    subst hop
    exact (o_max hw hF (x := x) (l := l) (by simp [ha]) h).op
  · rename_i x l ha
    subst hop
    exact (o_min hw hF (x := x) (l := l) (by simp [ha]) h).op
  · rename_i x y ha
    have ha := toList_two ha; subst ha; subst hop
    simp only [List.map_toArray, List.map_cons, List.map_nil]
    exact (o_complex hw hF h).op
  · rename_i x ha
    have ha := toList_one ha; subst ha; subst hop
    simp only [List.map_toArray, List.map_cons, List.map_nil]
    exact (o_real hw hF h).op
  · rename_i x ha
    have ha := toList_one ha; subst ha; subst hop
    simp only [List.map_toArray, List.map_cons, List.map_nil]
    exact (o_imag hw hF h).op
  · subst hop; exact not_die h

theorem op_ok (hE : EnvOk E) (hw : WR E ρ s w) (hF : FRel ρ w fr a.tmps) (hu : Und ρ s s') (hlo : lo ≤ s.next) {o : Oper} {op : VOp} (hop : compOp E.P E.eqs E.keys o = op) (hnc : ∀ f l, op = .call f l → False)
    (h : Ran c lo fr op s v s') : OpOk E lo ρ s w v s' (execOp a.eval o) := by
  unfold compOp at hop
  split at hop
  · rename_i x e; subst hop; simp only [execOp, e]; exact o_mv hw hF h
  · rename_i x e; subst hop; simp only [execOp, e]; exact o_mv hw hF h
  · rename_i x y z e; subst hop; simp only [execOp, e]; exact o_pick hw hF h
  · rename_i t e
    simp only [execOp, e]
    split at hop <;> subst hop
    · exact (o_alloc hw hu hlo ‹_› h).op
    · exact not_die h
  · rename_i t x e; subst hop; simp only [execOp, e]; exact (o_box hw hF hu hlo h).op
  · rename_i t parts e
    simp only [execOp, e]
    split at hop
    · split at hop
      · split at hop
        · subst hop; exact (o_build_struct hw hF ‹_› ‹_› ‹_› ‹_› h).op
        · subst hop; exact not_die h
      · subst hop; exact not_die h
    · split at hop
      · subst hop; exact (o_build_array hw hF ‹_› ‹_› ‹_› h).op
      · subst hop; exact not_die h
    · subst hop; exact not_die h
  · rename_i t len parts e
    simp only [execOp, e]
    split at hop
    · split at hop
      · dsimp only at hop
        split at hop
        · rename_i hc
          subst hop; exact (o_bslice hw hF hu hlo ‹_› ‹_› ‹_› hc.2 hc.1 h).op
        · subst hop; exact not_die h
      · subst hop; exact not_die h
    · subst hop; exact not_die h
  · rename_i t x e
    simp only [execOp, e]
    split at hop <;> subst hop
    · exact (o_load hw hF ‹_› h).op
    · exact not_die h
  · rename_i t x y e
    simp only [execOp, e]
    split at hop <;> subst hop
    · exact o_store hw hF ‹_› h
    · exact not_die h
  · rename_i x e; subst hop; exact o_nilCheck hw hF e h
  · rename_i bop t x y yt e
    simp only [execOp, e]
    split at hop
    · rename_i d hd
      split at hop
      · subst hop; exact (o_bin hw hF h).op
      · rename_i hpl
        have fin : ∀ neg : Bool, ((bop = .eql ∧ neg = false) ∨ (bop = .neq ∧ neg = true)) → (match d with
          | .bool => VOp.eqB neg x y
          | .struct _ | .array _ _ => match E.eqs.lookup t with
            | some ks => .eqAg neg ks x y
            | none => .die
          | _ => match nilK d with
            | some k => if nilConst k y then .isNil k neg x else if nilConst k x then .isNil k neg y else .die
            | none => .die) = op → ValOk E lo ρ s w v s' (do eqGuard bop t x y (a.eval x) (a.eval y); binOp bop t (a.eval x) (a.eval y)) := by
          intro neg hn hop
          have nk : (match nilK d with
            | some k => if nilConst k y then VOp.isNil k neg x else if nilConst k x then .isNil k neg y else .die
            | none => .die) = op → ValOk E lo ρ s w v s' (do eqGuard bop t x y (a.eval x) (a.eval y); binOp bop t (a.eval x) (a.eval y)) := by
            intro hop
            split at hop
            · rename_i k hk
              split at hop
              · rename_i hc; subst hop; exact o_isNil hw hF hd hk hn (.inl ⟨hc, rfl⟩) h
              · split at hop
                · rename_i hc; subst hop; exact o_isNil hw hF hd hk hn (.inr ⟨hc, rfl⟩) h
                · subst hop; exact not_die h
            · subst hop; exact not_die h
          split at hop
          · subst hop; exact o_eqB hw hF (by assumption) hn h
          · split at hop
            · subst hop; exact o_eqAg hE hw hF (by assumption) rfl ‹_› hn h
            · subst hop; exact not_die h
          · split at hop
            · subst hop; exact o_eqAg hE hw hF (by assumption) rfl ‹_› hn h
            · subst hop; exact not_die h
          · exact nk hop
        split at hop
        · exact (fin false (.inl ⟨rfl, rfl⟩) (by cases d <;> exact hop)).op
        · exact (fin true (.inr ⟨rfl, rfl⟩) (by cases d <;> exact hop)).op
        · subst hop; exact not_die h
    · subst hop; exact not_die h
  · rename_i uop t x e; subst hop; simp only [execOp, e]; exact (o_un hw hF h).op
  · rename_i t u x e
    simp only [execOp, e]
    split at hop
    · subst hop; exact (o_toInt hw hF ‹_› ‹_› h).op
    · subst hop; exact (o_toInt hw hF ‹_› ‹_› h).op
    · subst hop; exact (o_toFloat hw hF ‹_› ‹_› h).op
    · subst hop; exact (o_toFloat hw hF ‹_› ‹_› h).op
    · subst hop; exact (o_toStr hw hF ‹_› ‹_› h).op
    · subst hop; exact (o_toStr hw hF ‹_› ‹_› h).op
    · split at hop
      · subst hop; exact (o_bytesStr hw hF ‹_› ‹_› ‹_› h).op
      · subst hop; exact (o_runesStr hw hF ‹_› ‹_› ‹_› h).op
      · subst hop; exact not_die h
    · subst hop; exact not_die h
  · rename_i t x e
    simp only [execOp, e]
    split at hop
    · subst hop; exact not_die h
    · rename_i d hn hd
      subst hop; exact (o_mkIface hw hF hd (fun ⟨m, hm⟩ => by subst hm; first | exact hn _ rfl | exact hn _ hd) h).op
    · subst hop; exact not_die h
  · rename_i f l m e; subst hop; simp only [execOp, e]; exact (o_mkFunc hw hF h).op
  · rename_i t e; subst hop; simp only [execOp, e]; exact (o_mkMap hw hu hlo h).op
  · rename_i t l m e
    simp only [execOp, e]
    split at hop
    · split at hop
      · split at hop
        · subst hop; exact (o_mkSlice hw hF hu hlo ‹_› ‹_› ‹_› ‹_› ‹_› h).op
        · subst hop; exact not_die h
      · subst hop; exact not_die h
    · subst hop; exact not_die h
  · rename_i t x l hh m e
    simp only [execOp, e]
    split at hop
    · split at hop
      · subst hop; exact (o_slArr hw hF ‹_› ‹_› h).op
      · subst hop; exact not_die h
    · split at hop
      · rename_i hm
        cases m with
        | none => subst hop; exact (o_slStr hw hF ‹_› h).op
        | some _ => simp at hm
      · subst hop; exact not_die h
    · split at hop
      · subst hop; exact (o_slSl hw hF ‹_› ‹_› h).op
      · subst hop; exact not_die h
    · subst hop; exact not_die h
  · rename_i t x i e
    simp only [execOp, e]
    split at hop
    · split at hop
      · split at hop
        · subst hop; exact (o_fieldAddr hw hF ‹_› ‹_› ‹_› h).op
        · subst hop; exact not_die h
      · subst hop; exact not_die h
    · subst hop; exact not_die h
  · rename_i t x i e
    simp only [execOp, e]
    split at hop
    · split at hop
      · split at hop
        · subst hop; exact (o_field hw hF ‹_› ‹_› ‹_› h).op
        · subst hop; exact not_die h
      · subst hop; exact not_die h
    · subst hop; exact not_die h
  · rename_i t x i e
    simp only [execOp, e]
    split at hop
    · split at hop
      · subst hop; exact (o_idxArr hw hF ‹_› ‹_› h).op
      · subst hop; exact not_die h
    · split at hop
      · subst hop; exact (o_idxSl hw hF ‹_› ‹_› h).op
      · subst hop; exact not_die h
    · subst hop; exact not_die h
  · rename_i t x i e
    simp only [execOp, e]
    split at hop
    · split at hop
      · subst hop; exact (o_idxAg hw hF ‹_› ‹_› ‹_› h).op
      · subst hop; exact not_die h
    · subst hop; exact (o_idxStr hw hF ‹_› h).op
    · subst hop; exact not_die h
  · rename_i t m k ok e
    simp only [execOp, e]
    split at hop
    · split at hop
      · subst hop; exact (o_lookup hE hw hF ‹_› ‹_› ‹_› ‹_› h).op
      · subst hop; exact not_die h
    · subst hop; exact not_die h
  · rename_i t m k x e
    simp only [execOp, e]
    split at hop
    · split at hop
      · subst hop; exact o_mapSet hE hw hF ‹_› ‹_› ‹_› h
      · subst hop; exact not_die h
    · subst hop; exact not_die h
  · rename_i t m k x e
    simp only [execOp, e]
    split at hop
    · split at hop
      · subst hop; exact o_mapSet hE hw hF ‹_› ‹_› ‹_› h
      · subst hop; exact not_die h
    · subst hop; exact not_die h
  · rename_i t x e
    simp only [execOp, e]
    split at hop
    · subst hop; exact (o_range hw hF hu hlo ‹_› h).op
    · subst hop; exact not_die h
  · rename_i x e; subst hop; simp only [execOp, e]; exact (o_next hw hF h).op
  · rename_i x i e; subst hop; simp only [execOp, e]; exact (o_extract hw hF h).op
  · rename_i cc e
    split at hop
    · exact (hnc _ _ hop.symm).elim
    · subst hop; exact not_die h
    · rename_i b hc
      simp only [execOp, e, resolve, hc, pure_bind, invoke]
      exact op_builtin hw hF hu hlo hop h
  · subst hop; exact not_die h

end
end VE

