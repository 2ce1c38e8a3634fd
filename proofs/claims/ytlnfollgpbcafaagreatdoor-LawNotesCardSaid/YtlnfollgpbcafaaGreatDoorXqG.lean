import Derived.Test.YtlnfollgpbcafaaGreatDoorXqF
set_option autoImplicit false
set_option linter.unusedVariables false
/-! The operations, one by one. -/
namespace Go.Proofs.YtlnfollgpbcafaaGreatDoor.Xq
open Go

section
variable {P : Program} {E : Env} {s : St} {w : World} {R : Type} {A : Ans R} {Pr : R → Prop} {k : KV R}

/-! ### types -/
theorem tk_string {t : Nat} (h : tk P t = .string) : P.underlying t = some .string := by
  unfold tk at h; split at h <;> first | assumption | (split at h <;> cases h) | cases h
theorem tk_int {t : Nat} {k : IntKind} (h : tk P t = .int k) : P.underlying t = some (.int k) := by
  unfold tk at h; split at h <;> first | (cases h; assumption) | (split at h <;> cases h) | cases h
theorem tk_bool {t : Nat} (h : tk P t = .bool) : P.underlying t = some .bool := by
  unfold tk at h; split at h <;> first | assumption | (split at h <;> cases h) | cases h
theorem tk_func {t : Nat} (h : tk P t = .func) : ∃ p r v, P.underlying t = some (.func p r v) := by
  unfold tk at h; split at h <;> first | exact ⟨_, _, _, by assumption⟩ | (split at h <;> cases h) | cases h
theorem tk_iface {t : Nat} (h : tk P t = .iface) : ∃ m, P.underlying t = some (.interface m) := by
  unfold tk at h; split at h <;> first | exact ⟨_, by assumption⟩ | (split at h <;> cases h) | cases h
theorem tk_pointer {t : Nat} (h : tk P t = .pointer) : ∃ e, P.underlying t = some (.pointer e) := by
  unfold tk at h; split at h <;> first | exact ⟨_, by assumption⟩ | (split at h <;> cases h) | cases h
theorem tk_slice {t : Nat} (h : tk P t = .slice) : ∃ e, P.underlying t = some (.slice e) := by
  unfold tk at h; split at h <;> first | exact ⟨_, by assumption⟩ | (split at h <;> cases h) | cases h
theorem tk_array {t : Nat} (h : tk P t = .array) : ∃ n e, P.underlying t = some (.array n e) := by
  unfold tk at h; split at h <;> first | exact ⟨_, _, by assumption⟩ | (split at h <;> cases h) | cases h
theorem tk_map {t : Nat} {str : Bool} {e : Nat} (h : tk P t = .map str e) : ∃ kt, P.underlying t = some (.map kt e) ∧
    (if str = true then P.underlying kt = some .string else ∃ kd, P.underlying kt = some (.int kd)) := by
  unfold tk at h
  split at h <;> try (cases h; done)
  rename_i kt e' hu
  split at h
  · rename_i hk; cases h; exact ⟨kt, hu, by simpa using hk⟩
  · rename_i kd hk; cases h; exact ⟨kt, hu, by simpa using ⟨kd, hk⟩⟩
  · cases h
theorem sliceElem_some {t e : Nat} (h : sliceElem P t = some e) : P.underlying t = some (.slice e) := by
  unfold sliceElem at h; split at h <;> first | (cases h; assumption) | cases h
theorem arrOf_some {t n e : Nat} (h : arrOf P t = some (n, e)) : P.underlying t = some (.array n e) := by
  unfold arrOf at h; split at h <;> first | (cases h; assumption) | cases h
theorem fieldOf_some {t i : Nat} {f : Nat × Nat} (h : fieldOf P t i = some f) : ∃ fs fd, P.underlying t = some (.struct fs) ∧ fs[i]? = some fd ∧ fd.type = f.1 ∧ fd.offset = f.2 := by
  unfold fieldOf at h
  split at h
  · rename_i fs hu
    split at h
    · rename_i fd hfd; cases h; exact ⟨fs, fd, hu, hfd, rfl, rfl⟩
    · cases h
  · cases h
theorem zeroOf_some {t : Nat} {v : AV} (h : zeroOf P t = some v) (E : Env) (w : World) : ∃ x, (zeroValue t).run P w = .ok x w ∧ VR E v x := by
  unfold zeroOf at h
  split at h
  · rename_i i hi
    split at h
    · rename_i x hx
      cases h
      exact ⟨x, by simp [zeroValue, typeInfo, hi, hx], VR.ofValue E x⟩
    · cases h
  · cases h
theorem zeroCells_some {t : Nat} {z : List AV} (h : zeroCells P t = some z) (E : Env) (w : World) : ∃ x, (zeroValue t).run P w = .ok x w ∧ VRL E z x.cells.toList := by
  unfold zeroCells at h
  split at h
  · rename_i v hv
    obtain ⟨x, hx, hvx⟩ := zeroOf_some hv E w
    exact ⟨x, hx, hvx.cells h⟩
  · cases h

/-! ### new blocks -/
theorem newVar_run (t : Nat) (x : Value) (w : World) : (newVar t x).run P w = .ok ⟨w.heap.size, 0, none⟩ (w.alloc (.cells x.cells t)) := by
  simp [newVar, newRow]
theorem alloc_ok (hA : Lawful A Pr) (hR : Rel P E s w) {t : Nat} (h : Pr (oAlloc t P (fun _ A _ _ _ _ => A.fail "") R A .leaf s k)) :
    Good P E s w ((Instr.alloc t true (.tuple #[])).run P w) fun v s' => Pr (k v s') := by
  unfold oAlloc at h
  split at h
  · rename_i z hz
    obtain ⟨x, hx, hl⟩ := zeroCells_some hz E w
    obtain ⟨E', hR', hS, he, hk⟩ := newA_ok (t := t) hR hl h
    exact ⟨.ptr s.next 0, _, E', .pointer (some ⟨w.heap.size, 0, none⟩), _, by simp [Instr.alloc, hx, newVar_run], ⟨_, _, he, rfl⟩, hR', hS, hk⟩
  · exact (hA.fail _ h).elim
theorem box_ok (hA : Lawful A Pr) (hR : Rel P E s w) {t : Nat} {v : AV} {x : Value} (hv : VR E v x)
    (h : Pr (match (generalizing := false) cellsOf v with | some vs => newA s vs t true fun b s => k (.ptr b 0) s | none => A.fail "box")) :
    Good P E s w ((Instr.box t x).run P w) fun v s' => Pr (k v s') := by
  split at h
  · rename_i vs hvs
    obtain ⟨E', hR', hS, he, hk⟩ := newA_ok (t := t) hR (hv.cells hvs) h
    exact ⟨.ptr s.next 0, _, E', .pointer (some ⟨w.heap.size, 0, none⟩), _, by simp [Instr.box, newVar_run], ⟨_, _, he, rfl⟩, hR', hS, hk⟩
  · exact (hA.fail _ h).elim

/-! ### literals -/
theorem fold_put (off : Nat) : ∀ (us : List Value) (k : Nat) (cs : Array Value), off + k + us.length ≤ cs.size →
    ((us.zipIdx k).foldl (fun (cs : Array Value) (p : Value × Nat) => cs.setIfInBounds (off + p.2) p.1) cs).toList = cs.toList.take (off + k) ++ us ++ cs.toList.drop (off + k + us.length)
  | [], k, cs, _ => by simp
  | u :: us, k, cs, h => by
    simp only [List.length_cons] at h
    rw [List.zipIdx_cons, List.foldl_cons, fold_put off us (k + 1) _ (by simp; omega)]
    simp only [Array.toList_setIfInBounds, List.length_cons]
    have hlt : off + k < cs.toList.length := by simp; omega
    rw [show off + (k + 1) = off + k + 1 by omega, List.take_succ_eq_append_getElem (by simpa using hlt), List.getElem_set_self, List.take_set_of_le (Nat.le_refl _),
      List.drop_set_of_lt (by omega)]
    simp [Nat.add_assoc, Nat.add_comm 1]
inductive PR (E : Env) : List (Nat × AV) → List (Nat × Value) → Prop
  | nil : PR E [] []
  | cons {i : Nat} {v : AV} {x : Value} {l : List (Nat × AV)} {m : List (Nat × Value)} : VR E v x → PR E l m → PR E ((i, v) :: l) ((i, x) :: m)
theorem PR.map (E : Env) (f : Operand → AV) (g : Operand → Value) (l : List (Nat × Operand)) (h : ∀ x, VR E (f x) (g x)) : PR E (l.map fun p => (p.1, f p.2)) (l.map fun p => (p.1, g p.2)) := by
  induction l with
  | nil => exact .nil
  | cons p l ih => exact .cons (h _) ih
theorem fill_ok {place : Nat → Option (Nat × Nat)} {placeA : Nat → Option (Nat × Nat)} (hp : ∀ i, placeA i = place i) {ps : List (Nat × AV)} {qs : List (Nat × Value)} (h : PR E ps qs) :
    ∀ {z c : List AV} {zs : Array Value}, VRL E z zs.toList → fillA placeA ps z = some c → ∃ cs, Instr.fill place zs qs = some cs ∧ VRL E c cs.toList := by
  induction h with
  | nil => intro z c zs hz hc; cases hc; exact ⟨zs, rfl, hz⟩
  | cons hv _ ih =>
    rename_i i v x l m _
    intro z c zs hz hc
    have hc' : (match placeA i with
      | none => none
      | some q => match cellsOf v with
        | none => none
        | some vs => match Nat.beq (lenL vs) q.2 with
          | true => match Nat.ble (q.1 + lenL vs) (lenL z) with
            | true => fillA placeA l (putL vs z q.1)
            | false => none
          | false => none) = some c := hc
    split at hc'
    · cases hc'
    · rename_i q hq
      split at hc'
      · cases hc'
      · rename_i vs hvs
        split at hc'
        · rename_i hl
          split at hc'
          · rename_i hle
            rw [lenL_eq] at hl
            rw [lenL_eq, lenL_eq] at hle
            have hl := Nat.eq_of_beq_eq_true hl
            have hle := ble_iff.1 hle
            have hx := hv.cells hvs
            have hxl := hx.length
            have hzl := hz.length
            have hput : VRL E (putL vs z q.1) (x.cells.zipIdx.foldl (fun cs (p : Value × Nat) => cs.setIfInBounds (q.1 + p.2) p.1) zs).toList := by
              rw [← Array.foldl_toList, Array.toList_zipIdx, fold_put q.1 x.cells.toList 0 zs (by simp at hxl hzl ⊢; omega), putL_eq vs z q.1 (by omega)]
              rw [Nat.add_zero, ← hxl]
              exact ((hz.take _).app hx).app (hz.drop _)
            obtain ⟨cs, h1, h2⟩ := ih hput hc'
            refine ⟨cs, ?_, h2⟩
            rw [Instr.fill]
            rw [← hp i, hq]
            have c1 : x.cells.size = q.2 := by simp at hxl; omega
            have c2 : ¬ (q.1 + x.cells.size > zs.size) := by simp at hxl hzl; omega
            simp only [c1, ne_eq, not_true_eq_false, decide_false, Bool.false_or]
            rw [c1] at c2
            simp only [c2, decide_false, if_false, Bool.false_eq_true]
            exact h1
          · cases hc'
        · cases hc'
theorem places_run : ∀ (l : List Field) (pl : List (Nat × Nat)) (w : World),
    lrec (some []) (fun f _ ih => match szOf P f.type with
      | some n => (match ih with | some l => some ((f.offset, n) :: l) | none => none)
      | none => none) l = some pl →
    (l.mapM fun (f : Field) => (do pure (f.offset, ← sizeOf f.type) : Sem (Nat × Nat))).run P w = .ok pl w
  | [], pl, w, h => by cases h; simp
  | f :: l, pl, w, h => by
    have h' : (match szOf P f.type with
      | some n => (match lrec (some []) (fun (f : Field) _ ih => match szOf P f.type with
        | some n => (match ih with | some l => some ((f.offset, n) :: l) | none => none)
        | none => none) l with | some l => some ((f.offset, n) :: l) | none => none)
      | none => none) = some pl := h
    split at h'
    · rename_i n hn
      split at h'
      · rename_i pl' hpl
        cases h'
        have ih := places_run l pl' w hpl
        rw [List.mapM_cons]
        simp only [Sem.run_bind, szOf_run hn, Result.andThen_ok, Sem.run_pure]
        rw [ih]
        rfl
      · cases h'
    · cases h'
theorem build_ok (hA : Lawful A Pr) (hR : Rel P E s w) {t : Nat} {ps : List (Nat × AV)} {qs : Array (Nat × Value)} (hp : PR E ps qs.toList) (h : Pr (buildA P A t s ps k)) :
    Good P E s w ((Instr.build t qs).run P w) fun v s' => Pr (k v s') := by
  unfold buildA at h
  split at h
  · rename_i z hz
    obtain ⟨x, hx, hl⟩ := zeroCells_some hz E w
    split at h
    · rename_i n e harr
      have hu := arrOf_some harr
      split at h
      · rename_i m hm
        split at h
        · rename_i c hc
          obtain ⟨cs, h1, h2⟩ := fill_ok (place := fun i => some (i * m, m)) (fun _ => rfl) hp hl hc
          have hg : Good P E s w (.ok (.agg cs) w) fun v s' => Pr (k v s') := Good.pure hR (show VR E (.agg c) (.agg cs) from ⟨cs, rfl, h2⟩) h
          have : (Instr.build t qs).run P w = .ok (.agg cs) w := by
            simp [Instr.build, hx, run_underlying hu, szOf_run hm, h1]
          rw [this]; exact hg
        · exact (hA.fail _ h).elim
      · exact (hA.fail _ h).elim
    · split at h
      · rename_i pl hpl
        split at h
        · rename_i c hc
          unfold placesOf at hpl
          split at hpl
          · rename_i fs hu
            obtain ⟨cs, h1, h2⟩ := fill_ok (place := fun i => pl.toArray[i]?) (fun i => by rw [nth_eq]; simp) hp hl hc
            have hm := places_run fs.toList pl w hpl
            have hmap : (fs.mapM fun (f : Field) => (do pure (f.offset, ← sizeOf f.type) : Sem (Nat × Nat))).run P w = .ok pl.toArray w := by
              rw [Array.mapM_eq_mapM_toList, Sem.run_map, hm]; rfl
            have : (Instr.build t qs).run P w = .ok (.agg cs) w := by
              simp only [Instr.build, Sem.run_bind, hx, Result.andThen_ok, run_underlying hu]
              rw [hmap]
              simp only [Result.andThen_ok, h1, Sem.run_pure]
            rw [this]
            exact Good.pure hR (show VR E (.agg c) (.agg cs) from ⟨cs, rfl, h2⟩) h
          · cases hpl
        · exact (hA.fail _ h).elim
      · exact (hA.fail _ h).elim
  · exact (hA.fail _ h).elim
theorem range_rep (z : Array Value) (m : Nat) (hz : z.size = m) : ∀ n, ((Array.range (n * m)).map (z[· % z.size]!)).toList = (List.replicate n z.toList).flatten := by
  intro n
  rw [Array.toList_map, Array.toList_range]
  induction n with
  | zero => simp
  | succ n ih =>
    rw [Nat.succ_mul, List.range_add, List.map_append, ih, List.replicate_succ', List.flatten_append]
    congr 1
    rw [List.map_map]
    simp only [List.flatten_cons, List.flatten_nil, List.append_nil]
    apply List.ext_getElem?
    intro j
    by_cases hj : j < m
    · have hjz : j < z.size := by omega
      have e : (n * m + j) % z.size = j := by rw [hz, Nat.mul_comm, Nat.mul_add_mod]; exact Nat.mod_eq_of_lt (by omega)
      simp [hj, e, hjz]
    · have hjz : ¬ j < z.size := by omega
      simp [hj, hjz]
theorem zeros_run {e m : Nat} {z : List AV} {x : Value} (hx : (zeroValue e).run P w = .ok x w) (hl : VRL E z x.cells.toList) (hz : z.length = m) (n : Nat) :
    ((if n * m = 0 then pure #[] else do pure (← zeroValue e).cells : Sem (Array Value))).run P w = .ok (if n * m = 0 then #[] else x.cells) w ∧
    VRL E (repL z n) ((Array.range (n * m)).map ((if n * m = 0 then #[] else x.cells : Array Value)[· % (if n * m = 0 then #[] else x.cells : Array Value).size]!)).toList := by
  have hxl := hl.length
  by_cases h0 : n * m = 0
  · simp only [h0, if_true]
    refine ⟨rfl, ?_⟩
    have : repL z n = [] := by
      apply List.length_eq_zero_iff.1
      rw [repL_length, hz]; exact h0
    rw [this]
    simp [VRL]
  · simp only [h0, if_false]
    refine ⟨by simp [hx], ?_⟩
    rw [range_rep x.cells m (by simp at hxl; omega) n]
    exact hl.rep n
theorem buildSlice_ok (hA : Lawful A Pr) (hR : Rel P E s w) {t n : Nat} {ps : List (Nat × AV)} {qs : Array (Nat × Value)} (hp : PR E ps qs.toList) (h : Pr (buildSliceA P A t n s ps k)) :
    Good P E s w ((Instr.buildSlice t n qs).run P w) fun v s' => Pr (k v s') := by
  unfold buildSliceA at h
  split at h
  · rename_i e he
    have hu := sliceElem_some he
    split at h
    · rename_i z hz
      obtain ⟨x, hx, hl⟩ := zeroCells_some hz E w
      split at h
      · rename_i m hm
        split at h
        · rename_i hzl
          rw [lenL_eq] at hzl
          have hzl := Nat.eq_of_beq_eq_true hzl
          split at h
          · rename_i hle
            have hle := ble_iff.1 hle
            split at h
            · rename_i c hc
              obtain ⟨z1, z2⟩ := zeros_run hx hl hzl n
              obtain ⟨cs, h1, h2⟩ := fill_ok (place := fun i => some (i * m, m)) (fun _ => rfl) hp z2 hc
              obtain ⟨E', hR', hS, he', hk⟩ := newA_ok (t := e) hR h2 h
              refine ⟨.slice s.next 0 n n, _, E', .slice (some ⟨w.heap.size, 0, none⟩) n n, _, ?_, ⟨_, _, he', rfl⟩, hR', hS, hk⟩
              simp only [Instr.buildSlice, Sem.run_bind, run_underlying hu, Result.andThen_ok, szOf_run hm]
              rw [if_neg (by omega)]
              by_cases h0 : n * m = 0
              · rw [if_pos h0] at h1 ⊢
                simp only [Sem.run_bind, Sem.run_pure, Result.andThen_ok, h1]
                simp [newRow]
              · rw [if_neg h0] at h1 ⊢
                simp only [Sem.run_bind, Sem.run_pure, Result.andThen_ok, hx, h1]
                simp [newRow]
            · exact (hA.fail _ h).elim
          · exact (hA.fail _ h).elim
        · exact (hA.fail _ h).elim
      · exact (hA.fail _ h).elim
    · exact (hA.fail _ h).elim
  · exact (hA.fail _ h).elim
end
end Go.Proofs.YtlnfollgpbcafaaGreatDoor.Xq
