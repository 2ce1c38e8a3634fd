import Derived.Test.YtlnfollgpbcafaaGreatDoorXqM
set_option autoImplicit false
set_option linter.unusedVariables false
/-! One operation. -/
namespace Go.Proofs.YtlnfollgpbcafaaGreatDoor.Xq
open Go

section
variable {P : Program} {E : Env} {s : St} {w : World} {R : Type} {A : Ans R} {Pr : R → Prop} {k : KV R}

theorem makeSlice_ok (hA : Lawful A Pr) (hR : Rel P E s w) {t : Nat} {l c : AV} {vl vc : Value} (hl : VR E l vl) (hc : VR E c vc) (h : Pr (makeSliceA P A t l c s k)) :
    Good P E s w ((Instr.makeSlice t vl vc).run P w) fun v s' => Pr (k v s') := by
  unfold makeSliceA at h
  split at h
  · rename_i e he
    have hu := sliceElem_some he
    split at h
    · rename_i z hz
      obtain ⟨x, hx, hzl⟩ := zeroCells_some hz E w
      split at h
      · rename_i m hm
        split at h
        · exact (hA.fail _ h).elim
        · rename_i hzm
          rw [lenL_eq] at hzm
          have hzm := Nat.eq_of_beq_eq_true hzm
          split at h
          · rename_i by_ hby
            obtain ⟨kd1, n, s1, rfl, r1, hR1, h1⟩ := getN_good hA hR hl h
            obtain ⟨kd2, cc, s2, rfl, r2, hR2, h2⟩ := getN_good hA hR1 hc h1
            split at h2
            · exact (hA.fail _ h2).elim
            · rename_i hle
              have hle := ble_iff.1 hle
              split at h2
              · exact (hA.fail _ h2).elim
              · rename_i hbytes
                have hbytes := ble_iff.1 hbytes
                split at h2
                · exact (hA.fail _ h2).elim
                · rename_i hmil
                  have hmil := ble_iff.1 hmil
                  obtain ⟨i, hi, rfl⟩ : ∃ i, P.info? e = some i ∧ i.bytes = by_ := by
                    unfold bytesOf at hby
                    cases hi : P.info? e with
                    | none => rw [hi] at hby; cases hby
                    | some i => rw [hi] at hby; exact ⟨i, rfl, by simpa using hby⟩
                  obtain ⟨z1, z2⟩ := zeros_run hx hzl hzm cc
                  obtain ⟨E', hR', hS, he', hk⟩ := newA_ok (t := e) hR2 z2 h2
                  have w1 : IntKind.i64.wrap ((n : Nat) : Int) = (n : Int) := by
                    exact wrap_in (by simp [IntKind.min, IntKind.signed, IntKind.bits] <;> omega) (by simp [IntKind.max, IntKind.signed, IntKind.bits]; omega)
                  have w2 : IntKind.i64.wrap ((cc : Nat) : Int) = (cc : Int) := by
                    exact wrap_in (by simp [IntKind.min, IntKind.signed, IntKind.bits] <;> omega) (by simp [IntKind.max, IntKind.signed, IntKind.bits]; omega)
                  refine Good.refn (r1.trans r2) ⟨.slice s2.next 0 n cc, _, E', .slice (some ⟨w.heap.size, 0, none⟩) n cc, _, ?_, ⟨_, _, he', rfl⟩, hR', hS, hk⟩
                  have b1 : ¬ ((i.bytes : Int) * (cc : Int) > 281474976710656) := by
                    rw [← Int.natCast_mul]; omega
                  have b2 : ¬ ((n : Int) < 0) := by omega
                  have b3 : ¬ ((n : Int) > (cc : Int)) := by omega
                  have b4 : ¬ ((cc : Int) < 0) := by omega
                  by_cases h0 : cc * m = 0
                  · rw [if_pos h0] at z1
                    simp [Instr.makeSlice, run_underlying hu, asInt, asIntOf, typeInfo, hi, w1, w2, b1, b2, b3, b4, szOf_run hm, h0, newRow]
                  · rw [if_neg h0] at z1
                    simp [Instr.makeSlice, run_underlying hu, asInt, asIntOf, typeInfo, hi, w1, w2, b1, b2, b3, b4, szOf_run hm, h0, hx, newRow]
          · exact (hA.fail _ h).elim
      · exact (hA.fail _ h).elim
    · exact (hA.fail _ h).elim
  · exact (hA.fail _ h).elim

/-! ### one operation -/
/-- what an operation comes to -/
def StepRes (P : Program) (E : Env) (s : St) (w : World) (rn : Result Next) (K : AV → St → Prop) : Prop :=
  (∃ v s' E' x w', (rn = .ok (.value x) w' ∨ (rn = .ok .skip w' ∧ x = undef)) ∧ VR E' v x ∧ Rel P E' s' w' ∧ Step E s w E' s' w' ∧ K v s') ∨
  (∃ f args, rn = .ok (.enter f args) w ∧ Calls P f args w fun e w' => ∃ v s' E' x, e = .returned x ∧ VR E' v x ∧ Rel P E' s' w' ∧ Step E s w E' s' w' ∧ K v s')
theorem StepRes.wp {o : Oper} {a : Act} {next : Act → World → Prop} {Q : Exit → Act → World → Prop} {K : AV → St → Prop} (h : StepRes P E s w ((execOp a.eval o).run P w) K)
    (hn : ∀ v s' E' x w', VR E' v x → Rel P E' s' w' → Step E s w E' s' w' → K v s' → next (a.put o.dst x) w') : o.wp P a w next Q := by
  unfold Oper.wp
  rcases h with ⟨v, s', E', x, w', h1, h2, h3, h4, h5⟩ | ⟨f, args, h1, h2⟩
  · rcases h1 with h1 | ⟨h1, rfl⟩
    · rw [h1]; exact hn v s' E' x w' h2 h3 h4 h5
    · rw [h1]; exact hn v s' E' _ w' h2 h3 h4 h5
  · rw [h1]
    exact Calls.mono h2 fun e w' ⟨v, s', E', x, he, g1, g2, g3, g4⟩ => by subst he; exact hn v s' E' x w' g1 g2 g3 g4
theorem StepRes.ex {rn : Result Next} {K : AV → St → Prop} (h : StepRes P E s w rn K) : ∃ v s' E' x w', VR E' v x ∧ Rel P E' s' w' ∧ Step E s w E' s' w' ∧ K v s' := by
  rcases h with ⟨v, s', E', x, w', h1, h2, h3, h4, h5⟩ | ⟨f, args, h1, h2⟩
  · exact ⟨v, s', E', x, w', h2, h3, h4, h5⟩
  · obtain ⟨e, w', fr, ⟨v, s', E', x, _, g1, g2, g3, g4⟩, _⟩ := h2 []
    exact ⟨v, s', E', x, w', g1, g2, g3, g4⟩
theorem StepRes.mono {rn : Result Next} {K K' : AV → St → Prop} (h : StepRes P E s w rn K) (hk : ∀ v s', K v s' → K' v s') : StepRes P E s w rn K' := by
  rcases h with ⟨v, s', E', x, w', h1, h2, h3, h4, h5⟩ | ⟨f, args, h1, h2⟩
  · exact .inl ⟨v, s', E', x, w', h1, h2, h3, h4, hk _ _ h5⟩
  · exact .inr ⟨f, args, h1, Calls.mono h2 fun e w' ⟨v, s', E', x, he, g1, g2, g3, g4⟩ => ⟨v, s', E', x, he, g1, g2, g3, hk _ _ g4⟩⟩
theorem Good.step {m : Sem Value} {K : AV → St → Prop} (h : Good P E s w (m.run P w) K) : StepRes P E s w ((do let v ← m; Pure.pure (Next.value v) : Sem Next).run P w) K := by
  obtain ⟨v, s', E', x, w', h1, h2, h3, h4, h5⟩ := h
  exact .inl ⟨v, s', E', x, w', .inl (by simp [h1]), h2, h3, h4, h5⟩
theorem GoodU.step {m : Sem Unit} {K : AV → St → Prop} (h : GoodU P E s w (m.run P w) fun s' => K .any s') : StepRes P E s w ((do m; Pure.pure Next.skip : Sem Next).run P w) K := by
  obtain ⟨s', E', w', h1, h3, h4, h5⟩ := h
  exact .inl ⟨.any, s', E', undef, w', .inr ⟨by simp [h1], rfl⟩, trivial, h3, h4, h5⟩
theorem StepRes.pure {x : Value} {v : AV} {K : AV → St → Prop} (hR : Rel P E s w) (hv : VR E v x) (hK : K v s) : StepRes P E s w (.ok (.value x) w) K :=
  .inl ⟨v, s, E, x, w, .inl rfl, hv, hR, Step.refl E s w, hK⟩

/-- what a call comes to: it enters a function that does as is said, or the value is there at once (functions without a body) -/
def CallRes (P : Program) (E : Env) (s : St) (w : World) (f : Nat) (vs : Array Value) (K : AV → St → Prop) : Prop :=
  ((∃ fn, bodyOf P f = some fn) ∧ Calls P f vs w fun e w' => ∃ v s' E' x, e = .returned x ∧ VR E' v x ∧ Rel P E' s' w' ∧ Step E s w E' s' w' ∧ K v s') ∨
  ∃ v x, (callFunc f vs).run P w = .ok (.value x) w ∧ VR E v x ∧ K v s
/-- calls do as they are said to -/
def CallOk (P : Program) (call : CallT) : Prop :=
  ∀ (R : Type) (A : Ans R) (Pr : R → Prop), Lawful A Pr → ∀ (E : Env) (s : St) (w : World) (f : Nat) (args : List AV) (vs : Array Value) (k : KV R), Rel P E s w → VRL E args vs.toList → Pr (call R A f args s k) →
    CallRes P E s w f vs fun v s' => Pr (k v s')
theorem bodyOf_some {f : Nat} {fn : Func} (h : bodyOf P f = some fn) : P.funcs[f]? = some fn ∧ (fn.name == "runtime.NumGoroutine") = false ∧ ∃ c, fn.body = some c := by
  unfold bodyOf at h
  split at h
  · rename_i g hg
    split at h
    · cases h
    · rename_i hn
      split at h
      · rename_i c hc
        cases h
        exact ⟨hg, hn, c, hc⟩
      · cases h
  · cases h
theorem callFunc_run {f : Nat} {fn : Func} (h : bodyOf P f = some fn) (args : Array Value) : (callFunc f args).run P w = .ok (.enter f args) w := by
  obtain ⟨h1, h2, c, h3⟩ := bodyOf_some h
  have h2' : ¬ fn.name = "runtime.NumGoroutine" := by simpa using h2
  simp [callFunc, h1, h2', h3]
theorem CallRes.calls {f : Nat} {vs : Array Value} {K : AV → St → Prop} (hb : (bodyOf P f).isSome = true) (h : CallRes P E s w f vs K) :
    Calls P f vs w fun e w' => ∃ v s' E' x, e = .returned x ∧ VR E' v x ∧ Rel P E' s' w' ∧ Step E s w E' s' w' ∧ K v s' := by
  rcases h with h | ⟨v, x, hrun, _⟩
  · exact h.2
  · obtain ⟨fn, hfn⟩ := Option.isSome_iff_exists.1 hb
    rw [callFunc_run hfn] at hrun
    cases hrun
theorem load_ok (hA : Lawful A Pr) (hR : Rel P E s w) {t : Nat} {x : AV} {vx : Value} (hx : VR E x vx) (h : Pr (match (generalizing := false) x with
    | .ptr b off => loadA P A t s b off fun v => k v s
    | .ptrI b off i es => concI A s i fun n s => match n with | .ofNat n => loadA P A t s b (off + n * es) fun v => k v s | .negSucc _ => A.fail "load"
    | _ => A.fail "load")) : Good P E s w ((Instr.loadAt t vx).run P w) fun v s' => Pr (k v s') := by
  cases x <;> try exact (hA.fail _ h).elim
  case ptr b off =>
    dsimp only at h
    obtain ⟨r, c, hr, rfl⟩ := hx
    obtain ⟨v, y, h1, h2, h3⟩ := loadA_ok hA hR hr h
    have : (Instr.loadAt t (.pointer (some ⟨r, off, none⟩))).run P w = .ok y w := by simp [Instr.loadAt, Instr.sureAddr, h1]
    rw [this]; exact Good.pure hR h2 h3
  case ptrI b off i es =>
    dsimp only at h
    obtain ⟨r, c, n, hr, hn, h0, rfl⟩ := hx
    obtain ⟨n', s1, hn', r1, hy1, h1⟩ := concI_ok hA hR.sy h
    rw [hn] at hn'; cases hn'
    have hR1 := hR.refn r1 hy1
    cases n with
    | negSucc m => exact (hA.fail _ h1).elim
    | ofNat m =>
      obtain ⟨v, y, h2, h3, h4⟩ := loadA_ok hA hR1 hr h1
      have : (Instr.loadAt t (.pointer (some ⟨r, off + (Int.ofNat m).toNat * es, none⟩))).run P w = .ok y w := by
        simp only [Instr.loadAt, Instr.sureAddr, Sem.run_bind, Sem.run_pure, Result.andThen_ok]; exact h2
      rw [this]; exact Good.refn r1 (Good.pure hR1 h3 h4)
theorem store_ok (hA : Lawful A Pr) (hR : Rel P E s w) {t : Nat} {x y : AV} {vx vy : Value} (hx : VR E x vx) (hy : VR E y vy) (h : Pr (match (generalizing := false) x with
    | .ptr b off => storeA P A t s b off y fun s => k .any s
    | .ptrI b off i es => storeJ P A t s b off i es y fun s => k .any s
    | _ => A.fail "store")) : GoodU P E s w ((Instr.storeAt t vx vy).run P w) fun s' => Pr (k .any s') := by
  cases x <;> try exact (hA.fail _ h).elim
  case ptr b off =>
    dsimp only at h
    obtain ⟨r, c, hr, rfl⟩ := hx
    have : (Instr.storeAt t (.pointer (some ⟨r, off, none⟩)) vy).run P w = (storeVar t ⟨r, off, none⟩ vy).run P w := by simp [Instr.storeAt, Instr.sureAddr]
    rw [this]; exact storeA_ok hA hR hr hy h
  case ptrI b off i es =>
    dsimp only at h
    obtain ⟨r, c, n, hr, hn, h0, rfl⟩ := hx
    have : (Instr.storeAt t (.pointer (some ⟨r, off + n.toNat * es, none⟩)) vy).run P w = (storeVar t ⟨r, off + n.toNat * es, none⟩ vy).run P w := by simp [Instr.storeAt, Instr.sureAddr]
    rw [this]; exact storeJ_ok hA hR hr hn h0 hy h
theorem makeInterface_ok (hA : Lawful A Pr) (hR : Rel P E s w) {t : Nat} {x : AV} {vx : Value} (hx : VR E x vx) (h : Pr (match tk P t with
    | .iface => A.fail "makeInterface"
    | .other => A.fail "makeInterface"
    | _ => k (.iface t x) s)) : Good P E s w ((Instr.makeInterface t vx).run P w) fun v s' => Pr (k v s') := by
  have fin : ∀ d, P.underlying t = some d → (∀ m, d ≠ .interface m) → Pr (k (.iface t x) s) → Good P E s w ((Instr.makeInterface t vx).run P w) fun v s' => Pr (k v s') := by
    intro d hd hn hk
    have : (Instr.makeInterface t vx).run P w = .ok (.iface t vx) w := by
      unfold Instr.makeInterface
      simp only [Sem.run_bind, run_underlying hd, Result.andThen_ok]
      cases d <;> first | rfl | exact absurd rfl (hn _)
    rw [this]
    exact Good.pure hR (show VR E (.iface t x) _ from ⟨vx, rfl, hx⟩) hk
  cases ht : tk P t <;> rw [ht] at h <;> dsimp only at h <;> try exact (hA.fail _ h).elim
  case bool => exact fin _ (tk_bool ht) (by intro m q; cases q) h
  case int => exact fin _ (tk_int ht) (by intro m q; cases q) h
  case string => exact fin _ (tk_string ht) (by intro m q; cases q) h
  case pointer => obtain ⟨e, hu⟩ := tk_pointer ht; exact fin _ hu (by intro m q; cases q) h
  case slice => obtain ⟨e, hu⟩ := tk_slice ht; exact fin _ hu (by intro m q; cases q) h
  case array => obtain ⟨n, e, hu⟩ := tk_array ht; exact fin _ hu (by intro m q; cases q) h
  case map => obtain ⟨kt, hu, _⟩ := tk_map ht; exact fin _ hu (by intro m q; cases q) h
  case struct =>
    have : ∃ fs, P.underlying t = some (.struct fs) := by
      unfold tk at ht; split at ht <;> first | exact ⟨_, by assumption⟩ | (split at ht <;> cases ht) | cases ht
    obtain ⟨fs, hu⟩ := this
    exact fin _ hu (by intro m q; cases q) h
  case func => obtain ⟨p, r, v, hu⟩ := tk_func ht; exact fin _ hu (by intro m q; cases q) h
theorem builtin_ok (hA : Lawful A Pr) (hR : Rel P E s w) {b : Builtin} {ts : Array Nat} {ty : Nat} {cs : Array Bool} {args : List AV} {vs : Array Value} (hv : VRL E args vs.toList) (h : Pr (builtinA P A b ts.toList args s k)) :
    StepRes P E s w ((builtin b ts ty cs vs).run P w) fun v s' => Pr (k v s') := by
  unfold builtinA at h
  split at h
  · split at h
    · rename_i t l x hts
      obtain ⟨y, ys, e1, hx, e2⟩ := hv
      have e2 : ys = [] := e2
      subst e2
      have e3 : vs = #[y] := by rw [← Array.toList_inj]; exact e1
      subst e3
      have e4 : ts = (t :: l).toArray := by rw [← Array.toList_inj]; exact hts
      subst e4
      exact Good.step (len_ok hA hR hx h)
    · exact (hA.fail _ h).elim
  · split at h
    · rename_i t t2 l x y hts
      obtain ⟨vx, ys, e1, hx, vy, ys', e2, hy, e3⟩ := hv
      have e3 : ys' = [] := e3
      subst e3; subst e2
      have e3 : vs = #[vx, vy] := by rw [← Array.toList_inj]; exact e1
      subst e3
      exact Good.step (append_ok hA hR (by rw [← Array.getElem?_toList, hts]; rfl) (by rw [← Array.getElem?_toList, hts]; rfl) hx hy h)
    · exact (hA.fail _ h).elim
  · split at h
    · obtain ⟨vx, ys, e1, hx, vy, ys', e2, hy, e3⟩ := hv
      have e3 : ys' = [] := e3
      subst e3; subst e2
      have e3 : vs = #[vx, vy] := by rw [← Array.toList_inj]; exact e1
      subst e3
      exact Good.step (mm_ok (mx := true) (ts := ts) (ty := ty) hA hR hx hy h)
    · exact (hA.fail _ h).elim
  · split at h
    · obtain ⟨vx, ys, e1, hx, vy, ys', e2, hy, e3⟩ := hv
      have e3 : ys' = [] := e3
      subst e3; subst e2
      have e3 : vs = #[vx, vy] := by rw [← Array.toList_inj]; exact e1
      subst e3
      exact Good.step (mm_ok (mx := false) (ts := ts) (ty := ty) hA hR hx hy h)
    · exact (hA.fail _ h).elim
  · exact (hA.fail _ h).elim

theorem PR.map' (E : Env) (f : Operand → AV) (g : Operand → Value) (l : List (Nat × Operand)) (h : ∀ p ∈ l, VR E (f p.2) (g p.2)) : PR E (l.map fun p => (p.1, f p.2)) (l.map fun p => (p.1, g p.2)) := by
  induction l with
  | nil => exact .nil
  | cons p l ih => exact .cons (h p (by simp)) (ih fun q hq => h q (by simp [hq]))
theorem step_ok {call : CallT} (hA : Lawful A Pr) (hC : CallOk P call) (hR : Rel P E s w) {o : Oper} {a : Act} {fr : Fr} (hf : ∀ x ∈ o.op.operands.toList, VR E (evalO P s fr x) (a.eval x))
    (h : Pr (stepOp o.op P call R A fr s k)) : StepRes P E s w ((execOp a.eval o).run P w) fun v s' => Pr (k v s') := by
  unfold execOp
  cases ho : o.op <;> rw [ho] at h hf <;> simp only [Op.operands] at hf
  case move x => exact StepRes.pure hR (hf x (by simp)) h
  case assign x => exact StepRes.pure hR (hf x (by simp)) h
  case pick c x y =>
    change Pr (oPick c x y P call R A fr s k) at h
    unfold oPick at h
    have hc := hf c (by simp)
    split at h
    · rename_i q
      rw [q] at hc
      have hc : a.eval c = .bool true := hc
      simp only [hc, asBool, Sem.run_bind, Sem.run_pure, Result.andThen_ok, if_true]
      exact StepRes.pure hR (hf x (by simp)) h
    · rename_i q
      rw [q] at hc
      have hc : a.eval c = .bool false := hc
      simp only [hc, asBool, Sem.run_bind, Sem.run_pure, Result.andThen_ok]
      exact StepRes.pure hR (hf y (by simp)) h
    · exact (hA.fail _ h).elim
  case alloc t => exact Good.step (alloc_ok hA hR h)
  case box t x => exact Good.step (box_ok hA hR (hf x (by simp)) h)
  case build t ps =>
    refine Good.step (build_ok hA hR ?_ h)
    rw [mapL_eq, Array.toList_map]
    exact PR.map' E _ _ _ fun p hp => hf p.2 (by simp; exact ⟨p.1, by simpa using hp⟩)
  case buildSlice t n ps =>
    refine Good.step (buildSlice_ok hA hR ?_ h)
    rw [mapL_eq, Array.toList_map]
    exact PR.map' E _ _ _ fun p hp => hf p.2 (by simp; exact ⟨p.1, by simpa using hp⟩)
  case insert t m x y => exact GoodU.step (update_ok hA hR (hf m (by simp)) (hf x (by simp)) (hf y (by simp)) h)
  case mapUpdate t m x y => exact GoodU.step (update_ok hA hR (hf m (by simp)) (hf x (by simp)) (hf y (by simp)) h)
  case load t x => exact Good.step (load_ok hA hR (hf x (by simp)) h)
  case store t x y => exact GoodU.step (store_ok hA hR (hf x (by simp)) (hf y (by simp)) h)
  case nilCheck x =>
    change Pr (oNilCheck x P call R A fr s k) at h
    unfold oNilCheck at h
    have hx := hf x (by simp)
    generalize hq : evalO P s fr x = q at h hx
    cases q <;> try exact (hA.fail _ h).elim
    case ptr b off =>
      obtain ⟨r, c, hr, e⟩ := hx
      simp only [e]
      exact StepRes.pure hR (show VR E (.ptr b off) _ from ⟨r, c, hr, rfl⟩) h
    case ptrI b off i es =>
      obtain ⟨r, c, n, hr, hn, h0, e⟩ := hx
      simp only [e]
      exact StepRes.pure hR (show VR E (.ptrI b off i es) _ from ⟨r, c, n, hr, hn, h0, rfl⟩) h
    case func f cap =>
      obtain ⟨vs, e, hv⟩ := hx
      simp only [e]
      exact StepRes.pure hR (show VR E (.func f cap) _ from ⟨vs, rfl, hv⟩) h
  case binOp op t x y t' => exact Good.step (binA_ok hA hR (hf x (by simp)) (hf y (by simp)) h)
  case unOp op t x => exact Good.step (un_ok hA hR (hf x (by simp)) h)
  case convert src dst x => exact Good.step (convert_ok hA hR (hf x (by simp)) h)
  case makeInterface t x => exact Good.step (makeInterface_ok hA hR (hf x (by simp)) h)
  case makeFunc fn first cap =>
    change Pr (oMakeFunc fn first cap P call R A fr s k) at h
    unfold oMakeFunc at h
    split at h
    · rename_i f hfirst
      have e1 : first = #[] := by rw [← Array.toList_inj]; exact hfirst
      subst e1
      rw [mapL_eq] at h
      simp only [Instr.makeFunc, Sem.run_bind, Sem.run_pure, Result.andThen_ok]
      refine StepRes.pure hR (show VR E (.func f _) _ from ⟨cap.map a.eval, by simp, ?_⟩) h
      rw [Array.toList_map]
      exact VRL.map _ _ _ fun x hx => hf x (by simpa using hx)
    · exact (hA.fail _ h).elim
  case makeMap t r =>
    change Pr (oMakeMap t r P call R A fr s k) at h
    unfold oMakeMap at h
    cases r with
    | none => exact Good.step (makeMap_ok hR h rfl)
    | some _ => exact (hA.fail _ h).elim
  case makeSlice t l c => exact Good.step (makeSlice_ok hA hR (hf l (by simp)) (hf c (by simp)) h)
  case slice t x lo hi mx =>
    refine Good.step (slice_ok hA hR (hf x (by simp)) ?_ ?_ ?_ h)
    · cases lo with
      | none => exact ⟨fun _ q => (by cases q), fun _ => rfl⟩
      | some l => exact ⟨fun _ q => by cases q; exact ⟨_, rfl, hf l (by simp)⟩, fun q => (by cases q)⟩
    · cases hi with
      | none => exact ⟨fun _ q => (by cases q), fun _ => rfl⟩
      | some l => exact ⟨fun _ q => by cases q; exact ⟨_, rfl, hf l (by simp)⟩, fun q => (by cases q)⟩
    · cases mx with
      | none => exact ⟨fun _ q => (by cases q), fun _ => rfl⟩
      | some l => exact ⟨fun _ q => by cases q; exact ⟨_, rfl, hf l (by simp)⟩, fun q => (by cases q)⟩
  case fieldAddr t x i => exact Good.step (fieldAddr_ok hA hR (hf x (by simp)) h)
  case field t x i => exact Good.step (field_ok hA hR (hf x (by simp)) h)
  case indexAddr t x i => exact Good.step (indexAddr_ok hA hR (hf x (by simp)) (hf i (by simp)) h)
  case index t x i => exact Good.step (index_ok hA hR (hf x (by simp)) (hf i (by simp)) h)
  case lookup t x i ok => exact Good.step (lookup_ok hA hR (hf x (by simp)) (hf i (by simp)) h)
  case extract x i =>
    change Pr (oExtract x i P call R A fr s k) at h
    unfold oExtract at h
    have hx := hf x (by simp)
    split at h
    · rename_i l q
      rw [q] at hx
      obtain ⟨vs, e, hv⟩ := hx
      split at h
      · rename_i v hn
        rw [nth_eq] at hn
        obtain ⟨y, hy, hvy⟩ := hv.get hn
        simp only [e]
        have : vs[i]? = some y := by simpa using hy
        simp only [Instr.extract, this, Sem.run_bind, Sem.run_pure, Result.andThen_ok]
        exact StepRes.pure hR hvy h
      · exact (hA.fail _ h).elim
    · exact (hA.fail _ h).elim
  case call c =>
    change Pr (oCall c P call R A fr s k) at h
    unfold oCall at h
    simp only [Call.operands] at hf
    have hargs : VRL E (mapL (evalO P s fr) c.args.toList) (c.args.map a.eval).toList := by
      rw [mapL_eq, Array.toList_map]
      exact VRL.map _ _ _ fun x hx => hf x (by simp; exact .inr (by simpa using hx))
    split at h
    · rename_i b hb
      simp only [resolve, hb, Sem.run_bind, Sem.run_pure, Result.andThen_ok, invoke]
      exact builtin_ok hA hR hargs h
    · rename_i f hcf
      have hfv := hf f (by simp [hcf])
      split at h
      · rename_i g cap q
        rw [q] at hfv
        obtain ⟨vs, e, hv⟩ := hfv
        rw [appL_eq] at h
        have hall : VRL E (mapL (evalO P s fr) c.args.toList ++ cap) (c.args.map a.eval ++ vs).toList := by
          rw [Array.toList_append]; exact hargs.app hv
        simp only [resolve, hcf, e, Deferred.ofValue, Sem.run_bind, Sem.run_pure, Result.andThen_ok, invoke, Array.empty_append]
        rcases hC R A Pr hA E s w g _ _ k hR hall h with ⟨⟨fn, hfn⟩, hcalls⟩ | ⟨v, x, hrun, hv, hk⟩
        · rw [callFunc_run hfn]
          exact .inr ⟨g, _, rfl, hcalls⟩
        · rw [hrun]
          exact StepRes.pure hR hv hk
      · exact (hA.fail _ h).elim
    · exact (hA.fail _ h).elim
  all_goals exact (hA.fail _ h).elim
end
end Go.Proofs.YtlnfollgpbcafaaGreatDoor.Xq
