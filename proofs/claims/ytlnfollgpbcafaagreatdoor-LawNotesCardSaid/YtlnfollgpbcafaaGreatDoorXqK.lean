import Derived.Test.YtlnfollgpbcafaaGreatDoorXqJ
set_option autoImplicit false
set_option linter.unusedVariables false
/-! The operations, one by one: slices, maps, append. -/
namespace Go.Proofs.YtlnfollgpbcafaaGreatDoor.Xq
open Go

section
variable {P : Program} {E : Env} {s : St} {w : World} {R : Type} {A : Ans R} {Pr : R → Prop} {k : KV R}

/-! ### slices -/
theorem optN_ok (hA : Lawful A Pr) (hR : Rel P E s w) {v : Option AV} {x : Option Value} {d : Nat} {f : Nat → St → R} (hv : ∀ a, v = some a → ∃ y, x = some y ∧ VR E a y) (hn : v = none → x = none)
    (h : Pr (optN A s v d f)) : ∃ n s', Refn s s' ∧ Rel P E s' w ∧ Pr (f n s') ∧ (x = none → n = d) ∧ (∀ y, x = some y → ∃ kd, y = .int kd (n : Nat)) := by
  unfold optN at h
  cases v with
  | none =>
    have := hn rfl; subst this
    exact ⟨d, s, Refn.refl s, hR, h, fun _ => rfl, fun y e => by cases e⟩
  | some a =>
    obtain ⟨y, rfl, hy⟩ := hv a rfl
    obtain ⟨kd, n, s1, rfl, r, hR1, h1⟩ := getN_good hA hR hy h
    exact ⟨n, s1, r, hR1, h1, fun e => (by cases e), fun z e => ⟨kd, by cases e; rfl⟩⟩
theorem sliceBound_run {kd : IntKind} {i y : Nat} {c : BoundsCode} (h : i ≤ y) : (Instr.sliceBound (.int kd (i : Nat)) y c).run P w = .ok i w := by
  simp [Instr.sliceBound, asIntOf, h]
/-- the bounds, as the machine finds them -/
theorem bounds_run {isS : Bool} {len cap a c m : Nat} {lo hi mx : Option Value}
    (hm : ∀ v, mx = some v → ∃ kd, v = .int kd (m : Nat)) (hm0 : mx = none → m = cap) (hc : ∀ v, hi = some v → ∃ kd, v = .int kd (c : Nat)) (hc0 : hi = none → c = len ∧ mx = none)
    (hl : ∀ v, lo = some v → ∃ kd, v = .int kd (a : Nat)) (hl0 : lo = none → a = 0) (h1 : m ≤ cap) (h2 : c ≤ m) (h3 : a ≤ c) :
    (Instr.sliceBounds isS len cap lo hi mx).run P w = .ok (a, c, m) w := by
  have L : ∀ code, ((match lo with | some v => Instr.sliceBound v c code | none => pure 0 : Sem Nat)).run P w = .ok a w := by
    intro code
    cases lo with
    | none => rw [hl0 rfl]; rfl
    | some v => obtain ⟨kd, rfl⟩ := hl v rfl; exact sliceBound_run h3
  unfold Instr.sliceBounds
  cases mx with
  | none =>
    have := hm0 rfl; subst this
    cases hi with
    | none =>
      obtain ⟨rfl, _⟩ := hc0 rfl
      simp only [Sem.run_bind, Sem.run_pure, Result.andThen_ok]
      cases lo with
      | none => rw [hl0 rfl]; rfl
      | some v => obtain ⟨kd, rfl⟩ := hl v rfl; simp only [Sem.run_bind, Sem.run_pure, sliceBound_run h3, Result.andThen_ok]
    | some v =>
      obtain ⟨kd, rfl⟩ := hc v rfl
      simp only [Sem.run_bind, Sem.run_pure, Result.andThen_ok, sliceBound_run h2]
      cases lo with
      | none => rw [hl0 rfl]; rfl
      | some v => obtain ⟨kd, rfl⟩ := hl v rfl; simp only [Sem.run_bind, Sem.run_pure, sliceBound_run h3, Result.andThen_ok]
  | some vm =>
    obtain ⟨kdm, rfl⟩ := hm vm rfl
    cases hi with
    | none => obtain ⟨_, e⟩ := hc0 rfl; cases e
    | some v =>
      obtain ⟨kd, rfl⟩ := hc v rfl
      simp only [Sem.run_bind, Result.andThen_ok, sliceBound_run h2, sliceBound_run h1]
      cases lo with
      | none => rw [hl0 rfl]; rfl
      | some v => obtain ⟨kd, rfl⟩ := hl v rfl; simp only [Sem.run_bind, Sem.run_pure, sliceBound_run h3, Result.andThen_ok]
theorem sliceAt_eq {t : Nat} {x : Value} {lo hi mx : Option Value} {d : TypeDesc} (hu : P.underlying t = some d) (hd : ∀ n e, d ≠ .array n e) : (Instr.sliceAt t x lo hi mx).run P w = (Instr.slice t x lo hi mx).run P w := by
  unfold Instr.sliceAt
  simp only [Sem.run_bind, run_underlying hu, Result.andThen_ok]
abbrev OV (E : Env) (v : Option AV) (x : Option Value) : Prop := (∀ a, v = some a → ∃ y, x = some y ∧ VR E a y) ∧ (v = none → x = none)
theorem slice_ok (hA : Lawful A Pr) (hR : Rel P E s w) {t : Nat} {x : AV} {vx : Value} {lo hi mx : Option AV} {vlo vhi vmx : Option Value} (hx : VR E x vx) (hlo : OV E lo vlo) (hhi : OV E hi vhi) (hmx : OV E mx vmx)
    (h : Pr (sliceA P A t x lo hi mx s k)) : Good P E s w ((Instr.sliceAt t vx vlo vhi vmx).run P w) fun v s' => Pr (k v s') := by
  have none_of : ∀ {v : Option AV} {y : Option Value}, OV E v y → y = none → v = none := fun {v y} ho hy => by
    cases v with
    | none => rfl
    | some a => obtain ⟨z, e, _⟩ := ho.1 a rfl; rw [hy] at e; cases e
  unfold sliceA at h
  split at h
  · rename_i l n
    obtain ⟨a, rfl, rfl, rfl⟩ := hx
    split at h
    · rename_i ht
      have hu := tk_string ht
      split at h
      · have hmn := hmx.2 rfl
        subst hmn
        obtain ⟨c, s1, r1, hR1, h1, c0, c1⟩ := optN_ok hA hR hhi.1 hhi.2 h
        obtain ⟨b, s2, r2, hR2, h2, b0, b1⟩ := optN_ok hA hR1 hlo.1 hlo.2 h1
        split at h2
        · rename_i hbc
          have hbc := ble_iff.1 hbc
          split at h2
          · rename_i hcl
            have hcl := ble_iff.1 hcl
            have hsz : a.size = a.data.toList.length := by simp
            have hb := bounds_run (P := P) (w := w) (isS := false) (len := a.size) (cap := a.size) (a := b) (c := c) (m := a.size) (lo := vlo) (hi := vhi) (mx := none)
              (fun v e => by cases e) (fun _ => rfl) c1 (fun e => ⟨by rw [c0 e, hsz], rfl⟩) b1 b0 (Nat.le_refl _) (by omega) hbc
            rw [sliceAt_eq hu (by intro n e q; cases q)]
            have : (Instr.slice t (.string a) vlo vhi none).run P w = .ok (.string (a.extract b c)) w := by
              simp [Instr.slice, run_underlying hu, hb]
            rw [this]
            refine Good.refn (r1.trans r2) (Good.pure hR2 (show VR E (.str (c - b) _) _ from ⟨_, rfl, ?_, ?_⟩) h2)
            · rw [Lib.extract_data]; simp; omega
            · rw [Lib.extract_data]
              have e : (a.data.toList.drop b).take (c - b) = (a.data.toList.take c).drop b := by rw [List.drop_take]
              rw [e, num_slice _ _ _ hbc hcl]
          · exact (hA.fail _ h2).elim
        · exact (hA.fail _ h2).elim
      · exact (hA.fail _ h).elim
    · exact (hA.fail _ h).elim
  · rename_i b off len cap
    obtain ⟨r, cc, hr, rfl⟩ := hx
    split at h
    · rename_i e he
      have hu := sliceElem_some he
      split at h
      · rename_i es hes
        obtain ⟨m, s1, r1, hR1, h1, m0, m1⟩ := optN_ok hA hR hmx.1 hmx.2 h
        split at h1
        · exact (hA.fail _ h1).elim
        · rename_i hmc
          have hmc := ble_iff.1 hmc
          split at h1
          · exact (hA.fail _ h1).elim
          · rename_i hnot
            obtain ⟨c, s2, r2, hR2, h2, c0, c1⟩ := optN_ok hA hR1 hhi.1 hhi.2 h1
            split at h2
            · exact (hA.fail _ h2).elim
            · rename_i hcm
              have hcm := ble_iff.1 hcm
              obtain ⟨a, s3, r3, hR3, h3, a0, a1⟩ := optN_ok hA hR2 hlo.1 hlo.2 h2
              split at h3
              · exact (hA.fail _ h3).elim
              · rename_i hac
                have hac := ble_iff.1 hac
                have hb := bounds_run (P := P) (w := w) (isS := true) (len := len) (cap := cap) (a := a) (c := c) (m := m) (lo := vlo) (hi := vhi) (mx := vmx)
                  m1 m0 c1 (fun e => ⟨c0 e, by
                    have hh := none_of hhi e
                    cases hq : mx with
                    | none => exact hmx.2 hq
                    | some q => exact (hnot _ hh hq).elim⟩) a1 a0 hmc hcm hac
                rw [sliceAt_eq hu (by intro n e q; cases q)]
                have hrun : (Instr.slice t (.slice (some ⟨r, off, none⟩) len cap) vlo vhi vmx).run P w = .ok (.slice (if m = a then some ⟨r, off, none⟩ else some ⟨r, off + a * es, none⟩) (c - a) (m - a)) w := by
                  simp [Instr.slice, run_underlying hu, hb, szOf_run hes, Addr_add]
                rw [hrun]
                split at h3
                · rename_i hma
                  have hma := Nat.eq_of_beq_eq_true hma
                  rw [if_pos hma]
                  exact Good.refn (r1.trans (r2.trans r3)) (Good.pure hR3 (show VR E (.slice b off (c - a) (m - a)) _ from ⟨r, cc, hr, rfl⟩) h3)
                · rename_i hma
                  have hma := Nat.ne_of_beq_eq_false hma
                  rw [if_neg hma]
                  exact Good.refn (r1.trans (r2.trans r3)) (Good.pure hR3 (show VR E (.slice b (off + a * es) (c - a) (m - a)) _ from ⟨r, cc, hr, rfl⟩) h3)
      · exact (hA.fail _ h).elim
    · exact (hA.fail _ h).elim
  · rename_i b off len es'
    obtain ⟨r, cc, cap, hr, hcap, hes0, hlc, rfl⟩ := hx
    split at h
    · rename_i e he
      have hu := sliceElem_some he
      split at h
      · rename_i es hes
        split at h
        · exact (hA.fail _ h).elim
        · rename_i heq
          have heq := Nat.eq_of_beq_eq_true heq
          subst heq
          split at h
          · have hmn := hmx.2 rfl
            subst hmn
            obtain ⟨c, s1, r1, hR1, h1, c0, c1⟩ := optN_ok hA hR hhi.1 hhi.2 h
            split at h1
            · exact (hA.fail _ h1).elim
            · rename_i hcl
              have hcl := ble_iff.1 hcl
              obtain ⟨a, s2, r2, hR2, h2, a0, a1⟩ := optN_ok hA hR1 hlo.1 hlo.2 h1
              split at h2
              · exact (hA.fail _ h2).elim
              · rename_i hac
                have hac := ble_iff.1 hac
                have hb := bounds_run (P := P) (w := w) (isS := true) (len := len) (cap := cap) (a := a) (c := c) (m := cap) (lo := vlo) (hi := vhi) (mx := none)
                  (fun v e => by cases e) (fun _ => rfl) c1 (fun e => ⟨c0 e, rfl⟩) a1 a0 (Nat.le_refl _) (by omega) hac
                rw [sliceAt_eq hu (by intro n e q; cases q)]
                have hrun : (Instr.slice t (.slice (some ⟨r, off, none⟩) len cap) vlo vhi none).run P w = .ok (.slice (if cap = a then some ⟨r, off, none⟩ else some ⟨r, off + a * es, none⟩) (c - a) (cap - a)) w := by
                  simp [Instr.slice, run_underlying hu, hb, szOf_run hes, Addr_add]
                rw [hrun]
                split at h2
                · have e0 : (if cap = 0 then some (⟨r, off, none⟩ : Addr) else some ⟨r, off + 0 * es, none⟩) = some ⟨r, off, none⟩ := by simp
                  rw [e0]
                  exact Good.refn (r1.trans r2) (Good.pure hR2 (show VR E (.sliceT b off c es) _ from ⟨r, cc, cap, hr, hcap, hes0, by omega, by simp⟩) h2)
                · rename_i a' hac'
                  split at h2
                  · rename_i hle
                    have hle := ble_iff.1 hle
                    rw [if_neg (by omega)]
                    refine Good.refn (r1.trans r2) (Good.pure hR2 (show VR E (.sliceT b (off + (a' + 1) * es) (c - (a' + 1)) es) _ from ⟨r, cc, cap - (a' + 1), hr, ?_, hes0, by omega, rfl⟩) h2)
                    rw [← hcap, Nat.add_assoc, ← Nat.add_mul]
                    congr 2
                    omega
                  · exact (hA.fail _ h2).elim
          · rename_i m
            obtain ⟨vm, rfl, hvm⟩ := hmx.1 m rfl
            obtain ⟨kd, mm, s1, rfl, r1, hR1, h1⟩ := getN_good hA hR hvm h
            split at h1
            · exact (hA.fail _ h1).elim
            · rename_i hml
              have hml := ble_iff.1 hml
              split at h1
              · exact (hA.fail _ h1).elim
              · rename_i hh
                obtain ⟨vh, rfl, hvh⟩ := hhi.1 hh rfl
                obtain ⟨kd2, c, s2, rfl, r2, hR2, h2⟩ := getN_good hA hR1 hvh h1
                split at h2
                · exact (hA.fail _ h2).elim
                · rename_i hcm
                  have hcm := ble_iff.1 hcm
                  obtain ⟨a, s3, r3, hR3, h3, a0, a1⟩ := optN_ok hA hR2 hlo.1 hlo.2 h2
                  split at h3
                  · exact (hA.fail _ h3).elim
                  · rename_i hac
                    have hac := ble_iff.1 hac
                    have hb := bounds_run (P := P) (w := w) (isS := true) (len := len) (cap := cap) (a := a) (c := c) (m := mm) (lo := vlo) (hi := some (.int kd2 (c : Nat))) (mx := some (.int kd (mm : Nat)))
                      (fun v e => by cases e; exact ⟨_, rfl⟩) (fun e => by cases e) (fun v e => by cases e; exact ⟨_, rfl⟩) (fun e => by cases e) a1 a0 (by omega) hcm hac
                    rw [sliceAt_eq hu (by intro n e q; cases q)]
                    have hrun : (Instr.slice t (.slice (some ⟨r, off, none⟩) len cap) vlo (some (.int kd2 (c : Nat))) (some (.int kd (mm : Nat)))).run P w = .ok (.slice (if mm = a then some ⟨r, off, none⟩ else some ⟨r, off + a * es, none⟩) (c - a) (mm - a)) w := by
                      simp [Instr.slice, run_underlying hu, hb, szOf_run hes, Addr_add]
                    rw [hrun]
                    split at h3
                    · rename_i hma
                      have hma := Nat.eq_of_beq_eq_true hma
                      rw [if_pos hma]
                      exact Good.refn (r1.trans (r2.trans r3)) (Good.pure hR3 (show VR E (.slice b off (c - a) (mm - a)) _ from ⟨r, cc, hr, rfl⟩) h3)
                    · rename_i hma
                      have hma := Nat.ne_of_beq_eq_false hma
                      rw [if_neg hma]
                      exact Good.refn (r1.trans (r2.trans r3)) (Good.pure hR3 (show VR E (.slice b (off + a * es) (c - a) (mm - a)) _ from ⟨r, cc, hr, rfl⟩) h3)
      · exact (hA.fail _ h).elim
    · exact (hA.fail _ h).elim
  · exact (hA.fail _ h).elim
end
end Go.Proofs.YtlnfollgpbcafaaGreatDoor.Xq
