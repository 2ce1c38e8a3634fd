import Derived.Test.YtlnfollgpbcafaaGreatDoorXqG
set_option autoImplicit false
set_option linter.unusedVariables false
/-! The operations, one by one: numbers, strings, comparisons, places. -/
namespace Go.Proofs.YtlnfollgpbcafaaGreatDoor.Xq
open Go

section
variable {P : Program} {E : Env} {s : St} {w : World} {R : Type} {A : Ans R} {Pr : R → Prop} {k : KV R}

/-! ### numbers -/
theorem Good.bool (hR : Rel P E s w) {s1 : St} (r : Refn s s1) (hy : SyOk E s1.sy) {b : Bool} {K : AV → St → Prop} (hK : K (.bool b) s1) : Good P E s w (.ok (.bool b) w) K :=
  Good.here (v := .bool b) hR r hy (show VR E (.bool b) (.bool b) from rfl) hK
theorem Good.int (hR : Rel P E s w) {kd : IntKind} {n : Int} {K : AV → St → Prop} (hK : K (.int kd n) s) : Good P E s w (.ok (.int kd n) w) K := Good.pure (v := .int kd n) hR (show VR E (.int kd n) (.int kd n) from rfl) hK

theorem eqGuard_int (op : BinOp) (t : Nat) (x y : Operand) (k k' : IntKind) (a b : Int) (w : World) : (eqGuard op t x y (.int k a) (.int k' b)).run P w = .ok () w := by
  unfold eqGuard; cases op <;> rfl
theorem eqGuard_string (op : BinOp) (t : Nat) (x y : Operand) (a b : ByteArray) (w : World) : (eqGuard op t x y (.string a) (.string b)).run P w = .ok () w := by
  unfold eqGuard; cases op <;> rfl
theorem cmp_ok (hA : Lawful A Pr) (hR : Rel P E s w) {op : BinOp} {v u : AV} {x y : Value} (hv : VR E v x) (hu : VR E u y) (h : Pr (cmpA A op s v u k)) :
    ∃ kd a b s' c, x = .int kd a ∧ y = .int kd b ∧ (Op.intCmp op a b).run P w = .ok (.bool c) w ∧ (∀ t, binOp op t (.int kd a) (.int kd b) = Op.intCmp op a b) ∧ Refn s s' ∧ SyOk E s'.sy ∧ Pr (k (.bool c) s') := by
  unfold cmpA at h
  split at h
  · obtain ⟨kd, a, b, s1, rfl, rfl, r, hy, h1⟩ := eqI_ok hA hv hu hR.sy h
    exact ⟨kd, a, b, s1, _, rfl, rfl, rfl, fun t => by simp [binOp], r, hy, h1⟩
  · obtain ⟨kd, a, b, s1, rfl, rfl, r, hy, h1⟩ := eqI_ok hA hv hu hR.sy h
    rw [bnot_eq] at h1
    exact ⟨kd, a, b, s1, _, rfl, rfl, rfl, fun t => by simp [binOp], r, hy, h1⟩
  · obtain ⟨kd, a, b, s1, rfl, rfl, r, hy, h1⟩ := ltI_ok hA hv hu hR.sy h
    exact ⟨kd, a, b, s1, _, rfl, rfl, rfl, fun t => by simp [binOp], r, hy, h1⟩
  · obtain ⟨kd, a, b, s1, rfl, rfl, r, hy, h1⟩ := ltI_ok hA hv hu hR.sy h
    refine ⟨kd, a, b, s1, _, rfl, rfl, rfl, fun t => by simp [binOp], r, hy, ?_⟩
    rw [bnot_eq] at h1
    have : (!decide (a < b)) = decide (a ≥ b) := by by_cases q : a < b <;> simp [q] <;> omega
    rw [this] at h1; exact h1
  · obtain ⟨kd, a, b, s1, rfl, rfl, r, hy, h1⟩ := ltI_ok hA hu hv hR.sy h
    exact ⟨kd, b, a, s1, _, rfl, rfl, rfl, fun t => by simp [binOp], r, hy, h1⟩
  · obtain ⟨kd, a, b, s1, rfl, rfl, r, hy, h1⟩ := ltI_ok hA hu hv hR.sy h
    refine ⟨kd, b, a, s1, _, rfl, rfl, rfl, fun t => by simp [binOp], r, hy, ?_⟩
    rw [bnot_eq] at h1
    have : (!decide (a < b)) = decide (b ≤ a) := by by_cases q : a < b <;> simp [q] <;> omega
    rw [this] at h1; exact h1
  · exact (hA.fail _ h).elim
theorem int_ok (hA : Lawful A Pr) (hR : Rel P E s w) {op : BinOp} {t : Nat} {kd : IntKind} {a b : Int} (h : Pr (intA A op s kd a b k)) :
    Good P E s w ((binOp op t (.int kd a) (.int kd b)).run P w) fun v s' => Pr (k v s') := by
  unfold intA at h
  split at h
  · rw [wrapF_eq] at h; simpa [binOp, Op.intArith] using Good.int (kd := kd) hR h
  · rw [wrapF_eq] at h; simpa [binOp, Op.intArith] using Good.int (kd := kd) hR h
  · rw [wrapF_eq] at h; simpa [binOp, Op.intArith] using Good.int (kd := kd) hR h
  · split at h
    · exact (hA.fail _ h).elim
    · rename_i hb
      have hb := ieq_false hb
      rw [wrapF_eq] at h; simpa [binOp, Op.intDiv, hb] using Good.int (kd := kd) hR h
  · split at h
    · exact (hA.fail _ h).elim
    · rename_i hb
      have hb := ieq_false hb
      simpa [binOp, Op.intDiv, hb] using Good.int (kd := kd) hR h
  · split at h
    · rename_i r hr
      cases hr
      simpa [binOp, Op.intBits] using Good.int (kd := kd) hR h
    · exact (hA.fail _ h).elim
  · split at h
    · rename_i r hr
      cases hr
      simpa [binOp, Op.intBits] using Good.int (kd := kd) hR h
    · exact (hA.fail _ h).elim
  · split at h
    · rename_i r hr
      cases hr
      simpa [binOp, Op.intBits] using Good.int (kd := kd) hR h
    · exact (hA.fail _ h).elim
  · obtain ⟨kd', a', b', s1, c, e1, e2, hrun, hb, r, hy, h1⟩ := cmp_ok hA hR (show VR E (.int kd a) (.int kd a) from rfl) (show VR E (.int kd b) (.int kd b) from rfl) h
    cases e1; cases e2
    rw [hb, hrun]
    exact Good.bool hR r hy h1

/-! ### atoms -/
theorem aiOf_ok {v : AV} {x : Value} {a : AI} (hv : VR E v x) (h : aiOf v = some a) : ∃ n, x = .int .i64 n ∧ AIR E a n := by
  unfold aiOf at h
  split at h
  · cases h; exact ⟨_, hv, rfl⟩
  · cases h; obtain ⟨n, e, rfl⟩ := hv; exact ⟨n, rfl, e⟩
  · cases h
theorem AIR.det {a : AI} {n m : Int} (h : AIR E a n) (k : AIR E a m) : n = m := by
  cases a with
  | lit => exact h.trans k.symm
  | «at» i => exact Option.some.inj (h.symm.trans k)
theorem aiEq_ok {a b : AI} (h : aiEq a b = true) : a = b := by
  cases a <;> cases b <;> first | (cases h; done) | skip
  · exact congrArg AI.lit (ieq_true h)
  · exact congrArg AI.at (Nat.eq_of_beq_eq_true h)
theorem mopEq_ok {a b : MOp} (h : mopEq a b = true) : a = b := by cases a <;> cases b <;> first | rfl | cases h
theorem ivAI_ok (hy : SyOk E s.sy) {a : AI} {n lo hi : Int} (ha : AIR E a n) (h : ivAI s a = some (lo, hi)) : lo ≤ n ∧ n ≤ hi := by
  cases a with
  | lit m => cases h; cases ha; exact ⟨Int.le_refl _, Int.le_refl _⟩
  | «at» i =>
    obtain ⟨m, e, h0, h1⟩ := hy.ints i lo hi h
    obtain rfl : n = m := Option.some.inj (ha.symm.trans e)
    exact ⟨h0, h1⟩
theorem and_bounds (x c : Int) (h0 : 0 ≤ c) (h1 : c ≤ 9223372036854775807) :
    0 ≤ IntKind.i64.wrap (BitVec.ofInt 64 x &&& BitVec.ofInt 64 c).toNat ∧ IntKind.i64.wrap (BitVec.ofInt 64 x &&& BitVec.ofInt 64 c).toNat ≤ c := by
  have hmin : IntKind.i64.min = -9223372036854775808 := by decide
  have hmax : IntKind.i64.max = 9223372036854775807 := by decide
  have hc : (BitVec.ofInt 64 c).toNat = c.toNat := by
    rw [BitVec.toNat_ofInt]
    have : c % ((2 ^ 64 : Nat) : Int) = c := Int.emod_eq_of_lt h0 (by simp; omega)
    rw [this]
  have hle : (BitVec.ofInt 64 x &&& BitVec.ofInt 64 c).toNat ≤ c.toNat := by
    rw [BitVec.toNat_and, hc]; exact Nat.and_le_right
  generalize (BitVec.ofInt 64 x &&& BitVec.ofInt 64 c).toNat = m at *
  rw [wrap_in (by rw [hmin]; omega) (by rw [hmax]; omega)]
  omega
theorem ivOp_ok {op : MOp} {a b c d lo hi x y : Int} (h : ivOp op a b c d = some (lo, hi)) (hx : a ≤ x ∧ x ≤ b) (hy : c ≤ y ∧ y ≤ d) : (lo ≤ mopI op x y ∧ mopI op x y ≤ hi) ∧ (op = .rem → y ≠ 0) := by
  have hmin : IntKind.i64.min = -9223372036854775808 := by decide
  have hmax : IntKind.i64.max = 9223372036854775807 := by decide
  unfold ivOp at h
  split at h
  · refine ⟨?_, fun e => by cases e⟩
    split at h
    · cases h
    · rename_i h1
      split at h
      · cases h
      · rename_i h2
        have h1 := ilt_false h1
        have h2 := ilt_false h2
        unfold loMin at h1
        unfold hiMax at h2
        cases h
        simp only [mopI]
        rw [wrap_in (by rw [hmin]; omega) (by rw [hmax]; omega)]
        omega
  · refine ⟨?_, fun e => by cases e⟩
    split at h
    · cases h
    · rename_i h1
      split at h
      · cases h
      · rename_i h2
        have h1 := ilt_false h1
        have h2 := ilt_false h2
        unfold loMin at h1
        unfold hiMax at h2
        cases h
        simp only [mopI]
        rw [wrap_in (by rw [hmin]; omega) (by rw [hmax]; omega)]
        omega
  · split at h
    · cases h
    · rename_i hcd
      have hcd := ieq_true hcd
      split at h
      · cases h
      · rename_i hc
        have hc := ilt_true hc
        obtain rfl : y = c := by omega
        refine ⟨?_, fun _ => by omega⟩
        simp only [mopI]
        have t1 := Int.tmod_lt_of_pos x hc
        have t2 := Int.lt_tmod_of_pos x hc
        split at h
        · cases h; omega
        · rename_i ha
          have ha := ilt_false ha
          cases h
          have := Int.tmod_nonneg y (show 0 ≤ x by omega)
          omega
  · refine ⟨?_, fun e => by cases e⟩
    split at h
    · cases h
    · rename_i hcd
      have hcd := ieq_true hcd
      split at h
      · cases h
      · rename_i hc
        have hc := ilt_false hc
        split at h
        · cases h
        · rename_i hc2
          have hc2 := ilt_false hc2
          unfold hiMax at hc2
          cases h
          obtain rfl : y = c := by omega
          exact and_bounds x y hc hc2
def Env.addI (E : Env) (i : Nat) (n : Int) : Env := { E with σ := fun x => if x = i then some n else E.σ x }
theorem Ext.addI {i : Nat} (h : E.σ i = none) (n : Int) : Ext E (E.addI i n) := by
  refine ⟨fun _ _ h => h, fun x p e => ?_, rfl⟩
  show (if x = i then some n else E.σ x) = some p
  rw [if_neg]
  · exact e
  · rintro rfl; rw [h] at e; cases e
theorem mop_run {op : BinOp} {m : MOp} (h : mopOf op = some m) {t : Nat} {a b : Int} (hb : m = .rem → b ≠ 0) (w : World) : (binOp op t (.int .i64 a) (.int .i64 b)).run P w = .ok (.int .i64 (mopI m a b)) w := by
  unfold mopOf at h
  split at h <;> cases h
  · simp [binOp, Op.intArith, mopI]
  · simp [binOp, Op.intArith, mopI]
  · simp [binOp, Op.intDiv, mopI, hb rfl]
  · rfl
theorem symFresh_ok (hA : Lawful A Pr) (hR : Rel P E s w) {op : BinOp} {m : MOp} (hop : mopOf op = some m) {t : Nat} {x y : AI} {a b : Int} (hx : AIR E x a) (hy : AIR E y b) (h : Pr (symFresh A s m x y k)) :
    Good P E s w ((binOp op t (.int .i64 a) (.int .i64 b)).run P w) fun v s' => Pr (k v s') := by
  unfold symFresh at h
  split at h
  · exact (hA.fail _ h).elim
  · rename_i p q hpq
    split at h
    · exact (hA.fail _ h).elim
    · rename_i c d hcd
      split at h
      · exact (hA.fail _ h).elim
      · rename_i lo hi hiv
        have bx := ivAI_ok hR.sy hx hpq
        have by_ := ivAI_ok hR.sy hy hcd
        obtain ⟨hb', hb⟩ := ivOp_ok hiv bx by_
        rw [mop_run hop hb]
        obtain ⟨hp, nx, ms, ⟨ni, is, mm, ss⟩⟩ := s
        have hf : E.σ ni = none := hR.sy.fresh ni (Nat.le_refl _)
        have ext := Ext.addI hf (mopI m a b)
        have hσ : (E.addI ni (mopI m a b)).σ ni = some (mopI m a b) := by simp [Env.addI]
        have am : ∀ {q : AI} {n : Int}, AIR E q n → AIR (E.addI ni (mopI m a b)) q n := fun {q n} hq => by
          cases q with
          | lit => exact hq
          | «at» i => exact ext.σ _ _ hq
        refine ⟨.sym ni, ⟨hp, nx, ms, ⟨ni + 1, is.set (some (lo, hi)) (pathOf ni), ⟨m, x, y, ni⟩ :: mm, ss⟩⟩, E.addI ni (mopI m a b), _, w, rfl, ⟨_, hσ, rfl⟩, ⟨?_, ?_, hR.fresh, hR.glob, hR.next, ⟨?_, ?_, ?_, hR.sy.known, hR.sy.excl⟩⟩, ⟨ext, rfl, Nat.le_refl _, fun _ _ => rfl, rfl, rfl, rfl, Nat.le_refl _, fun _ _ _ => rfl, fun b o r c h1 h2 h3 _ => ⟨b, o, c, h1, h2, h3⟩⟩, h⟩
        · intro b o hb
          obtain ⟨r, c, e, hO⟩ := hR.heap b o hb
          exact ⟨r, c, e, hO.mono ext⟩
        · intro b b' o o' r c c' h1 h2 e1 e2
          exact hR.inj b b' o o' r c c' h1 h2 e1 e2
        · intro i hi
          have hi' : ni + 1 ≤ i := hi
          show (if i = ni then some (mopI m a b) else E.σ i) = none
          rw [if_neg (by omega)]; exact hR.sy.fresh i (by show ni ≤ i; omega)
        · intro i lo' hi' hg
          have hg' : Tr.get (pathOf i) (Tr.set (some (lo, hi)) (pathOf ni) is) = some (lo', hi') := hg
          rw [Tr.get_set_of] at hg'
          by_cases e : ni = i
          · subst e; rw [if_pos rfl] at hg'; cases hg'; exact ⟨_, hσ, hb'⟩
          · rw [if_neg e] at hg'
            obtain ⟨n, e1, e2⟩ := hR.sy.ints i lo' hi' hg'
            exact ⟨n, ext.σ _ _ e1, e2⟩
        · intro q hq
          have hq' : q ∈ (⟨m, x, y, ni⟩ : Memo) :: mm := hq
          rcases List.mem_cons.1 hq' with rfl | hq'
          · exact ⟨a, b, am hx, am hy, hσ, hb⟩
          · obtain ⟨a', b', h1, h2, h3, h4⟩ := hR.sy.memo q hq'
            exact ⟨a', b', am h1, am h2, ext.σ _ _ h3, h4⟩
theorem memoHit_ok {m : Memo} {op : MOp} {x y : AI} (h : memoHit m op x y = true) : m.op = op ∧ m.x = x ∧ m.y = y := by
  unfold memoHit at h
  split at h
  · cases h
  · rename_i h1
    split at h
    · cases h
    · rename_i h2; exact ⟨mopEq_ok h1, aiEq_ok h2, aiEq_ok h⟩
theorem symOp_ok (hA : Lawful A Pr) (hR : Rel P E s w) {op : BinOp} {m : MOp} (hop : mopOf op = some m) {t : Nat} {x y : AI} {a b : Int} (hx : AIR E x a) (hy : AIR E y b) (h : Pr (symOp A s m x y k)) :
    Good P E s w ((binOp op t (.int .i64 a) (.int .i64 b)).run P w) fun v s' => Pr (k v s') := by
  have key : ∀ (l : List Memo), (∀ q ∈ l, q ∈ s.sy.memo) → Pr (lrec (symFresh A s m x y k) (fun q _ ih => match memoHit q m x y with | true => k (.sym q.r) s | false => ih) l) →
      Good P E s w ((binOp op t (.int .i64 a) (.int .i64 b)).run P w) fun v s' => Pr (k v s') := by
    intro l
    induction l with
    | nil => intro _ h; exact symFresh_ok hA hR hop hx hy h
    | cons q l ih =>
      intro hl h
      have h' : Pr (match memoHit q m x y with | true => k (.sym q.r) s | false => lrec (symFresh A s m x y k) (fun q _ ih => match memoHit q m x y with | true => k (.sym q.r) s | false => ih) l) := h
      split at h'
      · rename_i hm
        obtain ⟨e1, e2, e3⟩ := memoHit_ok hm
        obtain ⟨a', b', h1, h2, h3, h4⟩ := hR.sy.memo q (hl q List.mem_cons_self)
        rw [e2] at h1
        rw [e3] at h2
        rw [e1] at h3 h4
        obtain rfl := h1.det hx
        obtain rfl := h2.det hy
        rw [mop_run hop h4]
        exact Good.pure hR (show VR E (.sym q.r) (.int .i64 (mopI m a' b')) from ⟨_, h3, rfl⟩) h'
      · exact ih (fun p hp => hl p (List.mem_cons_of_mem _ hp)) h'
  exact key _ (fun _ h => h) h
end
end Go.Proofs.YtlnfollgpbcafaaGreatDoor.Xq
