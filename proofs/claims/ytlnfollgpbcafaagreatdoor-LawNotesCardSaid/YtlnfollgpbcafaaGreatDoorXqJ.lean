import Derived.Test.YtlnfollgpbcafaaGreatDoorXqI
set_option autoImplicit false
set_option linter.unusedVariables false
/-! The operations, one by one: places, slices, lengths. -/
namespace Go.Proofs.YtlnfollgpbcafaaGreatDoor.Xq
open Go

section
variable {P : Program} {E : Env} {s : St} {w : World} {R : Type} {A : Ans R} {Pr : R → Prop} {k : KV R}

/-! ### places -/
/-- the address of an element, if the index lies within -/
theorem elemA_ok (hA : Lawful A Pr) (hR : Rel P E s w) {b off n es r c : Nat} {i : AV} {x : Value} (hr : E.ρ b = some (r, c)) (hi : VR E i x) (h : Pr (elemA A b off n es i s k)) :
    ∃ kd m v, x = .int kd m ∧ 0 ≤ m ∧ m < (n : Int) ∧ VR E v (.pointer (some ⟨r, off + m.toNat * es, none⟩)) ∧ Pr (k v s) := by
  unfold elemA at h
  split at h
  · rename_i kd j
    split at h
    · rename_i hle
      have hle := ble_iff.1 hle
      cases hi
      exact ⟨kd, _, _, rfl, by simp, by simp; omega, (show VR E (.ptr b (off + j * es)) _ from ⟨r, c, hr, by simp⟩), h⟩
    · exact (hA.fail _ h).elim
  · rename_i j
    split at h
    · rename_i lo hi' hiv
      split at h
      · exact (hA.fail _ h).elim
      · rename_i h0
        split at h
        · rename_i h1
          obtain ⟨m, e, rfl⟩ := hi
          obtain ⟨m', e', hlo, hhi⟩ := hR.sy.ints j _ _ hiv
          obtain rfl : m = m' := Option.some.inj (e.symm.trans e')
          have h0 := ilt_false h0
          have h1 := ilt_true h1
          refine ⟨.i64, m, _, rfl, by omega, by simp at h1; omega, (show VR E (.ptrI b off j es) _ from ⟨r, c, m, hr, e, by omega, rfl⟩), h⟩
        · exact (hA.fail _ h).elim
    · exact (hA.fail _ h).elim
  · exact (hA.fail _ h).elim
theorem indexAt_slice {t e es : Nat} (hu : P.underlying t = some (.slice e)) (hs : szOf P e = some es) {r off len cap : Nat} {kd : IntKind} {m : Int} (h0 : 0 ≤ m) (h1 : m < (len : Int)) :
    (Instr.indexAt t (.slice (some ⟨r, off, none⟩) len cap) (.int kd m)).run P w = .ok (.pointer (some ⟨r, off + m.toNat * es, none⟩)) w := by
  simp [Instr.indexAt, asIntOf, run_underlying hu, h0, h1, szOf_run hs, Addr_add]
theorem indexAt_array {t e es n : Nat} (hu : P.underlying t = some (.array n e)) (hs : szOf P e = some es) {r off : Nat} {kd : IntKind} {m : Int} (h0 : 0 ≤ m) (h1 : m < (n : Int)) :
    (Instr.indexAt t (.pointer (some ⟨r, off, none⟩)) (.int kd m)).run P w = .ok (.pointer (some ⟨r, off + m.toNat * es, none⟩)) w := by
  simp [Instr.indexAt, asIntOf, run_underlying hu, h0, h1, szOf_run hs, Addr_add, Instr.sureAddr]
theorem indexAddr_ok (hA : Lawful A Pr) (hR : Rel P E s w) {t : Nat} {x i : AV} {vx vi : Value} (hx : VR E x vx) (hi : VR E i vi) (h : Pr (indexAddrA P A t x i s k)) :
    Good P E s w ((Instr.indexAt t vx vi).run P w) fun v s' => Pr (k v s') := by
  unfold indexAddrA at h
  split at h
  · obtain ⟨r, c, hr, rfl⟩ := hx
    split at h
    · rename_i e he
      split at h
      · rename_i es hes
        obtain ⟨kd, m, v, rfl, h0, h1, hv, hk⟩ := elemA_ok hA hR hr hi h
        rw [indexAt_slice (sliceElem_some he) hes h0 h1]
        exact Good.pure hR hv hk
      · exact (hA.fail _ h).elim
    · exact (hA.fail _ h).elim
  · obtain ⟨r, c, cap, hr, _, _, _, rfl⟩ := hx
    split at h
    · rename_i e he
      split at h
      · rename_i es hes
        split at h
        · exact (hA.fail _ h).elim
        · obtain ⟨kd, m, v, rfl, h0, h1, hv, hk⟩ := elemA_ok hA hR hr hi h
          rw [indexAt_slice (sliceElem_some he) hes h0 h1]
          exact Good.pure hR hv hk
      · exact (hA.fail _ h).elim
    · exact (hA.fail _ h).elim
  · rename_i b off
    obtain ⟨r, c, hr, rfl⟩ := hx
    split at h
    · rename_i n e he
      split at h
      · split at h
        · rename_i es hes
          obtain ⟨kd, m, v, rfl, h0, h1, hv, hk⟩ := elemA_ok hA hR hr hi h
          rw [indexAt_array (arrOf_some he) hes h0 h1]
          exact Good.pure hR hv hk
        · exact (hA.fail _ h).elim
      · split at h
        · rename_i es _ j hes
          split at h
          · rename_i hle
            have hle := ble_iff.1 hle
            cases hi
            rw [indexAt_array (arrOf_some he) hes (by simp) (by simp; omega)]
            exact Good.pure hR (show VR E (.ptr b (off + j * es)) _ from ⟨r, c, hr, by simp⟩) h
          · exact (hA.fail _ h).elim
        · exact (hA.fail _ h).elim
    · exact (hA.fail _ h).elim
  · exact (hA.fail _ h).elim
theorem fieldOff_run {t i f : Nat} (h : fieldOff P t i = some f) (r off : Nat) (w : World) :
    (Instr.fieldAt t (.pointer (some ⟨r, off, none⟩)) i).run P w = .ok (.pointer (some ⟨r, off + f, none⟩)) w := by
  unfold fieldOff at h
  split at h
  · rename_i g hg
    split at h
    · rename_i n hn
      cases h
      obtain ⟨fs, fd, hu, hfd, ht, ho⟩ := fieldOf_some hg
      rw [← ht] at hn
      simp [Instr.fieldAt, run_underlying hu, hfd, Instr.sureAddr, fieldPlace, szOf_run hn, Addr_add, ho]
    · cases h
  · cases h
theorem fieldAddr_ok (hA : Lawful A Pr) (hR : Rel P E s w) {t i : Nat} {x : AV} {vx : Value} (hx : VR E x vx) (h : Pr (match (generalizing := false) x with
    | .ptr b off => match fieldOff P t i with | some f => k (.ptr b (off + f)) s | none => A.fail "fieldAddr"
    | .ptrI b off j es => match fieldOff P t i with | some f => k (.ptrI b (off + f) j es) s | none => A.fail "fieldAddr"
    | _ => A.fail "fieldAddr")) :
    Good P E s w ((Instr.fieldAt t vx i).run P w) fun v s' => Pr (k v s') := by
  cases x <;> try exact (hA.fail _ h).elim
  case ptr b off =>
    dsimp only at h
    obtain ⟨r, c, hr, rfl⟩ := hx
    split at h
    · rename_i f hf
      rw [fieldOff_run hf]
      exact Good.pure hR (show VR E (.ptr b (off + f)) _ from ⟨r, c, hr, rfl⟩) h
    · exact (hA.fail _ h).elim
  case ptrI b off j es =>
    dsimp only at h
    obtain ⟨r, c, n, hr, hn, h0, rfl⟩ := hx
    split at h
    · rename_i f hf
      rw [fieldOff_run hf]
      refine Good.pure hR (show VR E (.ptrI b (off + f) j es) _ from ⟨r, c, n, hr, hn, h0, ?_⟩) h
      rw [show off + n.toNat * es + f = off + f + n.toNat * es by omega]
    · exact (hA.fail _ h).elim
theorem field_ok (hA : Lawful A Pr) (hR : Rel P E s w) {t i : Nat} {x : AV} {vx : Value} (hx : VR E x vx) (h : Pr (match (generalizing := false) x with
    | .agg cs => match fieldOf P t i with
      | some f => partA P A f.1 cs f.2 fun v => k v s
      | none => A.fail "field"
    | _ => A.fail "field")) :
    Good P E s w ((Instr.field t vx i).run P w) fun v s' => Pr (k v s') := by
  cases x <;> try exact (hA.fail _ h).elim
  case agg l =>
    dsimp only at h
    obtain ⟨vs, rfl, hl⟩ := hx
    split at h
    · rename_i f hf
      obtain ⟨fs, fd, hu, hfd, ht, ho⟩ := fieldOf_some hf
      obtain ⟨v, y, hrun, hv, hk⟩ := part_ok (w := w) hA hl h
      have : (Instr.field t (.agg vs) i).run P w = .ok y w := by
        simp [Instr.field, run_underlying hu, hfd, asAgg, ht, ho, hrun]
      rw [this]; exact Good.pure hR hv hk
    · exact (hA.fail _ h).elim
theorem getN_good (hA : Lawful A Pr) (hR : Rel P E s w) {v : AV} {x : Value} {f : Nat → St → R} (hv : VR E v x) (h : Pr (getN A s v f)) :
    ∃ kd n s', x = .int kd (n : Nat) ∧ Refn s s' ∧ Rel P E s' w ∧ Pr (f n s') := by
  obtain ⟨kd, n, s1, e, r, hy, h1⟩ := getN_ok hA hv hR.sy h
  exact ⟨kd, n, s1, e, r, hR.refn r hy, h1⟩
theorem index_ok (hA : Lawful A Pr) (hR : Rel P E s w) {t : Nat} {x i : AV} {vx vi : Value} (hx : VR E x vx) (hi : VR E i vi) (h : Pr (indexA P A t x i s k)) :
    Good P E s w ((Instr.index t vx vi).run P w) fun v s' => Pr (k v s') := by
  unfold indexA at h
  split at h
  · rename_i l n
    obtain ⟨a, rfl, rfl, rfl⟩ := hx
    split at h
    · rename_i ht
      have hu := tk_string ht
      obtain ⟨kd, m, s1, rfl, r, hR1, h1⟩ := getN_good hA hR hi h
      split at h1
      · rename_i hle
        have hle := ble_iff.1 hle
        have hlt : m < a.size := by have : a.size = a.data.toList.length := by simp
                                    omega
        have hrun : (Instr.index t (.string a) (.int kd (m : Nat))).run P w = .ok (.int .u8 (a[m].toNat : Nat)) w := by
          have hg : a[m]? = some a[m] := by simp [hlt]
          simp [Instr.index, asIntOf, run_underlying hu, hg]
        rw [hrun]
        refine Good.refn r (Good.int hR1 (kd := .u8) ?_)
        have hm : m < a.data.toList.length := by omega
        have hget := num_get a.data.toList m hm
        have e : a[m] = a.data.toList[m] := by simp [ByteArray.getElem_eq_getElem_data]
        rw [e, hget]
        exact h1
      · exact (hA.fail _ h1).elim
    · exact (hA.fail _ h).elim
  · obtain ⟨vs, rfl, hl⟩ := hx
    split at h
    · rename_i n e he
      have hu := arrOf_some he
      split at h
      · rename_i es hes
        obtain ⟨kd, m, s1, rfl, r, hR1, h1⟩ := getN_good hA hR hi h
        split at h1
        · rename_i hle
          have hle := ble_iff.1 hle
          obtain ⟨v, y, hrun, hv, hk⟩ := part_ok (w := w) hA hl h1
          have : (Instr.index t (.agg vs) (.int kd (m : Nat))).run P w = .ok y w := by
            have h2 : m < n := by omega
            simp [Instr.index, asIntOf, run_underlying hu, h2, szOf_run hes, hrun]
          rw [this]
          exact Good.refn r (Good.pure hR1 hv hk)
        · exact (hA.fail _ h1).elim
      · exact (hA.fail _ h).elim
    · exact (hA.fail _ h).elim
  · exact (hA.fail _ h).elim

/-! ### lengths, min, max, conversions -/
theorem lenS_ok {x : AV} {vx : Value} {n : Nat} (hx : VR E x vx) (h : lenS x = some n) : ∃ a c, vx = .slice a n c := by
  unfold lenS at h
  split at h
  · cases h; cases hx; exact ⟨_, _, rfl⟩
  · cases h; obtain ⟨r, c, _, rfl⟩ := hx; exact ⟨_, _, rfl⟩
  · cases h; obtain ⟨r, c, cap, _, _, _, _, rfl⟩ := hx; exact ⟨_, _, rfl⟩
  · cases h
theorem MR.length : ∀ {l : List (AV × AV)} {es : List MapEntry}, MR E l es → l.length = es.length
  | [], _, h => by simp only [MR] at h; subst h; rfl
  | _ :: _, _, ⟨e, r, q, _, _, k⟩ => by subst q; simp [MR.length k]
theorem len_ok (hA : Lawful A Pr) (hR : Rel P E s w) {t ty : Nat} {ts : List Nat} {x : AV} {vx : Value} (hx : VR E x vx) (h : Pr (lenA P A t s x k)) :
    Good P E s w ((Builtin.len_ (t :: ts).toArray ty #[vx]).run P w) fun v s' => Pr (k v s') := by
  unfold lenA at h
  split at h
  · rename_i ht
    have hu := tk_string ht
    split at h
    · rename_i l n
      obtain ⟨a, rfl, rfl, rfl⟩ := hx
      have : (Builtin.len_ (t :: ts).toArray ty #[.string a]).run P w = .ok (.int .i64 (.ofNat a.data.toList.length)) w := by
        simp [Builtin.len_, run_underlying hu, goInt]
      rw [this]; exact Good.int hR h
    · rename_i i j
      obtain ⟨rfl, hj⟩ := hx
      have : (Builtin.len_ (t :: ts).toArray ty #[.string (E.ς i)]).run P w = .ok (.int .i64 ((E.ς i).size : Int)) w := by
        simp [Builtin.len_, run_underlying hu, goInt]
      rw [this]; exact Good.pure hR (show VR E (.sym j) _ from ⟨_, hj, rfl⟩) h
    · exact (hA.fail _ h).elim
  · rename_i ht
    obtain ⟨e, hu⟩ := tk_slice ht
    split at h
    · rename_i n hn
      obtain ⟨a, c, rfl⟩ := lenS_ok hx hn
      have : (Builtin.len_ (t :: ts).toArray ty #[.slice a n c]).run P w = .ok (.int .i64 (.ofNat n)) w := by
        simp [Builtin.len_, run_underlying hu, goInt]
      rw [this]; exact Good.int hR h
    · exact (hA.fail _ h).elim
  · rename_i ht
    split at h
    · rename_i n e he
      have hu := arrOf_some he
      have : (Builtin.len_ (t :: ts).toArray ty #[vx]).run P w = .ok (.int .i64 (.ofNat n)) w := by
        simp [Builtin.len_, run_underlying hu, goInt]
      rw [this]; exact Good.int hR h
    · exact (hA.fail _ h).elim
  · rename_i str e ht
    obtain ⟨kt, hu, _⟩ := tk_map ht
    split at h
    · cases hx
      have : (Builtin.len_ (t :: ts).toArray ty #[.map none]).run P w = .ok (.int .i64 (.ofNat 0)) w := by
        simp [Builtin.len_, run_underlying hu, goInt]
      rw [this]; exact Good.int hR h
    · obtain ⟨r, c, hr, rfl⟩ := hx
      split at h
      · rename_i es hb
        obtain ⟨r', c', e', ms, clock, hw, hm⟩ := hR.heap _ _ hb
        rw [hr] at e'; cases e'
        have : (Builtin.len_ (t :: ts).toArray ty #[.map (some r)]).run P w = .ok (.int .i64 (.ofNat ms.size)) w := by
          simp [Builtin.len_, run_underlying hu, goInt, getObj, Sem.run, hw]
        rw [this]
        rw [lenL_eq, hm.length] at h
        exact Good.int hR (by simpa using h)
      · exact (hA.fail _ h).elim
    · exact (hA.fail _ h).elim
  · exact (hA.fail _ h).elim
theorem mm_ok (hA : Lawful A Pr) (hR : Rel P E s w) {mx : Bool} {ts : Array Nat} {ty : Nat} {x y : AV} {vx vy : Value} (hx : VR E x vx) (hy : VR E y vy) (h : Pr (mmA A mx x y s k)) :
    Good P E s w (((if mx then Builtin.max_ ts ty #[vx, vy] else Builtin.min_ ts ty #[vx, vy]) : Sem Value).run P w) fun v s' => Pr (k v s') := by
  unfold mmA at h
  split at h
  · rename_i kd a kd' b
    cases hx; cases hy
    cases mx
    · dsimp only at h
      have : (Builtin.min_ ts ty #[.int kd a, .int kd' b]).run P w = .ok (.int kd (if b < a then b else a)) w := by
        simp [Builtin.min_, Builtin.min2]
      rw [if_neg (by decide), this]
      rw [ilt_iff] at h
      by_cases q : b < a
      · rw [if_pos q]; rw [decide_eq_true q] at h; exact Good.int hR h
      · rw [if_neg q]; rw [decide_eq_false q] at h; exact Good.int hR h
    · dsimp only at h
      have : (Builtin.max_ ts ty #[.int kd a, .int kd' b]).run P w = .ok (.int kd (if b > a then b else a)) w := by
        simp [Builtin.max_, Builtin.max2]
      rw [if_pos rfl, this]
      rw [ilt_iff] at h
      by_cases q : a < b
      · rw [if_pos q]; rw [decide_eq_true q] at h; exact Good.int hR h
      · rw [if_neg q]; rw [decide_eq_false q] at h; exact Good.int hR h
  · exact (hA.fail _ h).elim
theorem convert_ok (hA : Lawful A Pr) (hR : Rel P E s w) {src dst : Nat} {x : AV} {vx : Value} (hx : VR E x vx) (h : Pr (convertA P A src dst x s k)) :
    Good P E s w ((convert src dst vx).run P w) fun v s' => Pr (k v s') := by
  unfold convertA at h
  split at h
  · rename_i k0 n
    cases hx
    split at h
    · rename_i k1 h1
      split at h
      · rename_i kd h2
        have hu1 := tk_int h1
        have hu2 := tk_int h2
        rw [wrapF_eq] at h
        have : (convert src dst (.int k0 n)).run P w = .ok (.int kd (kd.wrap n)) w := by
          simp [convert, run_underlying hu1, run_underlying hu2, Conv.intToInt]
        rw [this]; exact Good.int hR h
      · exact (hA.fail _ h).elim
    · exact (hA.fail _ h).elim
  · split at h
    · rename_i h1
      split at h
      · rename_i h2
        have hu1 := tk_string h1
        have hu2 := tk_string h2
        have hx' := hx
        obtain ⟨a, rfl, _, _⟩ := hx
        have : (convert src dst (.string a)).run P w = .ok (.string a) w := by
          simp [convert, run_underlying hu1, run_underlying hu2]
        rw [this]; exact Good.pure hR hx' h
      · exact (hA.fail _ h).elim
    · exact (hA.fail _ h).elim
  · exact (hA.fail _ h).elim
theorem un_ok (hA : Lawful A Pr) (hR : Rel P E s w) {op : UnOp} {x : AV} {vx : Value} (hx : VR E x vx) (h : Pr (unA A op x s k)) :
    Good P E s w ((Op.unary op vx).run P w) fun v s' => Pr (k v s') := by
  unfold unA at h
  split at h
  · split at h
    · cases hx
      rw [bnot_eq] at h
      exact Good.bool hR (Refn.refl s) hR.sy h
    · exact (hA.fail _ h).elim
  · split at h
    · cases hx
      rw [wrapF_eq] at h
      exact Good.int hR h
    · exact (hA.fail _ h).elim
  · exact (hA.fail _ h).elim
end
end Go.Proofs.YtlnfollgpbcafaaGreatDoor.Xq
