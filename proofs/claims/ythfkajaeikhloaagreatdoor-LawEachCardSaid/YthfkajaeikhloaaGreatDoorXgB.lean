/- The executor of this claim, and its proof: a part. -/
import Derived.Test.YthfkajaeikhloaaGreatDoorXgA
import Derived.Laws.StructEq
import Derived.Laws.AppendOwn
import Derived.RangeFuncRecord
set_option autoImplicit false
set_option linter.unusedVariables false
/-! The operations, one by one: strings, equality. -/
namespace Go.Proofs.YthfkajaeikhloaaGreatDoor.Xq
open Go

section
variable {P : Program} {E : Env} {s : St} {w : World} {R : Type} {A : Ans R} {Pr : R → Prop} {k : KV R}

theorem bytesLess_num : ∀ (a b : List UInt8), Op.bytesLess a b = strLt a.length (num a 0) b.length (num b 0) := by
  have lt : ∀ (x y : UInt8), decide (x < y) = decide (x.toNat < y.toNat) := fun x y => by simp [UInt8.lt_iff_toNat_lt]
  intro a
  induction a with
  | nil =>
    intro b
    cases b with
    | nil => rfl
    | cons y b =>
      show true = strLt 0 0 (b.length + 1) (num (y :: b) 0)
      unfold strLt
      have c1 : Nat.ble 0 (b.length + 1) = true := ble_iff.2 (by omega)
      have c2 : Nat.beq 0 (b.length + 1) = false := rfl
      simp only [c1, c2]
      exact (ble_iff.2 (Nat.zero_le _)).symm
  | cons x a ih =>
    intro b
    cases b with
    | nil =>
      have : num (x :: a) 0 / 256 ^ (a.length + 1 - 0) = 0 := Nat.div_eq_of_lt (by simpa using num_lt (x :: a))
      show false = strLt (a.length + 1) (num (x :: a) 0) 0 0
      unfold strLt
      have c1 : Nat.ble (a.length + 1) 0 = false := rfl
      simp only [c1, this]
      rfl
    | cons y b =>
      have e : Op.bytesLess (x :: a) (y :: b) = (x < y || (x == y && Op.bytesLess a b)) := rfl
      rw [e, ih b]
      have ha := num_lt a
      have hb := num_lt b
      simp only [List.length_cons, num_cons0]
      generalize num a 0 = p at *
      generalize num b 0 = q at *
      generalize a.length = l at *
      generalize b.length = m at *
      have hxy : (x == y) = decide (x.toNat = y.toNat) := by
        rw [Bool.eq_iff_iff, beq_iff_eq, decide_eq_true_iff]; exact UInt8.toNat_inj.symm
      rw [lt x y, hxy]
      generalize x.toNat = u at *
      generalize y.toNat = v at *
      unfold strLt
      have pl : 0 < 256 ^ l := Nat.pow_pos (by decide)
      have pm : 0 < 256 ^ m := Nat.pow_pos (by decide)
      rw [Bool.eq_iff_iff]
      by_cases hlm : l ≤ m
      · have c1 : Nat.ble (l + 1) (m + 1) = true := ble_iff.2 (by omega)
        have c2 : Nat.ble l m = true := ble_iff.2 hlm
        simp only [c1, c2]
        by_cases he : l = m
        · subst he
          have c3 : Nat.beq (l + 1) (l + 1) = true := by simp
          have c4 : Nat.beq l l = true := by simp
          simp only [c3, c4, ble_iff, Bool.or_eq_true, Bool.and_eq_true, decide_eq_true_iff]
          constructor
          · rintro (h | ⟨rfl, h⟩)
            · calc u * 256 ^ l + p + 1 ≤ (u + 1) * 256 ^ l := by rw [Nat.add_mul, Nat.one_mul]; omega
                _ ≤ v * 256 ^ l := Nat.mul_le_mul_right _ h
                _ ≤ v * 256 ^ l + q := Nat.le_add_right _ _
            · omega
          · intro h
            by_cases huv : u < v
            · exact .inl huv
            · by_cases hvu : v < u
              · exfalso
                have : (v + 1) * 256 ^ l ≤ u * 256 ^ l := Nat.mul_le_mul_right _ hvu
                rw [Nat.add_mul, Nat.one_mul] at this
                omega
              · obtain rfl : u = v := by omega
                exact .inr ⟨rfl, by omega⟩
        · have c3 : Nat.beq (l + 1) (m + 1) = false := by
            cases h : Nat.beq (l + 1) (m + 1)
            · rfl
            · have := Nat.eq_of_beq_eq_true h; omega
          have c4 : Nat.beq l m = false := by
            cases h : Nat.beq l m
            · rfl
            · have := Nat.eq_of_beq_eq_true h; omega
          simp only [c3, c4, ble_iff, Bool.or_eq_true, Bool.and_eq_true, decide_eq_true_iff]
          have hd : m + 1 - (l + 1) = m - l := by omega
          rw [hd]
          have hm : 256 ^ m = 256 ^ l * 256 ^ (m - l) := by rw [← Nat.pow_add]; congr 1; omega
          have pd : 0 < 256 ^ (m - l) := Nat.pow_pos (by decide)
          have hdiv : (v * 256 ^ m + q) / 256 ^ (m - l) = v * 256 ^ l + q / 256 ^ (m - l) := by
            rw [hm, ← Nat.mul_assoc, Nat.add_comm, Nat.add_mul_div_right _ _ pd, Nat.add_comm]
          rw [hdiv]
          have hq : q / 256 ^ (m - l) < 256 ^ l := by
            rw [Nat.div_lt_iff_lt_mul pd, ← hm]; exact hb
          generalize q / 256 ^ (m - l) = q' at *
          constructor
          · rintro (h | ⟨rfl, h⟩)
            · calc u * 256 ^ l + p ≤ (u + 1) * 256 ^ l := by rw [Nat.add_mul, Nat.one_mul]; omega
                _ ≤ v * 256 ^ l := Nat.mul_le_mul_right _ h
                _ ≤ v * 256 ^ l + q' := Nat.le_add_right _ _
            · omega
          · intro h
            by_cases huv : u < v
            · exact .inl huv
            · by_cases hvu : v < u
              · exfalso
                have : (v + 1) * 256 ^ l ≤ u * 256 ^ l := Nat.mul_le_mul_right _ hvu
                rw [Nat.add_mul, Nat.one_mul] at this
                omega
              · obtain rfl : u = v := by omega
                exact .inr ⟨rfl, by omega⟩
      · have c1 : Nat.ble (l + 1) (m + 1) = false := by
          cases h : Nat.ble (l + 1) (m + 1)
          · rfl
          · have := ble_iff.1 h; omega
        have c2 : Nat.ble l m = false := by
          cases h : Nat.ble l m
          · rfl
          · have := ble_iff.1 h; omega
        simp only [c1, c2, ble_iff, Bool.or_eq_true, Bool.and_eq_true, decide_eq_true_iff]
        have hd : l + 1 - (m + 1) = l - m := by omega
        rw [hd]
        have hl : 256 ^ l = 256 ^ m * 256 ^ (l - m) := by rw [← Nat.pow_add]; congr 1; omega
        have pd : 0 < 256 ^ (l - m) := Nat.pow_pos (by decide)
        have hdiv : (u * 256 ^ l + p) / 256 ^ (l - m) = u * 256 ^ m + p / 256 ^ (l - m) := by
          rw [hl, ← Nat.mul_assoc, Nat.add_comm, Nat.add_mul_div_right _ _ pd, Nat.add_comm]
        rw [hdiv]
        have hp : p / 256 ^ (l - m) < 256 ^ m := by
          rw [Nat.div_lt_iff_lt_mul pd, ← hl]; exact ha
        generalize p / 256 ^ (l - m) = p' at *
        constructor
        · rintro (h | ⟨rfl, h⟩)
          · calc u * 256 ^ m + p' + 1 ≤ (u + 1) * 256 ^ m := by rw [Nat.add_mul, Nat.one_mul]; omega
              _ ≤ v * 256 ^ m := Nat.mul_le_mul_right _ h
              _ ≤ v * 256 ^ m + q := Nat.le_add_right _ _
          · omega
        · intro h
          by_cases huv : u < v
          · exact .inl huv
          · by_cases hvu : v < u
            · exfalso
              have : (v + 1) * 256 ^ m ≤ u * 256 ^ m := Nat.mul_le_mul_right _ hvu
              rw [Nat.add_mul, Nat.one_mul] at this
              omega
            · obtain rfl : u = v := by omega
              exact .inr ⟨rfl, by omega⟩

theorem lt_or_eq (l m : List UInt8) : (Op.bytesLess l m || (l == m)) = !Op.bytesLess m l := by
  induction l generalizing m with
  | nil => cases m <;> rfl
  | cons x l ih =>
    cases m with
    | nil => rfl
    | cons y m =>
      have e1 : Op.bytesLess (x :: l) (y :: m) = (x < y || (x == y && Op.bytesLess l m)) := rfl
      have e2 : Op.bytesLess (y :: m) (x :: l) = (y < x || (y == x && Op.bytesLess m l)) := rfl
      have e3 : ((x :: l) == (y :: m)) = (x == y && (l == m)) := rfl
      rw [e1, e2, e3]
      have := ih m
      rcases Nat.lt_trichotomy x.toNat y.toNat with h | h | h
      · have h1 : x < y := UInt8.lt_iff_toNat_lt.2 h
        have h2 : ¬ y < x := fun q => by have := UInt8.lt_iff_toNat_lt.1 q; omega
        have h3 : (y == x) = false := by rw [beq_eq_false_iff_ne]; rintro rfl; omega
        simp [h1, h2, h3]
      · have h1 : x = y := UInt8.toNat_inj.1 h
        subst h1
        have h2 : ¬ x < x := fun q => by have := UInt8.lt_iff_toNat_lt.1 q; omega
        simp [h2, this]
      · have h1 : y < x := UInt8.lt_iff_toNat_lt.2 h
        have h2 : ¬ x < y := fun q => by have := UInt8.lt_iff_toNat_lt.1 q; omega
        have h3 : (x == y) = false := by rw [beq_eq_false_iff_ne]; rintro rfl; omega
        simp [h1, h2, h3]
theorem str_append (a b : ByteArray) : (a ++ b).data.toList = a.data.toList ++ b.data.toList := by simp [ByteArray.data_append]
theorem strA_ok (hA : Lawful A Pr) (hR : Rel P E s w) {op : BinOp} {t : Nat} {v u : AV} {x y : Value} (hv : VR E v x) (hu : VR E u y) (h : Pr (strA A op s v u k)) :
    ∃ a b, x = .string a ∧ y = .string b ∧ Good P E s w ((binOp op t (.string a) (.string b)).run P w) fun v s' => Pr (k v s') := by
  unfold strA at h
  split at h
  · obtain ⟨a, b, s1, rfl, rfl, r, hy, h1⟩ := eqS_ok hA hv hu hR.sy h
    refine ⟨a, b, rfl, rfl, ?_⟩
    have : (binOp .eql t (.string a) (.string b)).run P w = .ok (.bool (a.data.toList == b.data.toList)) w := by
      rw [binOp_string_eql, ByteArray.toList_eq, ByteArray.toList_eq]; rfl
    rw [this]; exact Good.bool hR r hy h1
  · obtain ⟨a, b, s1, rfl, rfl, r, hy, h1⟩ := eqS_ok hA hv hu hR.sy h
    refine ⟨a, b, rfl, rfl, ?_⟩
    rw [bnot_eq] at h1
    have : (binOp .neq t (.string a) (.string b)).run P w = .ok (.bool (!(a.data.toList == b.data.toList))) w := by
      rw [binOp_string_neq, ByteArray.toList_eq, ByteArray.toList_eq]; rfl
    rw [this]; exact Good.bool hR r hy h1
  · split at h
    · obtain ⟨a, rfl, rfl, rfl⟩ := hv
      obtain ⟨b, rfl, rfl, rfl⟩ := hu
      refine ⟨a, b, rfl, rfl, ?_⟩
      have sz : ∀ c : ByteArray, c.size = c.data.toList.length := fun c => by simp
      split at h
      · split at h
        · rename_i hle
          have hle := ble_iff.1 hle
          have : (binOp .add t (.string a) (.string b)).run P w = .ok (.string (a ++ b)) w := by
            rw [binOp_string_add]
            unfold Op.stringOp
            have hmax : IntKind.i64.max = 9223372036854775807 := by decide
            simp only [hmax]
            rw [if_neg (by have := sz a; have := sz b; omega)]
            rfl
          rw [this]
          refine Good.pure hR (show VR E (.str _ _) (.string (a ++ b)) from ⟨a ++ b, rfl, ?_, ?_⟩) h
          · rw [str_append, List.length_append]
          · rw [str_append, num_app]
        · exact (hA.fail _ h).elim
      · rw [← bytesLess_num] at h
        have : (binOp .lss t (.string a) (.string b)).run P w = .ok (.bool (Op.bytesLess a.data.toList b.data.toList)) w := by
          rw [binOp_string_lss, ByteArray.toList_eq, ByteArray.toList_eq]; rfl
        rw [this]; exact Good.bool hR (Refn.refl s) hR.sy h
      · rw [← bytesLess_num, bnot_eq] at h
        have : (binOp .geq t (.string a) (.string b)).run P w = .ok (.bool (!Op.bytesLess a.data.toList b.data.toList)) w := by
          simp only [binOp, Op.stringOp, ByteArray.toList_eq]; rfl
        rw [this]; exact Good.bool hR (Refn.refl s) hR.sy h
      · rw [← bytesLess_num] at h
        have : (binOp .gtr t (.string a) (.string b)).run P w = .ok (.bool (Op.bytesLess b.data.toList a.data.toList)) w := by
          simp only [binOp, Op.stringOp, ByteArray.toList_eq, lt_or_eq, Bool.not_not]; rfl
        rw [this]; exact Good.bool hR (Refn.refl s) hR.sy h
      · rw [← bytesLess_num, bnot_eq] at h
        have : (binOp .leq t (.string a) (.string b)).run P w = .ok (.bool (!Op.bytesLess b.data.toList a.data.toList)) w := by
          simp only [binOp, Op.stringOp, ByteArray.toList_eq, lt_or_eq]; rfl
        rw [this]; exact Good.bool hR (Refn.refl s) hR.sy h
      · exact (hA.fail _ h).elim
    · exact (hA.fail _ h).elim

/-! ### equality -/
theorem part_ok (hA : Lawful A Pr) {t : Nat} {l : List AV} {cs : Array Value} {off : Nat} {f : AV → R} (hl : VRL E l cs.toList) (h : Pr (partA P A t l off f)) :
    ∃ v x, (part t cs off).run P w = .ok x w ∧ VR E v x ∧ Pr (f v) := by
  unfold partA at h
  split at h
  · rename_i hagg
    rw [nth_eq] at h
    split at h
    · rename_i v hv
      obtain ⟨x, hx, hvx⟩ := hl.get hv
      have hx' : cs[off]? = some x := by simpa using hx
      exact ⟨v, x, by simp [part, (aggOf_run hagg w).1, hx'], hvx, h⟩
    · exact (hA.fail _ h).elim
  · rename_i n hagg
    rw [takeL_eq, dropL_eq] at h
    obtain ⟨h1, h2⟩ := aggOf_run hagg w
    refine ⟨_, .agg (cs.extract off (off + n)), ?_, (show VR E (.agg ((l.drop off).take n)) _ from ⟨_, rfl, ?_⟩), h⟩
    · simp [part, h1, h2 n rfl]
    · have : (cs.extract off (off + n)).toList = (cs.toList.drop off).take n := by
        rw [Array.toList_extract, List.extract_eq_take_drop]
        congr 1
        omega
      rw [this]; exact (hl.drop off).take n
  · exact (hA.fail _ h).elim
theorem eqFld_ok (hA : Lawful A Pr) {fd : Field} {v u : AV} {x y : Value} (d : Nat) {ih : R} {f : Bool → R} (hv : VR E v x) (hu : VR E u y) (h : Pr (eqFldA P A fd v u ih f)) :
    ∃ c, (Op.equalIn (d + 1) fd.type x y).run P w = .ok c w ∧ (c = true → Pr ih) ∧ (c = false → Pr (f false)) := by
  unfold eqFldA at h
  split at h
  · rename_i k a k' b
    split at h
    · rename_i kk ht
      split at h
      · rename_i hk
        obtain rfl := kIdx_eq hk
        cases hv; cases hu
        rw [ieq_beq] at h
        have run := run_equalIn_int w d fd.type k kk a b (tk_int ht)
        cases hc : (a == b) with
        | true => rw [hc] at h run; exact ⟨true, run, fun _ => h, fun q => nomatch q⟩
        | false => rw [hc] at h run; exact ⟨false, run, fun q => (nomatch q), fun _ => h⟩
      · exact (hA.fail _ h).elim
    · exact (hA.fail _ h).elim
  · split at h
    · rename_i ht
      obtain ⟨a, rfl, rfl, rfl⟩ := hv
      obtain ⟨b, rfl, rfl, rfl⟩ := hu
      rw [strEq_iff] at h
      have run := run_equalIn_string w d fd.type a b (tk_string ht)
      rw [ByteArray.toList_eq, ByteArray.toList_eq] at run
      cases hc : (a.data.toList == b.data.toList) with
      | true => rw [hc] at h run; exact ⟨true, run, fun _ => h, fun q => nomatch q⟩
      | false => rw [hc] at h run; exact ⟨false, run, fun q => (nomatch q), fun _ => h⟩
    · exact (hA.fail _ h).elim
  · exact (hA.fail _ h).elim
theorem eqFlds_ok (hA : Lawful A Pr) (d : Nat) {l m : List AV} {xs ys : Array Value} {f : Bool → R} (hl : VRL E l xs.toList) (hm : VRL E m ys.toList) : ∀ (fs : List Field), Pr (eqFldsA P A fs l m f) →
    ∃ c, (Op.eqFields (d + 1) xs ys fs).run P w = .ok c w ∧ Pr (f c)
  | [], h => ⟨true, rfl, h⟩
  | fd :: fs, h => by
    have h : Pr (match fd.name == "_" with
      | true => A.fail "eq blank"
      | false => partA P A fd.type l fd.offset fun x => partA P A fd.type m fd.offset fun y => eqFldA P A fd x y (eqFldsA P A fs l m f) f) := h
    split at h
    · exact (hA.fail _ h).elim
    · rename_i hn
      have hne : fd.name ≠ "_" := by simpa using hn
      obtain ⟨v, x, h1, h2, h3⟩ := part_ok (w := w) hA hl h
      obtain ⟨u, y, k1, k2, k3⟩ := part_ok (w := w) hA hm h3
      obtain ⟨c, e1, e2, e3⟩ := eqFld_ok (w := w) hA d h2 k2 k3
      cases c with
      | false => exact ⟨false, by simp [Op.eqFields, hne, h1, k1, e1], e3 rfl⟩
      | true =>
        obtain ⟨c, g1, g2⟩ := eqFlds_ok hA d hl hm fs (e2 rfl)
        exact ⟨c, by simp [Op.eqFields, hne, h1, k1, e1, g1], g2⟩
theorem eq_run {t : Nat} {x y : Value} {c : Bool} (hd : ∀ d, (Op.equalIn (d + 1) t x y).run P w = .ok c w) : (Op.equal t x y).run P w = .ok c w := hd 9999
theorem eq_run2 {t : Nat} {x y : Value} {c : Bool} (hd : ∀ d, (Op.equalIn (d + 2) t x y).run P w = .ok c w) : (Op.equal t x y).run P w = .ok c w := hd 9998
set_option maxHeartbeats 2000000 in
theorem eqA_ok (hA : Lawful A Pr) {t : Nat} {cst : Bool} {v u : AV} {x y : Value} {f : Bool → R} (hv : VR E v x) (hu : VR E u y) (h : Pr (eqA P A t cst v u f)) :
    ∃ c, (Op.equal t x y).run P w = .ok c w ∧ Pr (f c) ∧ (∀ (op : BinOp) (o1 o2 : Operand), cst = (match isConst o1 with | true => true | false => isConst o2) → (eqGuard op t o1 o2 x y).run P w = .ok () w) ∧
      binOp .eql t x y = (do pure (.bool (← Op.equal t x y))) ∧ binOp .neq t x y = (do pure (.bool (!(← Op.equal t x y)))) := by
  unfold eqA at h
  split at h
  · rename_i a b
    split at h
    · rename_i ht
      cases hv; cases hu
      have hu := tk_bool ht
      refine ⟨a == b, eq_run fun d => ?_, ?_, fun op o1 o2 _ => by unfold eqGuard; cases op <;> rfl, rfl, rfl⟩
      · simp [Op.equalIn, run_underlying hu]
      · cases a <;> cases b <;> exact h
    · exact (hA.fail _ h).elim
  · split at h
    · rename_i ht
      cases hv; cases hu
      obtain ⟨p, r, q, hu⟩ := tk_func ht
      exact ⟨true, eq_run fun d => by simp [Op.equalIn, run_underlying hu], h, fun op o1 o2 _ => by unfold eqGuard; cases op <;> rfl, rfl, rfl⟩
    · exact (hA.fail _ h).elim
  · split at h
    · rename_i ht
      cases hv
      obtain ⟨vs, rfl, _⟩ := hu
      obtain ⟨p, r, q, hu⟩ := tk_func ht
      exact ⟨false, eq_run fun d => by simp [Op.equalIn, run_underlying hu], h, fun op o1 o2 _ => by unfold eqGuard; cases op <;> rfl, rfl, rfl⟩
    · exact (hA.fail _ h).elim
  · split at h
    · rename_i ht
      cases hu
      obtain ⟨vs, rfl, _⟩ := hv
      obtain ⟨p, r, q, hu⟩ := tk_func ht
      exact ⟨false, eq_run fun d => by simp [Op.equalIn, run_underlying hu], h, fun op o1 o2 _ => by unfold eqGuard; cases op <;> rfl, rfl, rfl⟩
    · exact (hA.fail _ h).elim
  · split at h
    · split at h
      · rename_i ht
        cases hv; cases hu
        obtain ⟨ms, hu⟩ := tk_iface ht
        refine ⟨true, eq_run fun d => by simp [Op.equalIn, run_underlying hu], h, fun op o1 o2 ho => ?_, rfl, rfl⟩
        unfold eqGuard
        cases op <;> cases o1 <;> cases o2 <;> first | rfl | (cases ho)
      · exact (hA.fail _ h).elim
    · exact (hA.fail _ h).elim
  · split at h
    · rename_i ht
      cases hv
      obtain ⟨z, rfl, _⟩ := hu
      obtain ⟨ms, hu⟩ := tk_iface ht
      exact ⟨false, eq_run fun d => by simp [Op.equalIn, run_underlying hu], h, fun op o1 o2 _ => by unfold eqGuard; cases op <;> rfl, rfl, rfl⟩
    · exact (hA.fail _ h).elim
  · split at h
    · rename_i ht
      cases hu
      obtain ⟨z, rfl, _⟩ := hv
      obtain ⟨ms, hu⟩ := tk_iface ht
      exact ⟨false, eq_run fun d => by simp [Op.equalIn, run_underlying hu], h, fun op o1 o2 _ => by unfold eqGuard; cases op <;> rfl, rfl, rfl⟩
    · exact (hA.fail _ h).elim
  · rename_i tx b ty b'
    split at h
    · rename_i q1 q2
      split at h
      · rename_i ht hp
        obtain rfl := Nat.eq_of_beq_eq_true q1
        obtain rfl := Nat.eq_of_beq_eq_true q2
        obtain ⟨z, rfl, r, c, e1, rfl⟩ := hv
        obtain ⟨z', rfl, r', c', e2, rfl⟩ := hu
        rw [e1] at e2
        cases e2
        obtain ⟨ms, hu⟩ := tk_iface ht
        unfold ptrOk at hp
        split at hp
        · rename_i i hi
          split at hp
          · rename_i e hcmp hue
            split at hp
            · rename_i m hs
              have hsz : (sizeOf e).run P w = .ok (m + 1) w := by
                unfold szOf at hs
                cases hi : P.info? e with
                | none => rw [hi] at hs; cases hs
                | some i2 =>
                  rw [hi] at hs
                  have hz : i2.size = m + 1 := Option.some.inj hs
                  simp [sizeOf, typeInfo, hi, hz]
              refine ⟨true, eq_run2 fun d => ?_, h, fun op o1 o2 _ => by unfold eqGuard; cases op <;> rfl, rfl, rfl⟩
              simp [Op.equalIn, run_underlying hu, run_underlying hue, typeInfo, hi, hcmp, hsz, sameAddr]
            · cases hp
          · cases hp
        · cases hp
      · exact (hA.fail _ h).elim
    · exact (hA.fail _ h).elim
  · split at h
    · rename_i ht
      cases hv; cases hu
      obtain ⟨e, hu⟩ := tk_pointer ht
      exact ⟨true, eq_run fun d => by simp [Op.equalIn, run_underlying hu], h, fun op o1 o2 _ => by unfold eqGuard; cases op <;> rfl, rfl, rfl⟩
    · exact (hA.fail _ h).elim
  · split at h
    · rename_i ht
      cases hv
      obtain ⟨r, c, _, rfl⟩ := hu
      obtain ⟨e, hu⟩ := tk_pointer ht
      exact ⟨false, eq_run fun d => by simp [Op.equalIn, run_underlying hu], h, fun op o1 o2 _ => by unfold eqGuard; cases op <;> rfl, rfl, rfl⟩
    · exact (hA.fail _ h).elim
  · split at h
    · rename_i ht
      cases hu
      obtain ⟨r, c, _, rfl⟩ := hv
      obtain ⟨e, hu⟩ := tk_pointer ht
      exact ⟨false, eq_run fun d => by simp [Op.equalIn, run_underlying hu], h, fun op o1 o2 _ => by unfold eqGuard; cases op <;> rfl, rfl, rfl⟩
    · exact (hA.fail _ h).elim
  · split at h
    · rename_i ht
      cases hv; cases hu
      obtain ⟨e, hu⟩ := tk_slice ht
      exact ⟨true, eq_run fun d => by simp [Op.equalIn, run_underlying hu], h, fun op o1 o2 _ => by unfold eqGuard; cases op <;> rfl, rfl, rfl⟩
    · exact (hA.fail _ h).elim
  · split at h
    · rename_i ht
      cases hu
      obtain ⟨r, c, _, rfl⟩ := hv
      obtain ⟨e, hu⟩ := tk_slice ht
      exact ⟨false, eq_run fun d => by simp [Op.equalIn, run_underlying hu], h, fun op o1 o2 _ => by unfold eqGuard; cases op <;> rfl, rfl, rfl⟩
    · exact (hA.fail _ h).elim
  · split at h
    · rename_i ht
      cases hu
      obtain ⟨r, c, cap, _, _, _, _, rfl⟩ := hv
      obtain ⟨e, hu⟩ := tk_slice ht
      exact ⟨false, eq_run fun d => by simp [Op.equalIn, run_underlying hu], h, fun op o1 o2 _ => by unfold eqGuard; cases op <;> rfl, rfl, rfl⟩
    · exact (hA.fail _ h).elim
  · split at h
    · rename_i ht
      cases hv
      obtain ⟨r, c, _, rfl⟩ := hu
      obtain ⟨e, hu⟩ := tk_slice ht
      exact ⟨false, eq_run fun d => by simp [Op.equalIn, run_underlying hu], h, fun op o1 o2 _ => by unfold eqGuard; cases op <;> rfl, rfl, rfl⟩
    · exact (hA.fail _ h).elim
  · split at h
    · rename_i ht
      cases hv
      obtain ⟨r, c, cap, _, _, _, _, rfl⟩ := hu
      obtain ⟨e, hu⟩ := tk_slice ht
      exact ⟨false, eq_run fun d => by simp [Op.equalIn, run_underlying hu], h, fun op o1 o2 _ => by unfold eqGuard; cases op <;> rfl, rfl, rfl⟩
    · exact (hA.fail _ h).elim
  · split at h
    · rename_i fs hfs
      split at h
      · rename_i hok
        obtain ⟨xs, rfl, hl⟩ := hv
        obtain ⟨ys, rfl, hm⟩ := hu
        have hf : P.fieldsOf t = fs := by unfold Program.fieldsOf; rw [hfs]
        obtain ⟨c, g1, g2⟩ := eqFlds_ok (w := w) hA 9998 hl hm fs.toList h
        unfold aggEqOk at hok
        split at hok
        · cases hok
        · rename_i hst
          have heg : P.eqGuardType P.depth t = false := by
            cases q : P.eqGuardType P.depth t with
            | true => rw [q] at hok; cases hok
            | false => rfl
          refine ⟨c, ?_, g2, fun op o1 o2 _ => run_eqGuard_agg w op t o1 o2 xs ys heg, rfl, rfl⟩
          show (Op.equalIn (9999 + 1) t (.agg xs) (.agg ys)).run P w = _
          rw [run_equalIn_struct w 9999 t xs ys (by rw [hf]; exact hfs) hst, hf]
          exact g1
      · exact (hA.fail _ h).elim
    · exact (hA.fail _ h).elim
  · exact (hA.fail _ h).elim

/-! ### shifts, atoms that are known -/
theorem sh_run {op : BinOp} {kd kd' : IntKind} {a b r : Int} {t : Nat} (hs : isSh op = true) (hr : shA op kd a b = some r) : (binOp op t (.int kd a) (.int kd' b)).run P w = .ok (.int kd r) w := by
  cases b with
  | negSucc n => cases hr
  | ofNat n =>
    have nn : ¬ (Int.ofNat n < 0) := by simp
    cases op <;> first | (cases hs; done) | skip
    case shl =>
      cases hr
      simp only [binOp, Op.shift, if_neg nn, wrapF_eq]
      congr 3
    case shr =>
      cases a with
      | negSucc m => cases hr
      | ofNat m =>
        cases hr
        have e : ∀ k : Nat, (Int.ofNat m).fdiv ((2 : Int) ^ k) = Int.ofNat (Nat.div m (Nat.pow 2 k)) := fun k => by
          have : ((2 : Int) ^ k) = ((2 ^ k : Nat) : Int) := by simp
          rw [this]
          exact (Int.ofNat_fdiv m (2 ^ k)).symm
        simp only [binOp, Op.shift, if_neg nn]
        rw [e]
        rfl
theorem ptOf_ok {a : AI} {x n : Int} (hy : SyOk E s.sy) (h : ptOf s a = some x) (k : AIR E a n) : x = n := by
  cases a with
  | lit m => cases h; exact k.symm
  | «at» i =>
    have h : (match ivOf s i with
      | some (lo, hi) => (match ieq lo hi with | true => some lo | false => none)
      | none => none) = some x := h
    split at h
    · rename_i lo hi hi'
      split at h
      · rename_i hq
        cases h
        obtain ⟨n', h1, h2, h3⟩ := hy.ints i _ _ hi'
        have k : E.σ i = some n := k
        rw [h1] at k; cases k
        have := ieq_true hq
        omega
      · cases h
    · cases h

/-! ### an operator -/
theorem binA_ok (hA : Lawful A Pr) (hR : Rel P E s w) {op : BinOp} {t : Nat} {o1 o2 : Operand} {v u : AV} {x y : Value} (hv : VR E v x) (hu : VR E u y)
    (h : Pr (binA P A op t (match isConst o1 with | true => true | false => isConst o2) s v u k)) :
    Good P E s w ((do eqGuard op t o1 o2 x y; binOp op t x y : Sem Value).run P w) fun v s' => Pr (k v s') := by
  have ints : ∀ {kd kd' : IntKind} {a b : Int}, x = .int kd a → y = .int kd' b → Good P E s w ((binOp op t x y).run P w) (fun v s' => Pr (k v s')) →
      Good P E s w ((do eqGuard op t o1 o2 x y; binOp op t x y : Sem Value).run P w) fun v s' => Pr (k v s') := by
    intro kd kd' a b e1 e2 hg
    subst e1; subst e2
    simp only [Sem.run_bind, eqGuard_int, Result.andThen_ok]
    exact hg
  have strs : ∀ {a b : ByteArray}, x = .string a → y = .string b → Good P E s w ((binOp op t (.string a) (.string b)).run P w) (fun v s' => Pr (k v s')) →
      Good P E s w ((do eqGuard op t o1 o2 x y; binOp op t x y : Sem Value).run P w) fun v s' => Pr (k v s') := by
    intro a b e1 e2 hg
    subst e1; subst e2
    simp only [Sem.run_bind, eqGuard_string, Result.andThen_ok]
    exact hg
  have sym : Pr (match mopOf op with
      | some m => match aiOf v, aiOf u with | some a, some b => ptOp A op s m a b k | _, _ => A.fail "sym op"
      | none => cmpA A op s v u k) → Good P E s w ((do eqGuard op t o1 o2 x y; binOp op t x y : Sem Value).run P w) fun v s' => Pr (k v s') := by
    intro h
    split at h
    · rename_i m hm
      split at h
      · rename_i a b ha hb
        obtain ⟨n1, rfl, h1⟩ := aiOf_ok hv ha
        obtain ⟨n2, rfl, h2⟩ := aiOf_ok hu hb
        unfold ptOp at h
        split at h
        · rename_i p q hp hq
          obtain rfl := ptOf_ok hR.sy hp h1
          obtain rfl := ptOf_ok hR.sy hq h2
          exact ints rfl rfl (int_ok hA hR h)
        · exact ints rfl rfl (symOp_ok hA hR hm h1 h2 h)
      · exact (hA.fail _ h).elim
    · obtain ⟨kd, a, b, s1, c, rfl, rfl, hrun, hb, r, hy, h1⟩ := cmp_ok hA hR hv hu h
      refine ints rfl rfl ?_
      rw [hb, hrun]
      exact Good.bool hR r hy h1
  unfold binA at h
  split at h
  · split at h
    · rename_i hs
      split at h
      · rename_i r hr
        cases hv; cases hu
        refine ints rfl rfl ?_
        rw [sh_run hs hr]
        exact Good.pure hR (show VR E (.int _ r) _ from rfl) h
      · exact (hA.fail _ h).elim
    · split at h
      · rename_i hk
        have := kIdx_eq hk; subst this
        cases hv; cases hu
        exact ints rfl rfl (int_ok hA hR h)
      · exact (hA.fail _ h).elim
  · obtain ⟨a, b, e1, e2, hg⟩ := strA_ok (t := t) hA hR hv hu h
    exact strs e1 e2 hg
  · obtain ⟨a, b, e1, e2, hg⟩ := strA_ok (t := t) hA hR hv hu h
    exact strs e1 e2 hg
  · exact sym h
  · exact sym h
  · split at h
    · obtain ⟨c, he, hp, hg, hb, _⟩ := eqA_ok (w := w) hA hv hu h
      simp only [Sem.run_bind, hg _ _ _ rfl, Result.andThen_ok, hb, he, Sem.run_pure]
      exact Good.bool hR (Refn.refl s) hR.sy hp
    · obtain ⟨c, he, hp, hg, _, hb⟩ := eqA_ok (w := w) hA hv hu h
      simp only [Sem.run_bind, hg _ _ _ rfl, Result.andThen_ok, hb, he, Sem.run_pure]
      rw [bnot_eq] at hp
      exact Good.bool hR (Refn.refl s) hR.sy hp
    · exact (hA.fail _ h).elim
end
end Go.Proofs.YthfkajaeikhloaaGreatDoor.Xq

/-! The operations, one by one: places, slices, lengths. -/
namespace Go.Proofs.YthfkajaeikhloaaGreatDoor.Xq
open Go

section
variable {P : Program} {E : Env} {s : St} {w : World} {R : Type} {A : Ans R} {Pr : R → Prop} {k : KV R}

/-! ### places -/
/-- the address of an element, if the index lies within -/
theorem elemA_ok (hA : Lawful A Pr) (hR : Rel P E s w) {b off n es r c : Nat} {i : AV} {x : Value} (hr : E.ρ b = some (r, c)) (hi : VR E i x) (h : Pr (elemA A b off n es i s k)) :
    ∃ kd m v, x = .int kd m ∧ 0 ≤ m ∧ m < (n : Int) ∧ VR E v (.pointer (some ⟨r, off + m.toNat * es, none⟩)) ∧ Pr (k v s) := by
  unfold elemA at h
  split at h
  · rename_i kd j
    split at h
    · rename_i hle
      have hle := ble_iff.1 hle
      cases hi
      exact ⟨kd, _, _, rfl, by simp, by simp; omega, (show VR E (.ptr b (off + j * es)) _ from ⟨r, c, hr, by simp⟩), h⟩
    · exact (hA.fail _ h).elim
  · rename_i j
    split at h
    · rename_i lo hi' hiv
      split at h
      · exact (hA.fail _ h).elim
      · rename_i h0
        split at h
        · rename_i h1
          obtain ⟨m, e, rfl⟩ := hi
          obtain ⟨m', e', hlo, hhi⟩ := hR.sy.ints j _ _ hiv
          obtain rfl : m = m' := Option.some.inj (e.symm.trans e')
          have h0 := ilt_false h0
          have h1 := ilt_true h1
          refine ⟨.i64, m, _, rfl, by omega, by simp at h1; omega, (show VR E (.ptrI b off j es) _ from ⟨r, c, m, hr, e, by omega, rfl⟩), h⟩
        · exact (hA.fail _ h).elim
    · exact (hA.fail _ h).elim
  · exact (hA.fail _ h).elim
theorem indexAt_slice {t e es : Nat} (hu : P.underlying t = some (.slice e)) (hs : szOf P e = some es) {r off len cap : Nat} {kd : IntKind} {m : Int} (h0 : 0 ≤ m) (h1 : m < (len : Int)) :
    (Instr.indexAt t (.slice (some ⟨r, off, none⟩) len cap) (.int kd m)).run P w = .ok (.pointer (some ⟨r, off + m.toNat * es, none⟩)) w := by
  simp [Instr.indexAt, asIntOf, run_underlying hu, h0, h1, szOf_run hs, Addr_add]
theorem indexAt_array {t e es n : Nat} (hu : P.underlying t = some (.array n e)) (hs : szOf P e = some es) {r off : Nat} {kd : IntKind} {m : Int} (h0 : 0 ≤ m) (h1 : m < (n : Int)) :
    (Instr.indexAt t (.pointer (some ⟨r, off, none⟩)) (.int kd m)).run P w = .ok (.pointer (some ⟨r, off + m.toNat * es, none⟩)) w := by
  simp [Instr.indexAt, asIntOf, run_underlying hu, h0, h1, szOf_run hs, Addr_add, Instr.sureAddr]
theorem indexAddr_ok (hA : Lawful A Pr) (hR : Rel P E s w) {t : Nat} {x i : AV} {vx vi : Value} (hx : VR E x vx) (hi : VR E i vi) (h : Pr (indexAddrA P A t x i s k)) :
    Good P E s w ((Instr.indexAt t vx vi).run P w) fun v s' => Pr (k v s') := by
  unfold indexAddrA at h
  split at h
  · obtain ⟨r, c, hr, rfl⟩ := hx
    split at h
    · rename_i e he
      split at h
      · rename_i es hes
        obtain ⟨kd, m, v, rfl, h0, h1, hv, hk⟩ := elemA_ok hA hR hr hi h
        rw [indexAt_slice (sliceElem_some he) hes h0 h1]
        exact Good.pure hR hv hk
      · exact (hA.fail _ h).elim
    · exact (hA.fail _ h).elim
  · obtain ⟨r, c, cap, hr, _, _, _, rfl⟩ := hx
    split at h
    · rename_i e he
      split at h
      · rename_i es hes
        split at h
        · exact (hA.fail _ h).elim
        · obtain ⟨kd, m, v, rfl, h0, h1, hv, hk⟩ := elemA_ok hA hR hr hi h
          rw [indexAt_slice (sliceElem_some he) hes h0 h1]
          exact Good.pure hR hv hk
      · exact (hA.fail _ h).elim
    · exact (hA.fail _ h).elim
  · rename_i b off
    obtain ⟨r, c, hr, rfl⟩ := hx
    split at h
    · rename_i n e he
      split at h
      · split at h
        · rename_i es hes
          obtain ⟨kd, m, v, rfl, h0, h1, hv, hk⟩ := elemA_ok hA hR hr hi h
          rw [indexAt_array (arrOf_some he) hes h0 h1]
          exact Good.pure hR hv hk
        · exact (hA.fail _ h).elim
      · split at h
        · rename_i es _ j hes
          split at h
          · rename_i hle
            have hle := ble_iff.1 hle
            cases hi
            rw [indexAt_array (arrOf_some he) hes (by simp) (by simp; omega)]
            exact Good.pure hR (show VR E (.ptr b (off + j * es)) _ from ⟨r, c, hr, by simp⟩) h
          · exact (hA.fail _ h).elim
        · exact (hA.fail _ h).elim
    · exact (hA.fail _ h).elim
  · exact (hA.fail _ h).elim
theorem fieldOff_run {t i f : Nat} (h : fieldOff P t i = some f) (r off : Nat) (w : World) :
    (Instr.fieldAt t (.pointer (some ⟨r, off, none⟩)) i).run P w = .ok (.pointer (some ⟨r, off + f, none⟩)) w := by
  unfold fieldOff at h
  split at h
  · rename_i g hg
    split at h
    · rename_i n hn
      cases h
      obtain ⟨fs, fd, hu, hfd, ht, ho⟩ := fieldOf_some hg
      rw [← ht] at hn
      simp [Instr.fieldAt, run_underlying hu, hfd, Instr.sureAddr, fieldPlace, szOf_run hn, Addr_add, ho]
    · cases h
  · cases h
theorem fieldAddr_ok (hA : Lawful A Pr) (hR : Rel P E s w) {t i : Nat} {x : AV} {vx : Value} (hx : VR E x vx) (h : Pr (match (generalizing := false) x with
    | .ptr b off => match fieldOff P t i with | some f => k (.ptr b (off + f)) s | none => A.fail "fieldAddr"
    | .ptrI b off j es => match fieldOff P t i with | some f => k (.ptrI b (off + f) j es) s | none => A.fail "fieldAddr"
    | _ => A.fail "fieldAddr")) :
    Good P E s w ((Instr.fieldAt t vx i).run P w) fun v s' => Pr (k v s') := by
  cases x <;> try exact (hA.fail _ h).elim
  case ptr b off =>
    dsimp only at h
    obtain ⟨r, c, hr, rfl⟩ := hx
    split at h
    · rename_i f hf
      rw [fieldOff_run hf]
      exact Good.pure hR (show VR E (.ptr b (off + f)) _ from ⟨r, c, hr, rfl⟩) h
    · exact (hA.fail _ h).elim
  case ptrI b off j es =>
    dsimp only at h
    obtain ⟨r, c, n, hr, hn, h0, rfl⟩ := hx
    split at h
    · rename_i f hf
      rw [fieldOff_run hf]
      refine Good.pure hR (show VR E (.ptrI b (off + f) j es) _ from ⟨r, c, n, hr, hn, h0, ?_⟩) h
      rw [show off + n.toNat * es + f = off + f + n.toNat * es by omega]
    · exact (hA.fail _ h).elim
theorem field_ok (hA : Lawful A Pr) (hR : Rel P E s w) {t i : Nat} {x : AV} {vx : Value} (hx : VR E x vx) (h : Pr (match (generalizing := false) x with
    | .agg cs => match fieldOf P t i with
      | some f => partA P A f.1 cs f.2 fun v => k v s
      | none => A.fail "field"
    | _ => A.fail "field")) :
    Good P E s w ((Instr.field t vx i).run P w) fun v s' => Pr (k v s') := by
  cases x <;> try exact (hA.fail _ h).elim
  case agg l =>
    dsimp only at h
    obtain ⟨vs, rfl, hl⟩ := hx
    split at h
    · rename_i f hf
      obtain ⟨fs, fd, hu, hfd, ht, ho⟩ := fieldOf_some hf
      obtain ⟨v, y, hrun, hv, hk⟩ := part_ok (w := w) hA hl h
      have : (Instr.field t (.agg vs) i).run P w = .ok y w := by
        simp [Instr.field, run_underlying hu, hfd, asAgg, ht, ho, hrun]
      rw [this]; exact Good.pure hR hv hk
    · exact (hA.fail _ h).elim
theorem getN_good (hA : Lawful A Pr) (hR : Rel P E s w) {v : AV} {x : Value} {f : Nat → St → R} (hv : VR E v x) (h : Pr (getN A s v f)) :
    ∃ kd n s', x = .int kd (n : Nat) ∧ Refn s s' ∧ Rel P E s' w ∧ Pr (f n s') := by
  obtain ⟨kd, n, s1, e, r, hy, h1⟩ := getN_ok hA hv hR.sy h
  exact ⟨kd, n, s1, e, r, hR.refn r hy, h1⟩
theorem index_ok (hA : Lawful A Pr) (hR : Rel P E s w) {t : Nat} {x i : AV} {vx vi : Value} (hx : VR E x vx) (hi : VR E i vi) (h : Pr (indexA P A t x i s k)) :
    Good P E s w ((Instr.index t vx vi).run P w) fun v s' => Pr (k v s') := by
  unfold indexA at h
  split at h
  · rename_i l n
    obtain ⟨a, rfl, rfl, rfl⟩ := hx
    split at h
    · rename_i ht
      have hu := tk_string ht
      obtain ⟨kd, m, s1, rfl, r, hR1, h1⟩ := getN_good hA hR hi h
      split at h1
      · rename_i hle
        have hle := ble_iff.1 hle
        have hlt : m < a.size := by have : a.size = a.data.toList.length := by simp
                                    omega
        have hrun : (Instr.index t (.string a) (.int kd (m : Nat))).run P w = .ok (.int .u8 (a[m].toNat : Nat)) w := by
          have hg : a[m]? = some a[m] := by simp [hlt]
          simp [Instr.index, asIntOf, run_underlying hu, hg]
        rw [hrun]
        refine Good.refn r (Good.int hR1 (kd := .u8) ?_)
        have hm : m < a.data.toList.length := by omega
        have hget := num_get a.data.toList m hm
        have e : a[m] = a.data.toList[m] := by simp [ByteArray.getElem_eq_getElem_data]
        rw [e, hget]
        exact h1
      · exact (hA.fail _ h1).elim
    · exact (hA.fail _ h).elim
  · obtain ⟨vs, rfl, hl⟩ := hx
    split at h
    · rename_i n e he
      have hu := arrOf_some he
      split at h
      · rename_i es hes
        obtain ⟨kd, m, s1, rfl, r, hR1, h1⟩ := getN_good hA hR hi h
        split at h1
        · rename_i hle
          have hle := ble_iff.1 hle
          obtain ⟨v, y, hrun, hv, hk⟩ := part_ok (w := w) hA hl h1
          have : (Instr.index t (.agg vs) (.int kd (m : Nat))).run P w = .ok y w := by
            have h2 : m < n := by omega
            simp [Instr.index, asIntOf, run_underlying hu, h2, szOf_run hes, hrun]
          rw [this]
          exact Good.refn r (Good.pure hR1 hv hk)
        · exact (hA.fail _ h1).elim
      · exact (hA.fail _ h).elim
    · exact (hA.fail _ h).elim
  · exact (hA.fail _ h).elim

/-! ### lengths, min, max, conversions -/
theorem lenS_ok {x : AV} {vx : Value} {n : Nat} (hx : VR E x vx) (h : lenS x = some n) : ∃ a c, vx = .slice a n c := by
  unfold lenS at h
  split at h
  · cases h; cases hx; exact ⟨_, _, rfl⟩
  · cases h; obtain ⟨a, c, rfl⟩ := hx; exact ⟨_, _, rfl⟩
  · cases h; obtain ⟨r, c, _, rfl⟩ := hx; exact ⟨_, _, rfl⟩
  · cases h; obtain ⟨r, c, cap, _, _, _, _, rfl⟩ := hx; exact ⟨_, _, rfl⟩
  · cases h
theorem MR.length : ∀ {l : List (AV × AV)} {es : List MapEntry}, MR E l es → l.length = es.length
  | [], _, h => by simp only [MR] at h; subst h; rfl
  | _ :: _, _, ⟨e, r, q, _, _, k⟩ => by subst q; simp [MR.length k]
theorem len_ok (hA : Lawful A Pr) (hR : Rel P E s w) {t ty : Nat} {ts : List Nat} {x : AV} {vx : Value} (hx : VR E x vx) (h : Pr (lenA P A t s x k)) :
    Good P E s w ((Builtin.len_ (t :: ts).toArray ty #[vx]).run P w) fun v s' => Pr (k v s') := by
  unfold lenA at h
  split at h
  · rename_i ht
    have hu := tk_string ht
    split at h
    · rename_i l n
      obtain ⟨a, rfl, rfl, rfl⟩ := hx
      have : (Builtin.len_ (t :: ts).toArray ty #[.string a]).run P w = .ok (.int .i64 (.ofNat a.data.toList.length)) w := by
        simp [Builtin.len_, run_underlying hu, goInt]
      rw [this]; exact Good.int hR h
    · rename_i i j
      obtain ⟨rfl, hj⟩ := hx
      have : (Builtin.len_ (t :: ts).toArray ty #[.string (E.ς i)]).run P w = .ok (.int .i64 ((E.ς i).size : Int)) w := by
        simp [Builtin.len_, run_underlying hu, goInt]
      rw [this]; exact Good.pure hR (show VR E (.sym j) _ from ⟨_, hj, rfl⟩) h
    · exact (hA.fail _ h).elim
  · rename_i ht
    obtain ⟨e, hu⟩ := tk_slice ht
    split at h
    · rename_i n hn
      obtain ⟨a, c, rfl⟩ := lenS_ok hx hn
      have : (Builtin.len_ (t :: ts).toArray ty #[.slice a n c]).run P w = .ok (.int .i64 (.ofNat n)) w := by
        simp [Builtin.len_, run_underlying hu, goInt]
      rw [this]; exact Good.int hR h
    · exact (hA.fail _ h).elim
  · rename_i ht
    split at h
    · rename_i n e he
      have hu := arrOf_some he
      have : (Builtin.len_ (t :: ts).toArray ty #[vx]).run P w = .ok (.int .i64 (.ofNat n)) w := by
        simp [Builtin.len_, run_underlying hu, goInt]
      rw [this]; exact Good.int hR h
    · exact (hA.fail _ h).elim
  · rename_i str e ht
    obtain ⟨kt, hu, _⟩ := tk_map ht
    split at h
    · cases hx
      have : (Builtin.len_ (t :: ts).toArray ty #[.map none]).run P w = .ok (.int .i64 (.ofNat 0)) w := by
        simp [Builtin.len_, run_underlying hu, goInt]
      rw [this]; exact Good.int hR h
    · obtain ⟨r, c, hr, rfl⟩ := hx
      split at h
      · rename_i es hb
        obtain ⟨r', c', e', ms, clock, hw, hm, _⟩ := hR.heap _ _ hb
        rw [hr] at e'; cases e'
        have : (Builtin.len_ (t :: ts).toArray ty #[.map (some r)]).run P w = .ok (.int .i64 (.ofNat ms.size)) w := by
          simp [Builtin.len_, run_underlying hu, goInt, getObj, Sem.run, hw]
        rw [this]
        rw [lenL_eq, hm.length] at h
        exact Good.int hR (by simpa using h)
      · exact (hA.fail _ h).elim
    · exact (hA.fail _ h).elim
  · exact (hA.fail _ h).elim
theorem mm_ok (hA : Lawful A Pr) (hR : Rel P E s w) {mx : Bool} {ts : Array Nat} {ty : Nat} {x y : AV} {vx vy : Value} (hx : VR E x vx) (hy : VR E y vy) (h : Pr (mmA A mx x y s k)) :
    Good P E s w (((if mx then Builtin.max_ ts ty #[vx, vy] else Builtin.min_ ts ty #[vx, vy]) : Sem Value).run P w) fun v s' => Pr (k v s') := by
  unfold mmA at h
  split at h
  · rename_i kd a kd' b
    cases hx; cases hy
    cases mx
    · dsimp only at h
      have : (Builtin.min_ ts ty #[.int kd a, .int kd' b]).run P w = .ok (.int kd (if b < a then b else a)) w := by
        simp [Builtin.min_, Builtin.min2]
      rw [if_neg (by decide), this]
      rw [ilt_iff] at h
      by_cases q : b < a
      · rw [if_pos q]; rw [decide_eq_true q] at h; exact Good.int hR h
      · rw [if_neg q]; rw [decide_eq_false q] at h; exact Good.int hR h
    · dsimp only at h
      have : (Builtin.max_ ts ty #[.int kd a, .int kd' b]).run P w = .ok (.int kd (if b > a then b else a)) w := by
        simp [Builtin.max_, Builtin.max2]
      rw [if_pos rfl, this]
      rw [ilt_iff] at h
      by_cases q : a < b
      · rw [if_pos q]; rw [decide_eq_true q] at h; exact Good.int hR h
      · rw [if_neg q]; rw [decide_eq_false q] at h; exact Good.int hR h
  · exact (hA.fail _ h).elim
theorem convert_ok (hA : Lawful A Pr) (hR : Rel P E s w) {src dst : Nat} {x : AV} {vx : Value} (hx : VR E x vx) (h : Pr (convertA P A src dst x s k)) :
    Good P E s w ((convert src dst vx).run P w) fun v s' => Pr (k v s') := by
  unfold convertA at h
  split at h
  · rename_i k0 n
    cases hx
    split at h
    · rename_i k1 h1
      split at h
      · rename_i kd h2
        have hu1 := tk_int h1
        have hu2 := tk_int h2
        rw [wrapF_eq] at h
        have : (convert src dst (.int k0 n)).run P w = .ok (.int kd (kd.wrap n)) w := by
          simp [convert, run_underlying hu1, run_underlying hu2, Conv.intToInt]
        rw [this]; exact Good.int hR h
      · exact (hA.fail _ h).elim
    · exact (hA.fail _ h).elim
  · split at h
    · rename_i h1
      split at h
      · rename_i h2
        have hu1 := tk_string h1
        have hu2 := tk_string h2
        have hx' := hx
        obtain ⟨a, rfl, _, _⟩ := hx
        have : (convert src dst (.string a)).run P w = .ok (.string a) w := by
          simp [convert, run_underlying hu1, run_underlying hu2]
        rw [this]; exact Good.pure hR hx' h
      · exact (hA.fail _ h).elim
    · exact (hA.fail _ h).elim
  · exact (hA.fail _ h).elim
theorem un_ok (hA : Lawful A Pr) (hR : Rel P E s w) {op : UnOp} {x : AV} {vx : Value} (hx : VR E x vx) (h : Pr (unA A op x s k)) :
    Good P E s w ((Op.unary op vx).run P w) fun v s' => Pr (k v s') := by
  unfold unA at h
  split at h
  · split at h
    · cases hx
      rw [bnot_eq] at h
      exact Good.bool hR (Refn.refl s) hR.sy h
    · exact (hA.fail _ h).elim
  · split at h
    · cases hx
      rw [wrapF_eq] at h
      exact Good.int hR h
    · exact (hA.fail _ h).elim
  · exact (hA.fail _ h).elim
end
end Go.Proofs.YthfkajaeikhloaaGreatDoor.Xq

/-! The operations, one by one: slices, maps, append. -/
namespace Go.Proofs.YthfkajaeikhloaaGreatDoor.Xq
open Go

section
variable {P : Program} {E : Env} {s : St} {w : World} {R : Type} {A : Ans R} {Pr : R → Prop} {k : KV R}

/-! ### slices -/
theorem optN_ok (hA : Lawful A Pr) (hR : Rel P E s w) {v : Option AV} {x : Option Value} {d : Nat} {f : Nat → St → R} (hv : ∀ a, v = some a → ∃ y, x = some y ∧ VR E a y) (hn : v = none → x = none)
    (h : Pr (optN A s v d f)) : ∃ n s', Refn s s' ∧ Rel P E s' w ∧ Pr (f n s') ∧ (x = none → n = d) ∧ (∀ y, x = some y → ∃ kd, y = .int kd (n : Nat)) := by
  unfold optN at h
  cases v with
  | none =>
    have := hn rfl; subst this
    exact ⟨d, s, Refn.refl s, hR, h, fun _ => rfl, fun y e => by cases e⟩
  | some a =>
    obtain ⟨y, rfl, hy⟩ := hv a rfl
    obtain ⟨kd, n, s1, rfl, r, hR1, h1⟩ := getN_good hA hR hy h
    exact ⟨n, s1, r, hR1, h1, fun e => (by cases e), fun z e => ⟨kd, by cases e; rfl⟩⟩
theorem sliceBound_run {kd : IntKind} {i y : Nat} {c : BoundsCode} (h : i ≤ y) : (Instr.sliceBound (.int kd (i : Nat)) y c).run P w = .ok i w := by
  simp [Instr.sliceBound, asIntOf, h]
/-- the bounds, as the machine finds them -/
theorem bounds_run {isS : Bool} {len cap a c m : Nat} {lo hi mx : Option Value}
    (hm : ∀ v, mx = some v → ∃ kd, v = .int kd (m : Nat)) (hm0 : mx = none → m = cap) (hc : ∀ v, hi = some v → ∃ kd, v = .int kd (c : Nat)) (hc0 : hi = none → c = len ∧ mx = none)
    (hl : ∀ v, lo = some v → ∃ kd, v = .int kd (a : Nat)) (hl0 : lo = none → a = 0) (h1 : m ≤ cap) (h2 : c ≤ m) (h3 : a ≤ c) :
    (Instr.sliceBounds isS len cap lo hi mx).run P w = .ok (a, c, m) w := by
  have L : ∀ code, ((match lo with | some v => Instr.sliceBound v c code | none => pure 0 : Sem Nat)).run P w = .ok a w := by
    intro code
    cases lo with
    | none => rw [hl0 rfl]; rfl
    | some v => obtain ⟨kd, rfl⟩ := hl v rfl; exact sliceBound_run h3
  unfold Instr.sliceBounds
  cases mx with
  | none =>
    have := hm0 rfl; subst this
    cases hi with
    | none =>
      obtain ⟨rfl, _⟩ := hc0 rfl
      simp only [Sem.run_bind, Sem.run_pure, Result.andThen_ok]
      cases lo with
      | none => rw [hl0 rfl]; rfl
      | some v => obtain ⟨kd, rfl⟩ := hl v rfl; simp only [Sem.run_bind, Sem.run_pure, sliceBound_run h3, Result.andThen_ok]
    | some v =>
      obtain ⟨kd, rfl⟩ := hc v rfl
      simp only [Sem.run_bind, Sem.run_pure, Result.andThen_ok, sliceBound_run h2]
      cases lo with
      | none => rw [hl0 rfl]; rfl
      | some v => obtain ⟨kd, rfl⟩ := hl v rfl; simp only [Sem.run_bind, Sem.run_pure, sliceBound_run h3, Result.andThen_ok]
  | some vm =>
    obtain ⟨kdm, rfl⟩ := hm vm rfl
    cases hi with
    | none => obtain ⟨_, e⟩ := hc0 rfl; cases e
    | some v =>
      obtain ⟨kd, rfl⟩ := hc v rfl
      simp only [Sem.run_bind, Result.andThen_ok, sliceBound_run h2, sliceBound_run h1]
      cases lo with
      | none => rw [hl0 rfl]; rfl
      | some v => obtain ⟨kd, rfl⟩ := hl v rfl; simp only [Sem.run_bind, Sem.run_pure, sliceBound_run h3, Result.andThen_ok]
theorem sliceAt_eq {t : Nat} {x : Value} {lo hi mx : Option Value} {d : TypeDesc} (hu : P.underlying t = some d) (hd : ∀ n e, d ≠ .array n e) : (Instr.sliceAt t x lo hi mx).run P w = (Instr.slice t x lo hi mx).run P w := by
  unfold Instr.sliceAt
  simp only [Sem.run_bind, run_underlying hu, Result.andThen_ok]
abbrev OV (E : Env) (v : Option AV) (x : Option Value) : Prop := (∀ a, v = some a → ∃ y, x = some y ∧ VR E a y) ∧ (v = none → x = none)
theorem slice_ok (hA : Lawful A Pr) (hR : Rel P E s w) {t : Nat} {x : AV} {vx : Value} {lo hi mx : Option AV} {vlo vhi vmx : Option Value} (hx : VR E x vx) (hlo : OV E lo vlo) (hhi : OV E hi vhi) (hmx : OV E mx vmx)
    (h : Pr (sliceA P A t x lo hi mx s k)) : Good P E s w ((Instr.sliceAt t vx vlo vhi vmx).run P w) fun v s' => Pr (k v s') := by
  have none_of : ∀ {v : Option AV} {y : Option Value}, OV E v y → y = none → v = none := fun {v y} ho hy => by
    cases v with
    | none => rfl
    | some a => obtain ⟨z, e, _⟩ := ho.1 a rfl; rw [hy] at e; cases e
  unfold sliceA at h
  split at h
  · rename_i l n
    obtain ⟨a, rfl, rfl, rfl⟩ := hx
    split at h
    · rename_i ht
      have hu := tk_string ht
      split at h
      · have hmn := hmx.2 rfl
        subst hmn
        obtain ⟨c, s1, r1, hR1, h1, c0, c1⟩ := optN_ok hA hR hhi.1 hhi.2 h
        obtain ⟨b, s2, r2, hR2, h2, b0, b1⟩ := optN_ok hA hR1 hlo.1 hlo.2 h1
        split at h2
        · rename_i hbc
          have hbc := ble_iff.1 hbc
          split at h2
          · rename_i hcl
            have hcl := ble_iff.1 hcl
            have hsz : a.size = a.data.toList.length := by simp
            have hb := bounds_run (P := P) (w := w) (isS := false) (len := a.size) (cap := a.size) (a := b) (c := c) (m := a.size) (lo := vlo) (hi := vhi) (mx := none)
              (fun v e => by cases e) (fun _ => rfl) c1 (fun e => ⟨by rw [c0 e, hsz], rfl⟩) b1 b0 (Nat.le_refl _) (by omega) hbc
            rw [sliceAt_eq hu (by intro n e q; cases q)]
            have : (Instr.slice t (.string a) vlo vhi none).run P w = .ok (.string (a.extract b c)) w := by
              simp [Instr.slice, run_underlying hu, hb]
            rw [this]
            refine Good.refn (r1.trans r2) (Good.pure hR2 (show VR E (.str (c - b) _) _ from ⟨_, rfl, ?_, ?_⟩) h2)
            · rw [Lib.extract_data]; simp; omega
            · rw [Lib.extract_data]
              have e : (a.data.toList.drop b).take (c - b) = (a.data.toList.take c).drop b := by rw [List.drop_take]
              rw [e, num_slice _ _ _ hbc hcl]
          · exact (hA.fail _ h2).elim
        · exact (hA.fail _ h2).elim
      · exact (hA.fail _ h).elim
    · exact (hA.fail _ h).elim
  · rename_i b off len cap
    obtain ⟨r, cc, hr, rfl⟩ := hx
    split at h
    · rename_i e he
      have hu := sliceElem_some he
      split at h
      · rename_i es hes
        obtain ⟨m, s1, r1, hR1, h1, m0, m1⟩ := optN_ok hA hR hmx.1 hmx.2 h
        split at h1
        · exact (hA.fail _ h1).elim
        · rename_i hmc
          have hmc := ble_iff.1 hmc
          split at h1
          · exact (hA.fail _ h1).elim
          · rename_i hnot
            obtain ⟨c, s2, r2, hR2, h2, c0, c1⟩ := optN_ok hA hR1 hhi.1 hhi.2 h1
            split at h2
            · exact (hA.fail _ h2).elim
            · rename_i hcm
              have hcm := ble_iff.1 hcm
              obtain ⟨a, s3, r3, hR3, h3, a0, a1⟩ := optN_ok hA hR2 hlo.1 hlo.2 h2
              split at h3
              · exact (hA.fail _ h3).elim
              · rename_i hac
                have hac := ble_iff.1 hac
                have hb := bounds_run (P := P) (w := w) (isS := true) (len := len) (cap := cap) (a := a) (c := c) (m := m) (lo := vlo) (hi := vhi) (mx := vmx)
                  m1 m0 c1 (fun e => ⟨c0 e, by
                    have hh := none_of hhi e
                    cases hq : mx with
                    | none => exact hmx.2 hq
                    | some q => exact (hnot _ hh hq).elim⟩) a1 a0 hmc hcm hac
                rw [sliceAt_eq hu (by intro n e q; cases q)]
                have hrun : (Instr.slice t (.slice (some ⟨r, off, none⟩) len cap) vlo vhi vmx).run P w = .ok (.slice (if m = a then some ⟨r, off, none⟩ else some ⟨r, off + a * es, none⟩) (c - a) (m - a)) w := by
                  simp [Instr.slice, run_underlying hu, hb, szOf_run hes, Addr_add]
                rw [hrun]
                split at h3
                · rename_i hma
                  have hma := Nat.eq_of_beq_eq_true hma
                  rw [if_pos hma]
                  exact Good.refn (r1.trans (r2.trans r3)) (Good.pure hR3 (show VR E (.slice b off (c - a) (m - a)) _ from ⟨r, cc, hr, rfl⟩) h3)
                · rename_i hma
                  have hma := Nat.ne_of_beq_eq_false hma
                  rw [if_neg hma]
                  exact Good.refn (r1.trans (r2.trans r3)) (Good.pure hR3 (show VR E (.slice b (off + a * es) (c - a) (m - a)) _ from ⟨r, cc, hr, rfl⟩) h3)
      · exact (hA.fail _ h).elim
    · exact (hA.fail _ h).elim
  · rename_i b off len es'
    obtain ⟨r, cc, cap, hr, hcap, hes0, hlc, rfl⟩ := hx
    split at h
    · rename_i e he
      have hu := sliceElem_some he
      split at h
      · rename_i es hes
        split at h
        · exact (hA.fail _ h).elim
        · rename_i heq
          have heq := Nat.eq_of_beq_eq_true heq
          subst heq
          split at h
          · have hmn := hmx.2 rfl
            subst hmn
            obtain ⟨c, s1, r1, hR1, h1, c0, c1⟩ := optN_ok hA hR hhi.1 hhi.2 h
            split at h1
            · exact (hA.fail _ h1).elim
            · rename_i hcl
              have hcl := ble_iff.1 hcl
              obtain ⟨a, s2, r2, hR2, h2, a0, a1⟩ := optN_ok hA hR1 hlo.1 hlo.2 h1
              split at h2
              · exact (hA.fail _ h2).elim
              · rename_i hac
                have hac := ble_iff.1 hac
                have hb := bounds_run (P := P) (w := w) (isS := true) (len := len) (cap := cap) (a := a) (c := c) (m := cap) (lo := vlo) (hi := vhi) (mx := none)
                  (fun v e => by cases e) (fun _ => rfl) c1 (fun e => ⟨c0 e, rfl⟩) a1 a0 (Nat.le_refl _) (by omega) hac
                rw [sliceAt_eq hu (by intro n e q; cases q)]
                have hrun : (Instr.slice t (.slice (some ⟨r, off, none⟩) len cap) vlo vhi none).run P w = .ok (.slice (if cap = a then some ⟨r, off, none⟩ else some ⟨r, off + a * es, none⟩) (c - a) (cap - a)) w := by
                  simp [Instr.slice, run_underlying hu, hb, szOf_run hes, Addr_add]
                rw [hrun]
                split at h2
                · have e0 : (if cap = 0 then some (⟨r, off, none⟩ : Addr) else some ⟨r, off + 0 * es, none⟩) = some ⟨r, off, none⟩ := by simp
                  rw [e0]
                  exact Good.refn (r1.trans r2) (Good.pure hR2 (show VR E (.sliceT b off c es) _ from ⟨r, cc, cap, hr, hcap, hes0, by omega, by simp⟩) h2)
                · rename_i a' hac'
                  split at h2
                  · rename_i hle
                    have hle := ble_iff.1 hle
                    rw [if_neg (by omega)]
                    refine Good.refn (r1.trans r2) (Good.pure hR2 (show VR E (.sliceT b (off + (a' + 1) * es) (c - (a' + 1)) es) _ from ⟨r, cc, cap - (a' + 1), hr, ?_, hes0, by omega, rfl⟩) h2)
                    rw [← hcap, Nat.add_assoc, ← Nat.add_mul]
                    congr 2
                    omega
                  · rename_i hle
                    have hle : ¬ a' + 2 ≤ len := fun q => by rw [ble_iff.2 q] at hle; cases hle
                    have e0 : c - (a' + 1) = 0 := by omega
                    rw [e0]
                    exact Good.refn (r1.trans r2) (Good.pure hR2 (show VR E .emp _ from ⟨_, _, rfl⟩) h2)
          · rename_i m
            obtain ⟨vm, rfl, hvm⟩ := hmx.1 m rfl
            obtain ⟨kd, mm, s1, rfl, r1, hR1, h1⟩ := getN_good hA hR hvm h
            split at h1
            · exact (hA.fail _ h1).elim
            · rename_i hml
              have hml := ble_iff.1 hml
              split at h1
              · exact (hA.fail _ h1).elim
              · rename_i hh
                obtain ⟨vh, rfl, hvh⟩ := hhi.1 hh rfl
                obtain ⟨kd2, c, s2, rfl, r2, hR2, h2⟩ := getN_good hA hR1 hvh h1
                split at h2
                · exact (hA.fail _ h2).elim
                · rename_i hcm
                  have hcm := ble_iff.1 hcm
                  obtain ⟨a, s3, r3, hR3, h3, a0, a1⟩ := optN_ok hA hR2 hlo.1 hlo.2 h2
                  split at h3
                  · exact (hA.fail _ h3).elim
                  · rename_i hac
                    have hac := ble_iff.1 hac
                    have hb := bounds_run (P := P) (w := w) (isS := true) (len := len) (cap := cap) (a := a) (c := c) (m := mm) (lo := vlo) (hi := some (.int kd2 (c : Nat))) (mx := some (.int kd (mm : Nat)))
                      (fun v e => by cases e; exact ⟨_, rfl⟩) (fun e => by cases e) (fun v e => by cases e; exact ⟨_, rfl⟩) (fun e => by cases e) a1 a0 (by omega) hcm hac
                    rw [sliceAt_eq hu (by intro n e q; cases q)]
                    have hrun : (Instr.slice t (.slice (some ⟨r, off, none⟩) len cap) vlo (some (.int kd2 (c : Nat))) (some (.int kd (mm : Nat)))).run P w = .ok (.slice (if mm = a then some ⟨r, off, none⟩ else some ⟨r, off + a * es, none⟩) (c - a) (mm - a)) w := by
                      simp [Instr.slice, run_underlying hu, hb, szOf_run hes, Addr_add]
                    rw [hrun]
                    split at h3
                    · rename_i hma
                      have hma := Nat.eq_of_beq_eq_true hma
                      rw [if_pos hma]
                      exact Good.refn (r1.trans (r2.trans r3)) (Good.pure hR3 (show VR E (.slice b off (c - a) (mm - a)) _ from ⟨r, cc, hr, rfl⟩) h3)
                    · rename_i hma
                      have hma := Nat.ne_of_beq_eq_false hma
                      rw [if_neg hma]
                      exact Good.refn (r1.trans (r2.trans r3)) (Good.pure hR3 (show VR E (.slice b (off + a * es) (c - a) (mm - a)) _ from ⟨r, cc, hr, rfl⟩) h3)
      · exact (hA.fail _ h).elim
    · exact (hA.fail _ h).elim
  · cases hx
    split at h
    · rename_i e he
      have hu := sliceElem_some he
      split at h
      · exact (hA.fail _ h).elim
      rename_i es hes
      split at h
      · exact (hA.fail _ h).elim
      · rename_i hnot
        obtain ⟨m, s1, r1, hR1, h1, m0, m1⟩ := optN_ok hA hR hmx.1 hmx.2 h
        obtain ⟨c, s2, r2, hR2, h2, c0, c1⟩ := optN_ok hA hR1 hhi.1 hhi.2 h1
        obtain ⟨a, s3, r3, hR3, h3, a0, a1⟩ := optN_ok hA hR2 hlo.1 hlo.2 h2
        split at h3
        · exact (hA.fail _ h3).elim
        · rename_i hm
          split at h3
          · exact (hA.fail _ h3).elim
          · rename_i hc
            split at h3
            · exact (hA.fail _ h3).elim
            · rename_i ha
              obtain rfl := Nat.eq_of_beq_eq_true hm
              obtain rfl := Nat.eq_of_beq_eq_true hc
              obtain rfl := Nat.eq_of_beq_eq_true ha
              have hb := bounds_run (P := P) (w := w) (isS := true) (len := 0) (cap := 0) (a := 0) (c := 0) (m := 0) (lo := vlo) (hi := vhi) (mx := vmx)
                m1 m0 c1 (fun e => ⟨rfl, by
                  have hh := none_of hhi e
                  cases hq : mx with
                  | none => exact hmx.2 hq
                  | some q => exact (hnot _ hh hq).elim⟩) a1 a0 (Nat.le_refl _) (Nat.le_refl _) (Nat.le_refl _)
              rw [sliceAt_eq hu (by intro n e q; cases q)]
              have hrun : (Instr.slice t (.slice none 0 0) vlo vhi vmx).run P w = .ok (.slice none 0 0) w := by
                simp [Instr.slice, run_underlying hu, hb, szOf_run hes]
              rw [hrun]
              exact Good.refn (r1.trans (r2.trans r3)) (Good.pure hR3 (show VR E .nils _ from rfl) h3)
    · exact (hA.fail _ h).elim
  · exact (hA.fail _ h).elim
end
end Go.Proofs.YthfkajaeikhloaaGreatDoor.Xq

/-! The operations, one by one: maps. -/
namespace Go.Proofs.YthfkajaeikhloaaGreatDoor.Xq
open Go

section
variable {P : Program} {E : Env} {s : St} {w : World} {R : Type} {A : Ans R} {Pr : R → Prop} {k : KV R}

/-- a key's kind -/
def KK (str : Bool) (d : TypeDesc) : Prop := if str = true then d = .string else ∃ kd, d = .int kd
theorem key_eq (hA : Lawful A Pr) (hy : SyOk E s.sy) {str : Bool} {d : TypeDesc} (hd : KK str d) {x u : AV} {vx vu : Value} (hx : VR E x vx) (hu : VR E u vu) {f : Bool → St → R}
    (h : Pr (match (generalizing := false) str with | true => eqS A s x u f | false => eqI A s x u f)) :
    ∃ b s', Instr.sameNow d vx vu = some b ∧ Refn s s' ∧ SyOk E s'.sy ∧ Pr (f b s') ∧ (b = true → vu = vx) := by
  cases str with
  | true =>
    have : d = .string := hd
    subst this
    obtain ⟨a, b, s', rfl, rfl, r, hy', hp⟩ := eqS_ok hA hx hu hy h
    have hab : (a == b) = (a.data == b.data) := rfl
    have hab2 : (a.data.toList == b.data.toList) = (a == b) := by rw [hab]; simp
    refine ⟨a == b, s', rfl, r, hy', by rw [← hab2]; exact hp, fun q => ?_⟩
    rw [hab] at q
    have := eq_of_beq q
    have e : a = b := by cases a; cases b; congr
    rw [e]
  | false =>
    obtain ⟨kd, rfl⟩ : ∃ kd, d = .int kd := hd
    obtain ⟨k', a, b, s', rfl, rfl, r, hy', hp⟩ := eqI_ok hA hx hu hy h
    refine ⟨a == b, s', by simp [Instr.sameNow], r, hy', hp, fun q => ?_⟩
    have := eq_of_beq q
    rw [this]
theorem findE_ok (hA : Lawful A Pr) {str : Bool} {d : TypeDesc} (hd : KK str d) {x : AV} {vx : Value} (hx : VR E x vx) {f : Option AV → St → R} :
    ∀ (es : List (AV × AV)) (ms : List MapEntry) (s : St) (i : Nat), SyOk E s.sy → MR E es ms → Pr (findE A str s x es f) →
    ∃ r s', Instr.findNow d vx ms i = some r ∧ Refn s s' ∧ SyOk E s'.sy ∧ ((r = none ∧ Pr (f none s')) ∨ ∃ j v a, r = some (j, v) ∧ VR E a v ∧ Pr (f (some a) s'))
  | [], ms, s, i, hy, hm, h => by
    have : ms = [] := hm
    subst this
    exact ⟨none, s, rfl, Refn.refl s, hy, .inl ⟨rfl, h⟩⟩
  | e :: es, ms, s, i, hy, hm, h => by
    obtain ⟨m, ms', rfl, hk, hv, hr⟩ := hm
    obtain ⟨b, s1, hb, r1, hy1, h1, _⟩ := key_eq (f := fun b s => match b with | true => f (some e.2) s | false => findE A str s x es f) hA hy hd hx hk (by cases str <;> exact h)
    cases b with
    | true => exact ⟨some (i, m.val), s1, by simp [Instr.findNow, hb], r1, hy1, .inr ⟨i, m.val, e.2, rfl, hv, h1⟩⟩
    | false =>
      obtain ⟨r, s2, e2, r2, hy2, h2⟩ := findE_ok hA hd hx es ms' s1 (i + 1) hy1 hr h1
      exact ⟨r, s2, by simp [Instr.findNow, hb, e2], r1.trans r2, hy2, h2⟩
theorem updE_ok (hA : Lawful A Pr) {str : Bool} {d : TypeDesc} (hd : KK str d) {x y : AV} {vx vy : Value} (hx : VR E x vx) (hvy : VR E y vy) (born : Nat) :
    ∀ (es : List (AV × AV)) (ms : List MapEntry) (s : St) (i : Nat) (f : List (AV × AV) → St → R), SyOk E s.sy → MR E es ms → Pr (updE A str s x y es f) →
    ∃ r s' es', Instr.findNow d vx ms i = some r ∧ Refn s s' ∧ SyOk E s'.sy ∧ Pr (f es' s') ∧
      ((r = none ∧ MR E es' (ms ++ [{ key := vx, val := vy, born := born }])) ∨
       ∃ j v, r = some (i + j, v) ∧ (ms[j]?).map (·.key) = some vx ∧ MR E es' (ms.modify j fun e => { e with key := vx, val := vy }))
  | [], ms, s, i, f, hy, hm, h => by
    have : ms = [] := hm
    subst this
    exact ⟨none, s, [(x, y)], rfl, Refn.refl s, hy, h, .inl ⟨rfl, _, _, rfl, hx, hvy, rfl⟩⟩
  | e :: es, ms, s, i, f, hy, hm, h => by
    obtain ⟨m, ms', rfl, hk, hv, hr⟩ := hm
    obtain ⟨b, s1, hb, r1, hy1, h1, hsame⟩ := key_eq (f := fun b s => match b with | true => f ((x, y) :: es) s | false => updE A str s x y es fun r' s => f (e :: r') s) hA hy hd hx hk (by cases str <;> exact h)
    cases b with
    | true =>
      exact ⟨some (i, m.val), s1, (x, y) :: es, by simp [Instr.findNow, hb], r1, hy1, h1, .inr ⟨0, m.val, rfl, by simp [hsame rfl], _, _, rfl, hx, hvy, hr⟩⟩
    | false =>
      obtain ⟨r, s2, es', e2, r2, hy2, h2, h3⟩ := updE_ok hA hd hx hvy born es ms' s1 (i + 1) _ hy1 hr h1
      refine ⟨r, s2, e :: es', by simp [Instr.findNow, hb, e2], r1.trans r2, hy2, h2, ?_⟩
      rcases h3 with ⟨rfl, h3⟩ | ⟨j, v, rfl, hj, h3⟩
      · exact .inl ⟨rfl, _, _, rfl, hk, hv, h3⟩
      · exact .inr ⟨j + 1, v, by rw [Nat.add_assoc, Nat.add_comm 1 j], by simpa using hj, _, _, rfl, hk, hv, h3⟩
theorem checkKey_run {str empty : Bool} {kt : Nat} {d : TypeDesc} (hu : P.underlying kt = some d) (hd : KK str d) (n : Nat) (v : Value) : (Instr.checkKey empty (n + 1) kt v).run P w = .ok () w := by
  unfold KK at hd
  split at hd
  · subst hd
    unfold Instr.checkKey
    simp only [Sem.run_bind, run_underlying hu, Result.andThen_ok]
    rfl
  · obtain ⟨kd, rfl⟩ := hd
    unfold Instr.checkKey
    simp only [Sem.run_bind, run_underlying hu, Result.andThen_ok]
    rfl
theorem tk_map' {t : Nat} {str : Bool} {e : Nat} (h : tk P t = .map str e) : ∃ kt d, P.underlying t = some (.map kt e) ∧ P.underlying kt = some d ∧ KK str d := by
  obtain ⟨kt, hu, hk⟩ := tk_map h
  split at hk
  · rename_i q
    exact ⟨kt, _, hu, hk, by simp [KK, q]⟩
  · rename_i q
    obtain ⟨kd, hk⟩ := hk
    exact ⟨kt, _, hu, hk, by simp [KK, q]⟩
theorem map_of (hR : Rel P E s w) {b r c : Nat} {es : List (AV × AV)} (hb : hget s b = some (.map es)) (hr : E.ρ b = some (r, c)) : ∃ ms clock, w.heap[r]? = some (.map ms clock) ∧ MR E es ms.toList ∧ MapKept.Stamped ms clock := by
  obtain ⟨r', c', e, hO⟩ := hR.heap b _ hb
  rw [hr] at e; cases e
  exact hO
theorem getObj_run {r : Nat} {ms : Array MapEntry} {c : Nat} (h : w.heap[r]? = some (.map ms c)) : (getObj r).run P w = .ok (.map ms c) w := by
  simp [getObj, Sem.run, h]
theorem lookup_ok (hA : Lawful A Pr) (hR : Rel P E s w) {t : Nat} {m x : AV} {vm vx : Value} {ok : Bool} (hm : VR E m vm) (hx : VR E x vx) (h : Pr (lookupA P A t s m x ok k)) :
    Good P E s w ((Instr.lookup t vm vx ok).run P w) fun v s' => Pr (k v s') := by
  unfold lookupA at h
  split at h
  · rename_i str e ht
    obtain ⟨kt, d, hu, hk, hd⟩ := tk_map' ht
    have none_case : ∀ {s1 : St}, Refn s s1 → SyOk E s1.sy → Pr (match zeroOf P e with
        | some v => match (generalizing := false) ok with | true => k (.tuple [v, .bool false]) s1 | false => k v s1
        | none => A.fail "lookup: zero") → ∃ z, (zeroValue e).run P w = .ok z w ∧ Good P E s w (.ok (if ok then .tuple #[z, .bool false] else z) w) fun v s' => Pr (k v s') := by
      intro s1 r1 hy1 hp
      split at hp
      · rename_i z hz
        obtain ⟨zv, hzr, hzv⟩ := zeroOf_some hz E w
        refine ⟨zv, hzr, ?_⟩
        cases ok with
        | true => exact Good.here hR r1 hy1 (show VR E (.tuple [z, .bool false]) _ from ⟨_, rfl, VRL.cons hzv (VRL.cons rfl VRL.nil)⟩) hp
        | false => exact Good.here hR r1 hy1 hzv hp
      · exact (hA.fail _ hp).elim
    dsimp only at h
    cases m
    case map b =>
      obtain ⟨r, c, hr, rfl⟩ := hm
      dsimp only at h
      split at h
      · rename_i hb
        obtain ⟨ms, clock, hw, hM, _⟩ := map_of hR hb hr
        obtain ⟨q, s1, hq, r1, hy1, h1⟩ := findE_ok hA hd hx _ ms.toList s 0 hR.sy hM h
        have ck := fun (em : Bool) => checkKey_run (P := P) (w := w) (empty := em) hk hd 9999 vx
        rcases h1 with ⟨rfl, h1⟩ | ⟨j, v, a, rfl, hv, h1⟩
        · obtain ⟨z, hz, hg⟩ := none_case r1 hy1 h1
          have : (Instr.lookup t (.map (some r)) vx ok).run P w = .ok (if ok then .tuple #[z, .bool false] else z) w := by
            simp [Instr.lookup, run_underlying hu, getObj_run hw, ck, Instr.findKey, run_underlying hk, hq, hz]
          rw [this]; exact hg
        · have : (Instr.lookup t (.map (some r)) vx ok).run P w = .ok (if ok then .tuple #[v, .bool true] else v) w := by
            simp [Instr.lookup, run_underlying hu, getObj_run hw, ck, Instr.findKey, run_underlying hk, hq]
          rw [this]
          cases ok with
          | true => exact Good.here hR r1 hy1 (show VR E (.tuple [a, .bool true]) _ from ⟨_, rfl, VRL.cons hv (VRL.cons rfl VRL.nil)⟩) h1
          | false => exact Good.here hR r1 hy1 hv h1
      · exact (hA.fail _ h).elim
    case nilm =>
      cases hm
      have ck := fun (em : Bool) => checkKey_run (P := P) (w := w) (empty := em) hk hd 9999 vx
      obtain ⟨z, hz, hg⟩ := none_case (Refn.refl s) hR.sy h
      have : (Instr.lookup t (.map none) vx ok).run P w = .ok (if ok then .tuple #[z, .bool false] else z) w := by
        simp [Instr.lookup, run_underlying hu, ck, Instr.findKey, run_underlying hk, Instr.findNow, hz]
      rw [this]; exact hg
    all_goals exact (hA.fail _ h).elim
  · exact (hA.fail _ h).elim

theorem setObj_run {r : Nat} {ms : Array MapEntry} {c : Nat} {o : Obj} (h : w.heap[r]? = some (.map ms c)) : (setObj r o).run P w = .ok () { w with heap := w.heap.setIfInBounds r o } := by
  simp [setObj, Sem.run, h]
theorem keyLit_same {str : Bool} {x : AV} {vx : Value} (hx : VR E x vx) (h : keyLit str x = true) : Instr.sameBits 10000 vx vx = true := by
  cases x <;> simp only [keyLit, reduceCtorEq] at h
  case int kd n => cases hx; simp [Instr.sameBits]
  case str l n =>
    obtain ⟨a, rfl, _⟩ := hx
    simp only [Instr.sameBits]
    show (a.data == a.data) = true
    simp
theorem findNow_none {str : Bool} {d : TypeDesc} (hd : KK str d) {v : Value} : ∀ {ms : List MapEntry} {i : Nat}, Instr.findNow d v ms i = some none → ∀ x ∈ ms, x.key ≠ v
  | [], _, _, x, hx => by cases hx
  | e :: ms, i, h, x, hx => by
    have h : (match Instr.sameNow d v e.key with
      | some true => some (some (i, e.val))
      | some false => Instr.findNow d v ms (i + 1)
      | none => none) = some none := h
    split at h
    · cases h
    · rename_i q
      rcases List.mem_cons.1 hx with rfl | hx
      · intro e
        rw [e] at q
        unfold KK at hd
        split at hd
        · subst hd
          cases v with
          | string a =>
            have q : some (a == a) = some false := q
            have e : (a == a) = true := (MapKept.bytes_beq a a).2 rfl
            rw [e] at q
            cases q
          | _ => simp [Instr.sameNow] at q
        · obtain ⟨kd, rfl⟩ := hd
          cases v <;> simp [Instr.sameNow] at q
      · exact findNow_none hd h x hx
    · cases h
theorem update_ok (hA : Lawful A Pr) (hR : Rel P E s w) {t : Nat} {m x y : AV} {vm vx vy : Value} {k : St → R} (hm : VR E m vm) (hx : VR E x vx) (hvy : VR E y vy) (h : Pr (updateA P A t s m x y k)) :
    GoodU P E s w ((Instr.mapUpdate t vm vx vy).run P w) fun s' => Pr (k s') := by
  unfold updateA at h
  split at h
  · rename_i b
    obtain ⟨r, c, hr, rfl⟩ := hm
    split at h
    · rename_i es hb
      split at h
      · rename_i hbase
        have hbase := ble_iff.1 hbase
        split at h
        · rename_i str e ht
          obtain ⟨kt, d, hu, hk, hd⟩ := tk_map' ht
          split at h
          · rename_i hlit
            obtain ⟨ms, clock, hw, hM, hStm⟩ := map_of hR hb hr
            have hlt := (Array.getElem?_eq_some_iff.1 hw).1
            obtain ⟨q, s1, es', hq, r1, hy1, h1, h2⟩ := updE_ok hA hd hx hvy clock es ms.toList s 0 _ hR.sy hM h
            rw [hsetK_eq] at h1
            have hR1 := hR.refn r1 hy1
            have ck := checkKey_run (P := P) (w := w) (empty := false) hk hd 9999 vx
            have fin : ∀ (ms' : Array MapEntry) (clock' : Nat), MR E es' ms'.toList → MapKept.Stamped ms' clock' → (Instr.mapUpdate t (.map (some r)) vx vy).run P w = .ok () { w with heap := w.heap.setIfInBounds r (.map ms' clock') } →
                GoodU P E s w ((Instr.mapUpdate t (.map (some r)) vx vy).run P w) fun s' => Pr (k s') := by
              intro ms' clock' hM' hst' hrun
              rw [hrun]
              obtain ⟨hR2, hS2⟩ := set_ok (o' := .map es') (w' := { w with heap := w.heap.setIfInBounds r (.map ms' clock') }) hR1 (by rw [r1.hget]; exact hb) (by rw [r1.base]; exact hbase) hr
                ⟨ms', clock', by simp [hlt], hM', hst'⟩ (fun j hj => by simp [Ne.symm hj]) rfl rfl rfl (by simp)
              exact GoodU.refn r1 ⟨_, E, _, rfl, hR2, hS2, h1⟩
            rcases h2 with ⟨rfl, h2⟩ | ⟨j, v, rfl, hj, h2⟩
            · refine fin (ms.push { key := vx, val := vy, born := clock }) (clock + 1) (by simpa using h2) (MapKept.stamped_push hStm (findNow_none hd hq)) ?_
              simp [Instr.mapUpdate, run_underlying hu, getObj_run hw, ck, Instr.findKey, run_underlying hk, hq, setObj_run hw]
            · refine fin (ms.modify j fun e => { e with key := vx, val := vy }) clock (by simpa using h2) (MapKept.stamped_modify hStm j _ (fun _ _ => rfl) fun e _ he => by
                have hj' : (ms[j]?).map (·.key) = some vx := by simpa using hj
                rw [he] at hj'
                exact (Option.some.inj hj').symm) ?_
              have hj' : (ms[j]?).map (·.key) = some vx := by simpa using hj
              have hks : (Instr.keyThatStays vx vx).run P w = .ok vx w := by simp [Instr.keyThatStays, keyLit_same hx hlit]
              simp [Instr.mapUpdate, run_underlying hu, getObj_run hw, ck, Instr.findKey, run_underlying hk, hq, setObj_run hw, hj', hks]
          · exact (hA.fail _ h).elim
        · exact (hA.fail _ h).elim
      · exact (hA.fail _ h).elim
    · exact (hA.fail _ h).elim
  · exact (hA.fail _ h).elim
theorem makeMap_ok (hR : Rel P E s w) {t : Nat} (hk : Pr (hnewK s (.map []) fun b s => k (.map b) s)) {x : Option Value} (hx : x = none) :
    Good P E s w ((Instr.makeMap t x).run P w) fun v s' => Pr (k v s') := by
  subst hx
  rw [hnewK_eq] at hk
  have : (Instr.makeMap t none).run P w = .ok (.map (some w.heap.size)) (w.alloc (.map #[] 0)) := by simp [Instr.makeMap]
  rw [this]
  obtain ⟨h1, h2⟩ := new_ok (o := .map []) (ob := .map #[] 0) (tot := 0) hR fun E' ext => ⟨#[], 0, heap_alloc_new _ _, rfl, MapKept.stamped_empty 0⟩
  exact ⟨.map s.next, _, _, _, _, rfl, ⟨w.heap.size, 0, Env.add_same _ _ _ _, rfl⟩, h1, h2, hk⟩
end
end Go.Proofs.YthfkajaeikhloaaGreatDoor.Xq

/-! The operations, one by one: append, makeSlice. -/
namespace Go.Proofs.YthfkajaeikhloaaGreatDoor.Xq
open Go

section
variable {P : Program} {E : Env} {s : St} {w : World} {R : Type} {A : Ans R} {Pr : R → Prop} {k : KV R}

theorem Rel.world {w' : World} (hR : Rel P E s w) (h : w'.heap = w.heap) : Rel P E s w' where
  heap := fun b o hb => by
    obtain ⟨r, c, e, hO⟩ := hR.heap b o hb
    exact ⟨r, c, e, hO.world (by rw [h])⟩
  inj := hR.inj
  fresh := hR.fresh
  glob := hR.glob
  next := hR.next
  sy := hR.sy
theorem Step.world {w' : World} (h : w'.heap = w.heap) (ho : w'.os = w.os) (ht : w'.tape = w.tape) (hu : w'.output = w.output) : Step E s w E s w' :=
  ⟨Ext.refl E, rfl, Nat.le_refl _, fun _ _ => rfl, ho, ht, hu, Nat.le_of_eq (by rw [h]), fun _ _ _ => by rw [h], fun b o r c hb hbase k _ => ⟨b, o, c, hb, hbase, k⟩, fun _ _ _ => rfl⟩
/-- a name is given up -/
theorem Rel.kill (hR : Rel P E s w) (b : Nat) : Rel P E (hset s b none) w where
  heap := fun b' o hb => by
    rw [hget_hset] at hb
    split at hb
    · cases hb
    · exact hR.heap b' o hb
  inj := fun b1 b2 o1 o2 r c c' h1 h2 e1 e2 => by
    rw [hget_hset] at h1 h2
    split at h1
    · cases h1
    · split at h2
      · cases h2
      · exact hR.inj b1 b2 o1 o2 r c c' h1 h2 e1 e2
  fresh := hR.fresh
  glob := hR.glob
  next := hR.next
  sy := hR.sy
theorem Step.kill (b : Nat) (hbs : s.base ≤ b) : Step E s w E (hset s b none) w :=
  ⟨Ext.refl E, rfl, Nat.le_refl _, fun _ _ => rfl, rfl, rfl, rfl, Nat.le_refl _, fun _ _ _ => rfl, fun b' o r c hb hbase k _ => by
    rw [hget_hset] at hb
    split at hb
    · cases hb
    · exact ⟨b', o, c, hb, hbase, k⟩, fun b' _ hor => by
    rw [hget_hset]
    split
    · rename_i q
      subst q
      rcases hor with q | q
      · omega
      · exact q.symm
    · rfl⟩

/-! ### the cells to add -/
theorem lenS_run {y : AV} {vy : Value} {n : Nat} (hy : VR E y vy) (h : lenS y = some n) (w : World) : (Builtin.lenOf vy).run P w = .ok n w := by
  cases y <;> simp only [lenS, Option.some.injEq, reduceCtorEq] at h <;> subst h
  case emp => obtain ⟨a, cap, rfl⟩ := hy; simp [Builtin.lenOf]
  · obtain ⟨r, c, _, rfl⟩ := hy; simp [Builtin.lenOf]
  · obtain ⟨r, c, cap, _, _, _, _, rfl⟩ := hy; simp [Builtin.lenOf]
  · cases hy; simp [Builtin.lenOf]
theorem cells_run (hR : Rel P E s w) {b r c : Nat} {l : List AV} {t : Nat} {full : Bool} (hb : hget s b = some (.cells l t full)) (hr : E.ρ b = some (r, c)) {off m : Nat} (h : off + m ≤ l.length) :
    ∃ vals : List Value, VRL E ((l.drop off).take m) vals ∧ vals.length = m ∧
      ∀ (w' : World) (size n len cap : Nat), w'.heap = w.heap → n * size = m → (Builtin.firstCells size n (.slice (some ⟨r, off, none⟩) len cap)).run P w' = .ok vals.toArray w' := by
  obtain ⟨cs, vs, rest, hw, hcs, hl, _, _⟩ := cells_of hR hb hr
  have hvl := hl.length
  refine ⟨(vs.drop off).take m, (hl.drop off).take m, by simp; omega, fun w' size n len cap hw' hm => ?_⟩
  refine run_firstCells_some w' size n ⟨r, off, none⟩ len cap _ (by simp; omega) fun j v hj => ?_
  rw [Addr_add, cell_of_row w' r (off + j) cs t (0, 0) (by rw [hw']; exact hw), ← Array.getElem?_toList, hcs]
  rw [List.getElem?_take] at hj
  split at hj
  · rw [List.getElem?_drop] at hj
    rw [List.getElem?_append_left (by have := (List.getElem?_eq_some_iff.1 hj).1; exact this)]
    exact hj
  · cases hj
theorem firstA_ok (hA : Lawful A Pr) (hR : Rel P E s w) {y : AV} {vy : Value} {es n : Nat} {k : List AV → R} (hy : VR E y vy) (h : Pr (firstA A s es n y k)) (hn : y = .nils ∨ y = .emp → n = 0) :
    ∃ (new : List AV) (vals : List Value), VRL E new vals ∧ vals.length = n * es ∧ (∀ w' : World, w'.heap = w.heap → (Builtin.firstCells es n vy).run P w' = .ok vals.toArray w') ∧ Pr (k new) := by
  unfold firstA at h
  split at h
  · cases hy
    exact ⟨[], [], VRL.nil, by simp [hn (.inl rfl)], fun w' _ => run_firstCells_none w' es n 0 0, h⟩
  · obtain ⟨a, cap, rfl⟩ := hy
    obtain rfl := hn (.inr rfl)
    refine ⟨[], [], VRL.nil, by simp, fun w' _ => ?_, h⟩
    cases a with
    | none => exact run_firstCells_none w' es 0 0 cap
    | some a => exact run_firstCells_some w' es 0 a 0 cap [] (by simp) fun j v hj => by simp at hj
  · rename_i b off len cap
    obtain ⟨r, c, hr, rfl⟩ := hy
    split at h
    · rename_i l t f hb
      split at h
      · rename_i hle
        rw [lenL_eq] at hle
        have hle := ble_iff.1 hle
        rw [takeL_eq, dropL_eq] at h
        obtain ⟨vals, h1, h2, h3⟩ := cells_run (P := P) hR hb hr hle
        exact ⟨_, vals, h1, h2, fun w' hw' => h3 w' es n len cap hw' rfl, h⟩
      · exact (hA.fail _ h).elim
    · exact (hA.fail _ h).elim
  · rename_i b off len es'
    obtain ⟨r, c, cap, hr, _, _, _, rfl⟩ := hy
    split at h
    · rename_i l t f hb
      split at h
      · rename_i hle
        rw [lenL_eq] at hle
        have hle := ble_iff.1 hle
        rw [takeL_eq, dropL_eq] at h
        obtain ⟨vals, h1, h2, h3⟩ := cells_run (P := P) hR hb hr hle
        exact ⟨_, vals, h1, h2, fun w' hw' => h3 w' es n len cap hw' rfl, h⟩
      · exact (hA.fail _ h).elim
    · exact (hA.fail _ h).elim
  · exact (hA.fail _ h).elim

/-! ### append -/
/-- append within the capacity -/
theorem append_room_run {ts : Array Nat} {ty t t2 e es sLen sCap n : Nat} {base : Option Addr} {vy : Value} {vals : List Value} (h0 : ts[0]? = some t) (h1 : ts[1]? = some t2)
    (ht : P.underlying t = some (.slice e)) {e2 : Nat} (ht2 : P.underlying t2 = some (.slice e2)) (hes : szOf P e = some es) (hlen : (Builtin.lenOf vy).run P w = .ok n w)
    (hf : (Builtin.firstCells es n vy).run P w = .ok vals.toArray w) (hroom : sLen + n ≤ sCap) :
    (Builtin.append_ ts ty #[.slice base sLen sCap, vy]).run P w =
      (match base with
       | some a => ((storeCells (a.add (sLen * es)) vals 0).run P w).andThen fun _ w' => .ok (.slice base (sLen + n) sCap) w'
       | none => .ok (.slice base (sLen + n) sCap) w) := by
  cases base <;> simp [Builtin.append_, h0, h1, run_underlying ht, run_underlying ht2, szOf_run hes, hlen, hf, hroom]
/-- append beyond it -/
theorem append_grow_run {ts : Array Nat} {ty t t2 e es by_ sLen sCap n : Nat} {base : Option Addr} {vy z : Value} {vals olds : List Value} (h0 : ts[0]? = some t) (h1 : ts[1]? = some t2)
    (ht : P.underlying t = some (.slice e)) {e2 : Nat} (ht2 : P.underlying t2 = some (.slice e2)) (hes : szOf P e = some es) (hby : bytesOf P e = some by_) (hlen : (Builtin.lenOf vy).run P w = .ok n w)
    (hf : (Builtin.firstCells es n vy).run P w.drew = .ok vals.toArray w.drew) (hof : (Builtin.firstCells es sLen (.slice base sLen sCap)).run P w.drew = .ok olds.toArray w.drew)
    (hz : (zeroValue e).run P w.drew = .ok z w.drew) (hroom : sCap < sLen + n) (hpos : 1 ≤ by_) (hsz : (2 * (sLen + n) + 768) * by_ ≤ 281474976710656) :
    (Builtin.append_ ts ty #[.slice base sLen sCap, vy]).run P w =
      .ok (.slice (some ⟨w.heap.size, 0, none⟩) (sLen + n) (grownCap w (sLen + n) sCap e))
        (w.drew.alloc (.cells (olds ++ vals ++ (Builtin.zeroCells z.cells (grownCap w (sLen + n) sCap e - (sLen + n))).toList).toArray e)) := by
  have hn : ¬ (sLen + n ≤ sCap) := by omega
  have hbound : 2 * (sLen + n) + 768 ≤ 281474976710656 := Nat.le_trans (Nat.le_mul_of_pos_right _ hpos) hsz
  have h63' : ¬ (9223372036854775807 < ((sLen : Int) + (n : Int))) := by omega
  have hcap : Builtin.nextslicecap (sLen + n) sCap * by_ ≤ 281474976710656 := by
    refine Nat.le_trans (Nat.mul_le_mul_right by_ (nextslicecap_le hroom)) ?_
    refine Nat.le_trans (Nat.mul_le_mul_right by_ ?_) hsz
    omega
  have h48' : ¬ (281474976710656 < Builtin.nextslicecap (sLen + n) sCap * by_) := by omega
  have hinfo : ∃ i, P.info? e = some i ∧ i.bytes = by_ := by
    unfold bytesOf at hby
    cases hi : P.info? e with
    | none => rw [hi] at hby; cases hby
    | some i => rw [hi] at hby; exact ⟨i, rfl, by simpa using hby⟩
  obtain ⟨i, hi, rfl⟩ := hinfo
  simp [Builtin.append_, h0, h1, run_underlying ht, run_underlying ht2, szOf_run hes, hlen, hn, h63', typeInfo, hi, h48', Question.forced, hf, hof, hz, newRow, grownCap]
  congr 2
  apply Array.ext'
  simp
/-- the new row -/
theorem grow_good {s1 : St} {k : KV R} (hR1 : Rel P E s1 w) (hS : Step E s w E s1 w) {l : List AV} {olds vals : List Value} {z : Value} {e es need cap : Nat} (hl : VRL E l (olds ++ vals)) (hlen : (olds ++ vals).length = need * es)
    (hz : z.cells.size = es) (hes : 0 < es) (hc : need ≤ cap) (h : Pr (newA s1 l e false fun b s => k (.sliceT b 0 need es) s)) :
    Good P E s w (.ok (.slice (some ⟨w.heap.size, 0, none⟩) need cap) (w.drew.alloc (.cells (olds ++ vals ++ (Builtin.zeroCells z.cells (cap - need)).toList).toArray e))) fun v s' => Pr (k v s') := by
  unfold newA at h
  rw [hnewK_eq] at h
  have hR2 : Rel P E s1 w.drew := hR1.world rfl
  have hS2 : Step E s1 w E s1 w.drew := Step.world rfl rfl rfl rfl
  obtain ⟨h1, h2⟩ := newCells_ok (t := e) (full := false) (rest := (Builtin.zeroCells z.cells (cap - need)).toList) hR2 hl (fun q => by cases q)
  refine ⟨.sliceT s1.next 0 need es, _, _, _, _, rfl, ⟨w.heap.size, _, cap, Env.add_same _ _ _ _, ?_, hes, hc, rfl⟩, h1, (hS.trans hS2).trans h2, h⟩
  rw [List.length_append, hlen, Array.length_toList, size_zeroCells, hz, Nat.zero_add, ← Nat.add_mul]
  congr 1
  omega
/-- more cells behind the known ones, in the same block: it gets a new name -/
theorem alias_ok (hR : Rel P E s w) {b r c : Nat} {l : List AV} {t : Nat} {full : Bool} (hb : hget s b = some (.cells l t full)) (hbase : s.base ≤ b) (hr : E.ρ b = some (r, c))
    {new : List AV} {vals : List Value} (hn : VRL E new vals) (h1 : ∀ v ∈ vals, v.oneCell' = true) {p : Nat} (hp : p ≤ l.length) (hfit : p + vals.length ≤ c) :
    ∃ w', (storeCells ⟨r, p, none⟩ vals 0).run P w = .ok () w' ∧ Rel P (E.add s.next r c) (hnew (hset s b none) (.cells (l.take p ++ new) t false)) w' ∧
      Step E s w (E.add s.next r c) (hnew (hset s b none) (.cells (l.take p ++ new) t false)) w' := by
  obtain ⟨cs, vs, rest, hw, hcs, hl, hf, hc⟩ := cells_of hR hb hr
  have hvl := hl.length
  have hsz : cs.size = vs.length + rest.length := by rw [← Array.length_toList, hcs, List.length_append]
  have hrun := run_storeCells_at P r p t vals 0 cs w hw (by omega) h1
  have hnew := setRow_heap w r cs (cs.toList.take (p + 0) ++ vals ++ cs.toList.drop (p + 0 + vals.length)).toArray t (0, 0) hw
  have hlt := (Array.getElem?_eq_some_iff.1 hw).1
  refine ⟨_, hrun, ?_⟩
  have hx := hR.fresh s.next (Nat.le_refl _)
  have ext := Ext.add hx r c
  have alone : ∀ b' o r' c', hget s b' = some o → b' ≠ b → E.ρ b' = some (r', c') → r' ≠ r := fun b' o r' c' hb' hne hr' q => by
    subst q; exact hne (hR.inj b' b o _ _ _ _ hb' hb hr' hr)
  have get : ∀ b', hget (Xq.hnew (hset s b none) (.cells (l.take p ++ new) t false)) b' = if s.next = b' then some (.cells (l.take p ++ new) t false) else if b = b' then none else hget s b' := fun b' => by
    rw [hget_hnew, hget_hset]; rfl
  have hOnew : OR (E.add s.next r c) (.cells (l.take p ++ new) t false) r c (w.setRow r (cs.toList.take (p + 0) ++ vals ++ cs.toList.drop (p + 0 + vals.length)).toArray) := by
    refine ⟨_, vs.take p ++ vals, cs.toList.drop (p + vals.length), hnew, ?_, ((hl.take p).app hn).mono ext, fun q => (by cases q), ?_⟩
    · simp only [Nat.add_zero]
      rw [hcs, List.take_append_of_le_length (by omega)]
    · simp only [Nat.add_zero, List.size_toArray, List.length_append, List.length_take, List.length_drop, Array.length_toList]
      omega
  refine ⟨⟨?_, ?_, ?_, ?_, ?_, hR.sy.add _ _ _⟩, ⟨ext, rfl, Nat.le_succ _, fun b hb => Env.add_other E (Nat.ne_of_lt hb) _ _, rfl, rfl, rfl, by simp, ?_, ?_, fun b' hn hor => by
    rw [get, if_neg (by omega), if_neg]
    rintro rfl
    rcases hor with q | q
    · omega
    · rw [hb] at q; cases q⟩⟩
  · intro b' o hb'
    rw [get] at hb'
    split at hb'
    · rename_i q; subst q; cases hb'
      exact ⟨r, c, Env.add_same _ _ _ _, hOnew⟩
    · split at hb'
      · cases hb'
      · rename_i q1 q2
        obtain ⟨r', c', hr', hO⟩ := hR.heap b' o hb'
        exact ⟨r', c', ext.ρ _ _ hr', (hO.mono ext).world (setRow_other w r r' _ (alone b' o r' c' hb' (fun e => q2 e.symm) hr'))⟩
  · intro b1 b2 o1 o2 r0 c1 c2 g1 g2 e1 e2
    rw [get] at g1 g2
    split at g1
    · rename_i q1
      subst q1
      rw [Env.add_same] at e1; cases e1
      split at g2
      · rename_i q2; exact q2
      · split at g2
        · cases g2
        · rename_i q2 q3
          rw [Env.add_other _ (fun e => q2 e.symm)] at e2
          exact (alone b2 o2 _ _ g2 (fun e => q3 e.symm) e2 rfl).elim
    · split at g1
      · cases g1
      · rename_i q2 q3
        rw [Env.add_other _ (fun e => q2 e.symm)] at e1
        split at g2
        · rename_i q4
          subst q4
          rw [Env.add_same] at e2; cases e2
          exact (alone b1 o1 _ _ g1 (fun e => q3 e.symm) e1 rfl).elim
        · split at g2
          · cases g2
          · rename_i q4 q5
            rw [Env.add_other _ (fun e => q4 e.symm)] at e2
            exact hR.inj b1 b2 o1 o2 _ _ _ g1 g2 e1 e2
  · intro b' hb'
    have hb'' : s.next + 1 ≤ b' := hb'
    rw [Env.add_other _ (by omega)]
    exact hR.fresh b' (by omega)
  · intro g r' c' hg hr'
    have := hR.next
    rw [Env.add_other _ (by omega)] at hr'
    exact hR.glob g r' c' hg hr'
  · have := hR.next; exact Nat.le_succ_of_le this
  · intro r0 hr0 hk
    exact setRow_other w r r0 _ (fun q => hk b _ c hb hbase (q ▸ hr))
  · intro b' o r0 c0 hb' hbase' hr' hlt'
    rw [get] at hb'
    split at hb'
    · rename_i q
      subst q
      rw [Env.add_same] at hr'; cases hr'
      exact ⟨b, _, c, hb, hbase, hr⟩
    · split at hb'
      · cases hb'
      · rename_i q1 q2
        rw [Env.add_other _ (fun e => q1 e.symm)] at hr'
        exact ⟨b', o, c0, hb', hbase', hr'⟩
theorem append_ok (hA : Lawful A Pr) (hR : Rel P E s w) {t t2 ty : Nat} {ts : Array Nat} {x y : AV} {vx vy : Value} (h0 : ts[0]? = some t) (h1 : ts[1]? = some t2) (hx : VR E x vx) (hy : VR E y vy)
    (h : Pr (appendA P A t t2 x y s k)) : Good P E s w ((Builtin.append_ ts ty #[vx, vy]).run P w) fun v s' => Pr (k v s') := by
  unfold appendA at h
  split at h
  · rename_i ht2
    obtain ⟨e2, ht2⟩ := tk_slice ht2
    split at h
    · rename_i e he
      have ht := sliceElem_some he
      split at h
      · rename_i es hes
        split at h
        · rename_i by_ hby
          split at h
          · rename_i z hz
            obtain ⟨zv, hzr, hzl⟩ := zeroCells_some hz E w.drew
            split at h
            · rename_i hok
              have hok' : z.length = es ∧ 1 ≤ es ∧ 1 ≤ by_ := by
                unfold appOk at hok
                split at hok
                · cases hok
                · rename_i q1
                  split at hok
                  · cases hok
                  · rename_i q2
                    rw [lenL_eq] at q1
                    exact ⟨Nat.eq_of_beq_eq_true q1, ble_iff.1 q2, ble_iff.1 hok⟩
              obtain ⟨hzlen, hes0, hby0⟩ := hok'
              have hzs : zv.cells.size = es := by rw [← Array.length_toList, ← hzl.length, hzlen]
              split at h
              · rename_i n hn
                have hlen := lenS_run (P := P) hy hn w
                obtain ⟨new, vals, hv, hvl, hf, h2⟩ := firstA_ok (P := P) hA hR hy h (fun q => by rcases q with q | q <;> subst q <;> simpa [lenS] using hn.symm)
                clear h
                unfold appendE at h2
                split at h2
                · cases hx
                  split at h2
                  · rw [append_room_run h0 h1 ht ht2 hes hlen (hf w rfl) (Nat.le_refl _)]
                    exact Good.pure hR (show VR E .nils _ from rfl) h2
                  · rename_i n'
                    split at h2
                    · rename_i hsz
                      have hsz := ble_iff.1 hsz
                      have hof : (Builtin.firstCells es 0 (.slice none 0 0)).run P w.drew = .ok (([] : List Value)).toArray w.drew := run_firstCells_none w.drew es 0 0 0
                      rw [append_grow_run h0 h1 ht ht2 hes hby hlen (hf w.drew rfl) hof hzr (by omega) hby0 (by simpa using hsz)]
                      simp only [Nat.zero_add]
                      exact grow_good hR (Step.refl E s w) (olds := []) hv (by simpa using hvl) hzs hes0 (grownCap_ge _ _ _ _) h2
                    · exact (hA.fail _ h2).elim
                · rename_i b off len cap
                  obtain ⟨r, c, hr, rfl⟩ := hx
                  split at h2
                  · rename_i hroom
                    have hroom := ble_iff.1 hroom
                    obtain ⟨s', E', w', g1, g2, g3, g4⟩ := storeL_ok hA hR hr hv h2
                    rw [append_room_run h0 h1 ht ht2 hes hlen (hf w rfl) hroom]
                    simp only [Addr_add, g1, Result.andThen_ok]
                    exact ⟨.slice b off (len + n) cap, s', E', _, w', rfl, ⟨r, c, g3.ext.ρ _ _ hr, rfl⟩, g2, g3, g4⟩
                  · rename_i hroom
                    have hroom : ¬ (len + n ≤ cap) := fun q => by rw [ble_iff.2 q] at hroom; cases hroom
                    split at h2
                    · rename_i hsz
                      have hsz := ble_iff.1 hsz
                      obtain ⟨old, olds, ho, hol, hof, h3⟩ := firstA_ok (P := P) hA hR (y := .slice b off len cap) (vy := .slice (some ⟨r, off, none⟩) len cap) ⟨r, c, hr, rfl⟩ h2 (fun q => by rcases q with q | q <;> cases q)
                      rw [append_grow_run h0 h1 ht ht2 hes hby hlen (hf w.drew rfl) (hof w.drew rfl) hzr (by omega) hby0 hsz]
                      rw [appL_eq] at h3
                      exact grow_good hR (Step.refl E s w) (ho.app hv) (by rw [List.length_append, hol, hvl, Nat.add_mul]) hzs hes0 (grownCap_ge _ _ _ _) h3
                    · exact (hA.fail _ h2).elim
                · rename_i b off len es'
                  have hx' := hx
                  obtain ⟨r, c, cap, hr, hcap, hes1, hlc, rfl⟩ := hx
                  split at h2
                  · exact (hA.fail _ h2).elim
                  · rename_i heq
                    have heq := Nat.eq_of_beq_eq_true heq
                    subst heq
                    split at h2
                    · rename_i l t' full hb
                      obtain ⟨cs, vs, rest, hw, hcs, hl, _, hcc⟩ := cells_of hR hb hr
                      have hvsl := hl.length
                      have hle : l.length ≤ c := by rw [← hcc, ← Array.length_toList, hcs, List.length_append]; omega
                      split at h2
                      · rename_i hin
                        rw [lenL_eq] at hin
                        have hin := ble_iff.1 hin
                        have hroom : len + n ≤ cap := by
                          refine Nat.le_of_mul_le_mul_right (c := es) ?_ hes1
                          omega
                        obtain ⟨s', E', w', g1, g2, g3, g4⟩ := storeL_ok hA hR hr hv h2
                        rw [append_room_run h0 h1 ht ht2 hes hlen (hf w rfl) hroom]
                        simp only [Addr_add, g1, Result.andThen_ok]
                        exact ⟨.sliceT b off (len + n) es, s', E', _, w', rfl, ⟨r, c, cap, g3.ext.ρ _ _ hr, hcap, hes1, hroom, rfl⟩, g2, g3, g4⟩
                      · split at h2
                        · exact (hA.fail _ h2).elim
                        · rename_i hbehind
                          rw [lenL_eq] at hbehind
                          have hbehind := ble_iff.1 hbehind
                          split at h2
                          · exact (hA.fail _ h2).elim
                          · rename_i hsz
                            have hsz := ble_iff.1 hsz
                            split at h2
                            · exact (hA.fail _ h2).elim
                            · rename_i hoff
                              have hoff := Nat.eq_of_beq_eq_true hoff
                              subst hoff
                              split at h2
                              · exact (hA.fail _ h2).elim
                              · rename_i hte
                                have hte := Nat.eq_of_beq_eq_true hte
                                subst hte
                                split at h2
                                · exact (hA.fail _ h2).elim
                                · rename_i hbase
                                  have hbase := ble_iff.1 hbase
                                  split at h2
                                  · exact (hA.fail _ h2).elim
                                  · rename_i hsc
                                    rw [hsetK_eq, appL_eq, takeL_eq, Nat.zero_add] at h2
                                    have hbl : len * es ≤ l.length := by omega
                                    by_cases hroom : len + n ≤ cap
                                    · rw [append_room_run h0 h1 ht ht2 hes hlen (hf w rfl) hroom]
                                      have hfit : len * es + vals.length ≤ c := by
                                        rw [hvl, ← Nat.add_mul, ← hcap, Nat.zero_add]
                                        exact Nat.mul_le_mul_right _ hroom
                                      obtain ⟨w', g1, g2, g3⟩ := alias_ok hR hb hbase hr hv (allScal hv hsc) hbl hfit
                                      have hadd : (0 + len * es) = len * es := by omega
                                      simp only [Addr_add, hadd, g1, Result.andThen_ok]
                                      unfold newA at h2
                                      rw [hnewK_eq] at h2
                                      exact ⟨.sliceT s.next 0 (len + n) es, _, _, _, w', rfl, ⟨r, c, cap, Env.add_same _ _ _ _, hcap, hes1, hroom, rfl⟩, g2, g3, h2⟩
                                    · obtain ⟨olds, g1, g2, g3⟩ := cells_run (P := P) hR hb hr (off := 0) (m := len * es) (by omega)
                                      simp only [List.drop_zero] at g1
                                      rw [append_grow_run h0 h1 ht ht2 hes hby hlen (hf w.drew rfl) (g3 w.drew es len len cap rfl rfl) hzr (by omega) hby0 hsz]
                                      exact grow_good (hR.kill b) (Step.kill b hbase) (g1.app hv) (by rw [List.length_append, g2, hvl, Nat.add_mul]) hzs hes0 (grownCap_ge _ _ _ _) h2
                    · exact (hA.fail _ h2).elim
                · exact (hA.fail _ h2).elim
              · exact (hA.fail _ h).elim
            · exact (hA.fail _ h).elim
          · exact (hA.fail _ h).elim
        · exact (hA.fail _ h).elim
      · exact (hA.fail _ h).elim
    · exact (hA.fail _ h).elim
  · exact (hA.fail _ h).elim
end
end Go.Proofs.YthfkajaeikhloaaGreatDoor.Xq

/-! One operation. -/
namespace Go.Proofs.YthfkajaeikhloaaGreatDoor.Xq
open Go

section
variable {P : Program} {E : Env} {s : St} {w : World} {R : Type} {A : Ans R} {Pr : R → Prop} {k : KV R}

theorem makeSlice_ok (hA : Lawful A Pr) (hR : Rel P E s w) {t : Nat} {l c : AV} {vl vc : Value} (hl : VR E l vl) (hc : VR E c vc) (h : Pr (makeSliceA P A t l c s k)) :
    Good P E s w ((Instr.makeSlice t vl vc).run P w) fun v s' => Pr (k v s') := by
  unfold makeSliceA at h
  split at h
  · rename_i e he
    have hu := sliceElem_some he
    split at h
    · rename_i z hz
      obtain ⟨x, hx, hzl⟩ := zeroCells_some hz E w
      split at h
      · rename_i m hm
        split at h
        · exact (hA.fail _ h).elim
        · rename_i hzm
          rw [lenL_eq] at hzm
          have hzm := Nat.eq_of_beq_eq_true hzm
          split at h
          · rename_i by_ hby
            obtain ⟨kd1, n, s1, rfl, r1, hR1, h1⟩ := getN_good hA hR hl h
            obtain ⟨kd2, cc, s2, rfl, r2, hR2, h2⟩ := getN_good hA hR1 hc h1
            split at h2
            · exact (hA.fail _ h2).elim
            · rename_i hle
              have hle := ble_iff.1 hle
              split at h2
              · exact (hA.fail _ h2).elim
              · rename_i hbytes
                have hbytes := ble_iff.1 hbytes
                split at h2
                · exact (hA.fail _ h2).elim
                · rename_i hmil
                  have hmil := ble_iff.1 hmil
                  obtain ⟨i, hi, rfl⟩ : ∃ i, P.info? e = some i ∧ i.bytes = by_ := by
                    unfold bytesOf at hby
                    cases hi : P.info? e with
                    | none => rw [hi] at hby; cases hby
                    | some i => rw [hi] at hby; exact ⟨i, rfl, by simpa using hby⟩
                  obtain ⟨z1, z2⟩ := zeros_run hx hzl hzm cc
                  obtain ⟨E', hR', hS, he', hk⟩ := newA_ok (t := e) hR2 z2 h2
                  have w1 : IntKind.i64.wrap ((n : Nat) : Int) = (n : Int) := by
                    exact wrap_in (by simp [IntKind.min, IntKind.signed, IntKind.bits] <;> omega) (by simp [IntKind.max, IntKind.signed, IntKind.bits]; omega)
                  have w2 : IntKind.i64.wrap ((cc : Nat) : Int) = (cc : Int) := by
                    exact wrap_in (by simp [IntKind.min, IntKind.signed, IntKind.bits] <;> omega) (by simp [IntKind.max, IntKind.signed, IntKind.bits]; omega)
                  refine Good.refn (r1.trans r2) ⟨.slice s2.next 0 n cc, _, E', .slice (some ⟨w.heap.size, 0, none⟩) n cc, _, ?_, ⟨_, _, he', rfl⟩, hR', hS, hk⟩
                  have b1 : ¬ ((i.bytes : Int) * (cc : Int) > 281474976710656) := by
                    rw [← Int.natCast_mul]; omega
                  have b2 : ¬ ((n : Int) < 0) := by omega
                  have b3 : ¬ ((n : Int) > (cc : Int)) := by omega
                  have b4 : ¬ ((cc : Int) < 0) := by omega
                  by_cases h0 : cc * m = 0
                  · rw [if_pos h0] at z1
                    simp [Instr.makeSlice, run_underlying hu, asInt, asIntOf, typeInfo, hi, w1, w2, b1, b2, b3, b4, szOf_run hm, h0, newRow]
                  · rw [if_neg h0] at z1
                    simp [Instr.makeSlice, run_underlying hu, asInt, asIntOf, typeInfo, hi, w1, w2, b1, b2, b3, b4, szOf_run hm, h0, hx, newRow]
          · exact (hA.fail _ h).elim
      · exact (hA.fail _ h).elim
    · exact (hA.fail _ h).elim
  · exact (hA.fail _ h).elim

/-! ### one operation -/
/-- the fence that lets everything in, in a round or in none -/
def FW (x : Option Nat) : Fence := { Fence.wide with round := x }
theorem callsFW {x : Option Nat} {n : Nat} {f : FuncId} {args : Array Value} {w : World} {Q : Ending → World → Prop} : CallsIn (FW x) n P f args w Q ↔ Calls P f args w Q :=
  Iff.trans (show CallsIn (FW x) n P f args w Q ↔ CallsIn Fence.wide n P f args w Q from Iff.rfl) callsIn_wide
theorem roundFW {x : Option Nat} {n l f : Nat} {tmps : Array Value} {ca cb : Code} {w : World} {Q : Ending → World → Prop} (h : RoundIn Fence.wide 0 P l f tmps ca cb w Q) : RoundIn (FW x) n P l f tmps ca cb w Q :=
  ⟨trivial, fun c cs _ => h.2 c cs (room_wide _)⟩
/-- what an operation comes to -/
def StepRes (P : Program) (E : Env) (s : St) (w : World) (rn : Result Next) (K : AV → St → Prop) : Prop :=
  (∃ v s' E' x w', (rn = .ok (.value x) w' ∨ (rn = .ok .skip w' ∧ x = undef)) ∧ VR E' v x ∧ Rel P E' s' w' ∧ Step E s w E' s' w' ∧ K v s') ∨
  (∃ f args, rn = .ok (.enter f args) w ∧ Calls P f args w fun e w' => ∃ v s' E' x, e = .returned x ∧ VR E' v x ∧ Rel P E' s' w' ∧ Step E s w E' s' w' ∧ K v s') ∨
  (∃ l fn tmps ca cb, rn = .ok (.round l fn tmps ca cb) w ∧ RoundIn Fence.wide 0 P l fn tmps ca cb w fun e w' => ∃ v s' E' x, e = .returned x ∧ VR E' v x ∧ Rel P E' s' w' ∧ Step E s w E' s' w' ∧ K v s')
theorem StepRes.wp {x : Option Nat} {n : Nat} {o : Oper} {a : Act} {next : Act → World → Prop} {Q : Exit → Act → World → Prop} {K : AV → St → Prop} (h : StepRes P E s w ((execOp a.eval o).run P w) K) (hd : ∀ c, o.op ≠ .defer c)
    (hn : ∀ v s' E' x w', VR E' v x → Rel P E' s' w' → Step E s w E' s' w' → K v s' → next (a.put o.dst x) w') : o.wpIn (FW x) n P a w next Q := by
  refine ⟨fun _ _ => trivial, ?_⟩
  rw [Oper.semAt_eq _ _ _ hd]
  rcases h with ⟨v, s', E', x, w', h1, h2, h3, h4, h5⟩ | ⟨f, args, h1, h2⟩ | ⟨l, fn, tmps, ca, cb, h1, h2⟩
  · rcases h1 with h1 | ⟨h1, rfl⟩
    · rw [h1]; exact hn v s' E' x w' h2 h3 h4 h5
    · rw [h1]; exact hn v s' E' _ w' h2 h3 h4 h5
  · rw [h1]
    exact ⟨fun q => (by cases q), callsFW.2 (Calls.mono h2 fun e w' ⟨v, s', E', x, he, g1, g2, g3, g4⟩ => by subst he; exact hn v s' E' x w' g1 g2 g3 g4)⟩
  · rw [h1]
    exact ⟨fun q => (by cases q), roundFW (RoundIn.mono h2 fun e w' ⟨v, s', E', x, he, g1, g2, g3, g4⟩ => by subst he; exact hn v s' E' x w' g1 g2 g3 g4)⟩
theorem StepRes.ex {rn : Result Next} {K : AV → St → Prop} (h : StepRes P E s w rn K) : ∃ v s' E' x w', VR E' v x ∧ Rel P E' s' w' ∧ Step E s w E' s' w' ∧ K v s' := by
  rcases h with ⟨v, s', E', x, w', h1, h2, h3, h4, h5⟩ | ⟨f, args, h1, h2⟩ | ⟨l, fn, tmps, ca, cb, h1, h2⟩
  · exact ⟨v, s', E', x, w', h2, h3, h4, h5⟩
  · obtain ⟨e, w', fr, ⟨v, s', E', x, _, g1, g2, g3, g4⟩, _⟩ := h2 []
    exact ⟨v, s', E', x, w', g1, g2, g3, g4⟩
  · obtain ⟨e, w', ⟨v, s', E', x, _, g1, g2, g3, g4⟩, _⟩ := h2.2 default [] (room_wide _)
    exact ⟨v, s', E', x, w', g1, g2, g3, g4⟩
theorem StepRes.mono {rn : Result Next} {K K' : AV → St → Prop} (h : StepRes P E s w rn K) (hk : ∀ v s', K v s' → K' v s') : StepRes P E s w rn K' := by
  rcases h with ⟨v, s', E', x, w', h1, h2, h3, h4, h5⟩ | ⟨f, args, h1, h2⟩ | ⟨l, fn, tmps, ca, cb, h1, h2⟩
  · exact .inl ⟨v, s', E', x, w', h1, h2, h3, h4, hk _ _ h5⟩
  rotate_left
  · exact .inr (.inr ⟨l, fn, tmps, ca, cb, h1, RoundIn.mono h2 fun e w' ⟨v, s', E', x, he, g1, g2, g3, g4⟩ => ⟨v, s', E', x, he, g1, g2, g3, hk _ _ g4⟩⟩)
  · exact .inr <| .inl ⟨f, args, h1, Calls.mono h2 fun e w' ⟨v, s', E', x, he, g1, g2, g3, g4⟩ => ⟨v, s', E', x, he, g1, g2, g3, hk _ _ g4⟩⟩
theorem Good.step {m : Sem Value} {K : AV → St → Prop} (h : Good P E s w (m.run P w) K) : StepRes P E s w ((do let v ← m; Pure.pure (Next.value v) : Sem Next).run P w) K := by
  obtain ⟨v, s', E', x, w', h1, h2, h3, h4, h5⟩ := h
  exact .inl ⟨v, s', E', x, w', .inl (by simp [h1]), h2, h3, h4, h5⟩
theorem GoodU.step {m : Sem Unit} {K : AV → St → Prop} (h : GoodU P E s w (m.run P w) fun s' => K .any s') : StepRes P E s w ((do m; Pure.pure Next.skip : Sem Next).run P w) K := by
  obtain ⟨s', E', w', h1, h3, h4, h5⟩ := h
  exact .inl ⟨.any, s', E', undef, w', .inr ⟨by simp [h1], rfl⟩, trivial, h3, h4, h5⟩
theorem StepRes.pure {x : Value} {v : AV} {K : AV → St → Prop} (hR : Rel P E s w) (hv : VR E v x) (hK : K v s) : StepRes P E s w (.ok (.value x) w) K :=
  .inl ⟨v, s, E, x, w, .inl rfl, hv, hR, Step.refl E s w, hK⟩

/-- what a call comes to: it enters a function that does as is said, or the value is there at once (functions without a body) -/
def CallRes (P : Program) (E : Env) (s : St) (w : World) (f : Nat) (vs : Array Value) (K : AV → St → Prop) : Prop :=
  ((∃ fn, bodyOf P f = some fn) ∧ Calls P f vs w fun e w' => ∃ v s' E' x, e = .returned x ∧ VR E' v x ∧ Rel P E' s' w' ∧ Step E s w E' s' w' ∧ K v s') ∨
  (∃ v x, (callFunc f vs).run P w = .ok (.value x) w ∧ VR E v x ∧ K v s) ∨
  ∃ b r c fn tmps ca cb, f = yldBase + b ∧ P.funcs[f]? = none ∧ E.ρ b = some (r, c) ∧ (Instr.yield r vs).run P w = .ok (.round r fn tmps ca cb) w ∧
    RoundIn Fence.wide 0 P r fn tmps ca cb w fun e w' => ∃ v s' E' x, e = .returned x ∧ VR E' v x ∧ Rel P E' s' w' ∧ Step E s w E' s' w' ∧ K v s'
/-- calls do as they are said to -/
def CallOk (P : Program) (call : CallT) : Prop :=
  ∀ (R : Type) (A : Ans R) (Pr : R → Prop), Lawful A Pr → ∀ (E : Env) (s : St) (w : World) (f : Nat) (args : List AV) (vs : Array Value) (k : KV R), Rel P E s w → VRL E args vs.toList → Pr (call R A f args s k) →
    CallRes P E s w f vs fun v s' => Pr (k v s')
theorem bodyOf_some {f : Nat} {fn : Func} (h : bodyOf P f = some fn) : P.funcs[f]? = some fn ∧ (fn.name == "runtime.NumGoroutine") = false ∧ ∃ c, fn.body = some c := by
  unfold bodyOf at h
  split at h
  · rename_i g hg
    split at h
    · cases h
    · rename_i hn
      split at h
      · rename_i c hc
        cases h
        exact ⟨hg, hn, c, hc⟩
      · cases h
  · cases h
theorem callFunc_run {f : Nat} {fn : Func} (h : bodyOf P f = some fn) (args : Array Value) : (callFunc f args).run P w = .ok (.enter f args) w := by
  obtain ⟨h1, h2, c, h3⟩ := bodyOf_some h
  have h2' : ¬ fn.name = "runtime.NumGoroutine" := by simpa using h2
  simp [callFunc, h1, h2', h3]
theorem CallRes.mono {f : Nat} {vs : Array Value} {K K' : AV → St → Prop} (h : CallRes P E s w f vs K) (hk : ∀ v s', K v s' → K' v s') : CallRes P E s w f vs K' := by
  rcases h with ⟨h1, h2⟩ | ⟨v, x, h1, h2, h3⟩ | ⟨b, r, c, fn, tmps, ca, cb, h1, h2, h3, h4, h5⟩
  · exact .inl ⟨h1, Calls.mono h2 fun e w' ⟨v, s', E', x, he, g1, g2, g3, g4⟩ => ⟨v, s', E', x, he, g1, g2, g3, hk _ _ g4⟩⟩
  · exact .inr (.inl ⟨v, x, h1, h2, hk _ _ h3⟩)
  · exact .inr (.inr ⟨b, r, c, fn, tmps, ca, cb, h1, h2, h3, h4, RoundIn.mono h5 fun e w' ⟨v, s', E', x, he, g1, g2, g3, g4⟩ => ⟨v, s', E', x, he, g1, g2, g3, hk _ _ g4⟩⟩)
theorem CallRes.calls {f : Nat} {vs : Array Value} {K : AV → St → Prop} (hb : (bodyOf P f).isSome = true) (h : CallRes P E s w f vs K) :
    Calls P f vs w fun e w' => ∃ v s' E' x, e = .returned x ∧ VR E' v x ∧ Rel P E' s' w' ∧ Step E s w E' s' w' ∧ K v s' := by
  rcases h with h | ⟨v, x, hrun, _⟩ | ⟨b, r, c, fn, tmps, ca, cb, h1, h2, _⟩
  · exact h.2
  · obtain ⟨fn, hfn⟩ := Option.isSome_iff_exists.1 hb
    rw [callFunc_run hfn] at hrun
    cases hrun
  · obtain ⟨fn, hfn⟩ := Option.isSome_iff_exists.1 hb
    rw [(bodyOf_some hfn).1] at h2
    cases h2
theorem load_ok (hA : Lawful A Pr) (hR : Rel P E s w) {t : Nat} {x : AV} {vx : Value} (hx : VR E x vx) (h : Pr (match (generalizing := false) x with
    | .ptr b off => loadA P A t s b off fun v => k v s
    | .ptrI b off i es => concI A s i fun n s => match n with | .ofNat n => loadA P A t s b (off + n * es) fun v => k v s | .negSucc _ => A.fail "load"
    | _ => A.fail "load")) : Good P E s w ((Instr.loadAt t vx).run P w) fun v s' => Pr (k v s') := by
  cases x <;> try exact (hA.fail _ h).elim
  case ptr b off =>
    dsimp only at h
    obtain ⟨r, c, hr, rfl⟩ := hx
    obtain ⟨v, y, h1, h2, h3⟩ := loadA_ok hA hR hr h
    have : (Instr.loadAt t (.pointer (some ⟨r, off, none⟩))).run P w = .ok y w := by simp [Instr.loadAt, Instr.sureAddr, h1]
    rw [this]; exact Good.pure hR h2 h3
  case ptrI b off i es =>
    dsimp only at h
    obtain ⟨r, c, n, hr, hn, h0, rfl⟩ := hx
    obtain ⟨n', s1, hn', r1, hy1, h1⟩ := concI_ok hA hR.sy h
    rw [hn] at hn'; cases hn'
    have hR1 := hR.refn r1 hy1
    cases n with
    | negSucc m => exact (hA.fail _ h1).elim
    | ofNat m =>
      obtain ⟨v, y, h2, h3, h4⟩ := loadA_ok hA hR1 hr h1
      have : (Instr.loadAt t (.pointer (some ⟨r, off + (Int.ofNat m).toNat * es, none⟩))).run P w = .ok y w := by
        simp only [Instr.loadAt, Instr.sureAddr, Sem.run_bind, Sem.run_pure, Result.andThen_ok]; exact h2
      rw [this]; exact Good.refn r1 (Good.pure hR1 h3 h4)
theorem store_ok (hA : Lawful A Pr) (hR : Rel P E s w) {t : Nat} {x y : AV} {vx vy : Value} (hx : VR E x vx) (hy : VR E y vy) (h : Pr (match (generalizing := false) x with
    | .ptr b off => storeA P A t s b off y fun s => k .any s
    | .ptrI b off i es => storeJ P A t s b off i es y fun s => k .any s
    | _ => A.fail "store")) : GoodU P E s w ((Instr.storeAt t vx vy).run P w) fun s' => Pr (k .any s') := by
  cases x <;> try exact (hA.fail _ h).elim
  case ptr b off =>
    dsimp only at h
    obtain ⟨r, c, hr, rfl⟩ := hx
    have : (Instr.storeAt t (.pointer (some ⟨r, off, none⟩)) vy).run P w = (storeVar t ⟨r, off, none⟩ vy).run P w := by simp [Instr.storeAt, Instr.sureAddr]
    rw [this]; exact storeA_ok hA hR hr hy h
  case ptrI b off i es =>
    dsimp only at h
    obtain ⟨r, c, n, hr, hn, h0, rfl⟩ := hx
    have : (Instr.storeAt t (.pointer (some ⟨r, off + n.toNat * es, none⟩)) vy).run P w = (storeVar t ⟨r, off + n.toNat * es, none⟩ vy).run P w := by simp [Instr.storeAt, Instr.sureAddr]
    rw [this]; exact storeJ_ok hA hR hr hn h0 hy h
theorem makeInterface_ok (hA : Lawful A Pr) (hR : Rel P E s w) {t : Nat} {x : AV} {vx : Value} (hx : VR E x vx) (h : Pr (match tk P t with
    | .iface => A.fail "makeInterface"
    | .other => A.fail "makeInterface"
    | _ => k (.iface t x) s)) : Good P E s w ((Instr.makeInterface t vx).run P w) fun v s' => Pr (k v s') := by
  have fin : ∀ d, P.underlying t = some d → (∀ m, d ≠ .interface m) → Pr (k (.iface t x) s) → Good P E s w ((Instr.makeInterface t vx).run P w) fun v s' => Pr (k v s') := by
    intro d hd hn hk
    have : (Instr.makeInterface t vx).run P w = .ok (.iface t vx) w := by
      unfold Instr.makeInterface
      simp only [Sem.run_bind, run_underlying hd, Result.andThen_ok]
      cases d <;> first | rfl | exact absurd rfl (hn _)
    rw [this]
    exact Good.pure hR (show VR E (.iface t x) _ from ⟨vx, rfl, hx⟩) hk
  cases ht : tk P t <;> rw [ht] at h <;> dsimp only at h <;> try exact (hA.fail _ h).elim
  case bool => exact fin _ (tk_bool ht) (by intro m q; cases q) h
  case int => exact fin _ (tk_int ht) (by intro m q; cases q) h
  case string => exact fin _ (tk_string ht) (by intro m q; cases q) h
  case pointer => obtain ⟨e, hu⟩ := tk_pointer ht; exact fin _ hu (by intro m q; cases q) h
  case slice => obtain ⟨e, hu⟩ := tk_slice ht; exact fin _ hu (by intro m q; cases q) h
  case array => obtain ⟨n, e, hu⟩ := tk_array ht; exact fin _ hu (by intro m q; cases q) h
  case map => obtain ⟨kt, hu, _⟩ := tk_map ht; exact fin _ hu (by intro m q; cases q) h
  case struct =>
    have : ∃ fs, P.underlying t = some (.struct fs) := by
      unfold tk at ht; split at ht <;> first | exact ⟨_, by assumption⟩ | (split at ht <;> cases ht) | cases ht
    obtain ⟨fs, hu⟩ := this
    exact fin _ hu (by intro m q; cases q) h
  case func => obtain ⟨p, r, v, hu⟩ := tk_func ht; exact fin _ hu (by intro m q; cases q) h
theorem builtin_ok (hA : Lawful A Pr) (hR : Rel P E s w) {b : Builtin} {ts : Array Nat} {ty : Nat} {cs : Array Bool} {args : List AV} {vs : Array Value} (hv : VRL E args vs.toList) (h : Pr (builtinA P A b ts.toList args s k)) :
    StepRes P E s w ((builtin b ts ty cs vs).run P w) fun v s' => Pr (k v s') := by
  unfold builtinA at h
  split at h
  · split at h
    · rename_i t l x hts
      obtain ⟨y, ys, e1, hx, e2⟩ := hv
      have e2 : ys = [] := e2
      subst e2
      have e3 : vs = #[y] := by rw [← Array.toList_inj]; exact e1
      subst e3
      have e4 : ts = (t :: l).toArray := by rw [← Array.toList_inj]; exact hts
      subst e4
      exact Good.step (len_ok hA hR hx h)
    · exact (hA.fail _ h).elim
  · split at h
    · rename_i t t2 l x y hts
      obtain ⟨vx, ys, e1, hx, vy, ys', e2, hy, e3⟩ := hv
      have e3 : ys' = [] := e3
      subst e3; subst e2
      have e3 : vs = #[vx, vy] := by rw [← Array.toList_inj]; exact e1
      subst e3
      exact Good.step (append_ok hA hR (by rw [← Array.getElem?_toList, hts]; rfl) (by rw [← Array.getElem?_toList, hts]; rfl) hx hy h)
    · exact (hA.fail _ h).elim
  · split at h
    · obtain ⟨vx, ys, e1, hx, vy, ys', e2, hy, e3⟩ := hv
      have e3 : ys' = [] := e3
      subst e3; subst e2
      have e3 : vs = #[vx, vy] := by rw [← Array.toList_inj]; exact e1
      subst e3
      exact Good.step (mm_ok (mx := true) (ts := ts) (ty := ty) hA hR hx hy h)
    · exact (hA.fail _ h).elim
  · split at h
    · obtain ⟨vx, ys, e1, hx, vy, ys', e2, hy, e3⟩ := hv
      have e3 : ys' = [] := e3
      subst e3; subst e2
      have e3 : vs = #[vx, vy] := by rw [← Array.toList_inj]; exact e1
      subst e3
      exact Good.step (mm_ok (mx := false) (ts := ts) (ty := ty) hA hR hx hy h)
    · exact (hA.fail _ h).elim
  · exact (hA.fail _ h).elim

theorem PR.map' (E : Env) (f : Operand → AV) (g : Operand → Value) (l : List (Nat × Operand)) (h : ∀ p ∈ l, VR E (f p.2) (g p.2)) : PR E (l.map fun p => (p.1, f p.2)) (l.map fun p => (p.1, g p.2)) := by
  induction l with
  | nil => exact .nil
  | cons p l ih => exact .cons (h p (by simp)) (ih fun q hq => h q (by simp [hq]))
theorem noDefer {call : CallT} (hA : Lawful A Pr) {o : Oper} {fr : Fr} (h : Pr (stepOp o.op P call R A fr s k)) : ∀ c, o.op ≠ .defer c := by
  intro c e
  rw [e] at h
  exact hA.fail _ h
theorem step_ok {call : CallT} (hA : Lawful A Pr) (hC : CallOk P call) (hR : Rel P E s w) {o : Oper} {a : Act} {fr : Fr} (hf : ∀ x ∈ o.op.operands.toList, VR E (evalO P s fr x) (a.eval x))
    (h : Pr (stepOp o.op P call R A fr s k)) : StepRes P E s w ((execOp a.eval o).run P w) fun v s' => Pr (k v s') := by
  unfold execOp
  cases ho : o.op <;> rw [ho] at h hf <;> simp only [Op.operands] at hf
  case move x => exact StepRes.pure hR (hf x (by simp)) h
  case assign x => exact StepRes.pure hR (hf x (by simp)) h
  case pick c x y =>
    change Pr (oPick c x y P call R A fr s k) at h
    unfold oPick at h
    have hc := hf c (by simp)
    split at h
    · rename_i q
      rw [q] at hc
      have hc : a.eval c = .bool true := hc
      simp only [hc, asBool, Sem.run_bind, Sem.run_pure, Result.andThen_ok, if_true]
      exact StepRes.pure hR (hf x (by simp)) h
    · rename_i q
      rw [q] at hc
      have hc : a.eval c = .bool false := hc
      simp only [hc, asBool, Sem.run_bind, Sem.run_pure, Result.andThen_ok]
      exact StepRes.pure hR (hf y (by simp)) h
    · exact (hA.fail _ h).elim
  case alloc t => exact Good.step (alloc_ok hA hR h)
  case box t x => exact Good.step (box_ok hA hR (hf x (by simp)) h)
  case build t ps =>
    refine Good.step (build_ok hA hR ?_ h)
    rw [mapL_eq, Array.toList_map]
    exact PR.map' E _ _ _ fun p hp => hf p.2 (by simp; exact ⟨p.1, by simpa using hp⟩)
  case buildSlice t n ps =>
    refine Good.step (buildSlice_ok hA hR ?_ h)
    rw [mapL_eq, Array.toList_map]
    exact PR.map' E _ _ _ fun p hp => hf p.2 (by simp; exact ⟨p.1, by simpa using hp⟩)
  case insert t m x y => exact GoodU.step (update_ok hA hR (hf m (by simp)) (hf x (by simp)) (hf y (by simp)) h)
  case mapUpdate t m x y => exact GoodU.step (update_ok hA hR (hf m (by simp)) (hf x (by simp)) (hf y (by simp)) h)
  case load t x => exact Good.step (load_ok hA hR (hf x (by simp)) h)
  case store t x y => exact GoodU.step (store_ok hA hR (hf x (by simp)) (hf y (by simp)) h)
  case nilCheck x =>
    change Pr (oNilCheck x P call R A fr s k) at h
    unfold oNilCheck at h
    have hx := hf x (by simp)
    generalize hq : evalO P s fr x = q at h hx
    cases q <;> try exact (hA.fail _ h).elim
    case ptr b off =>
      obtain ⟨r, c, hr, e⟩ := hx
      simp only [e]
      exact StepRes.pure hR (show VR E (.ptr b off) _ from ⟨r, c, hr, rfl⟩) h
    case ptrI b off i es =>
      obtain ⟨r, c, n, hr, hn, h0, e⟩ := hx
      simp only [e]
      exact StepRes.pure hR (show VR E (.ptrI b off i es) _ from ⟨r, c, n, hr, hn, h0, rfl⟩) h
    case func f cap =>
      obtain ⟨vs, e, hv⟩ := hx
      simp only [e]
      exact StepRes.pure hR (show VR E (.func f cap) _ from ⟨vs, rfl, hv⟩) h
  case binOp op t x y t' => exact Good.step (binA_ok hA hR (hf x (by simp)) (hf y (by simp)) h)
  case unOp op t x => exact Good.step (un_ok hA hR (hf x (by simp)) h)
  case convert src dst x => exact Good.step (convert_ok hA hR (hf x (by simp)) h)
  case makeInterface t x => exact Good.step (makeInterface_ok hA hR (hf x (by simp)) h)
  case makeFunc fn first cap =>
    change Pr (oMakeFunc fn first cap P call R A fr s k) at h
    unfold oMakeFunc at h
    split at h
    · rename_i f hfirst
      have e1 : first = #[] := by rw [← Array.toList_inj]; exact hfirst
      subst e1
      rw [mapL_eq] at h
      simp only [Instr.makeFunc, Sem.run_bind, Sem.run_pure, Result.andThen_ok]
      refine StepRes.pure hR (show VR E (.func f _) _ from ⟨cap.map a.eval, by simp, ?_⟩) h
      rw [Array.toList_map]
      exact VRL.map _ _ _ fun x hx => hf x (by simpa using hx)
    · exact (hA.fail _ h).elim
  case makeMap t r =>
    change Pr (oMakeMap t r P call R A fr s k) at h
    unfold oMakeMap at h
    cases r with
    | none => exact Good.step (makeMap_ok hR h rfl)
    | some _ => exact (hA.fail _ h).elim
  case makeSlice t l c => exact Good.step (makeSlice_ok hA hR (hf l (by simp)) (hf c (by simp)) h)
  case slice t x lo hi mx =>
    refine Good.step (slice_ok hA hR (hf x (by simp)) ?_ ?_ ?_ h)
    · cases lo with
      | none => exact ⟨fun _ q => (by cases q), fun _ => rfl⟩
      | some l => exact ⟨fun _ q => by cases q; exact ⟨_, rfl, hf l (by simp)⟩, fun q => (by cases q)⟩
    · cases hi with
      | none => exact ⟨fun _ q => (by cases q), fun _ => rfl⟩
      | some l => exact ⟨fun _ q => by cases q; exact ⟨_, rfl, hf l (by simp)⟩, fun q => (by cases q)⟩
    · cases mx with
      | none => exact ⟨fun _ q => (by cases q), fun _ => rfl⟩
      | some l => exact ⟨fun _ q => by cases q; exact ⟨_, rfl, hf l (by simp)⟩, fun q => (by cases q)⟩
  case fieldAddr t x i => exact Good.step (fieldAddr_ok hA hR (hf x (by simp)) h)
  case field t x i => exact Good.step (field_ok hA hR (hf x (by simp)) h)
  case indexAddr t x i => exact Good.step (indexAddr_ok hA hR (hf x (by simp)) (hf i (by simp)) h)
  case index t x i => exact Good.step (index_ok hA hR (hf x (by simp)) (hf i (by simp)) h)
  case lookup t x i ok => exact Good.step (lookup_ok hA hR (hf x (by simp)) (hf i (by simp)) h)
  case extract x i =>
    change Pr (oExtract x i P call R A fr s k) at h
    unfold oExtract at h
    have hx := hf x (by simp)
    split at h
    · rename_i l q
      rw [q] at hx
      obtain ⟨vs, e, hv⟩ := hx
      split at h
      · rename_i v hn
        rw [nth_eq] at hn
        obtain ⟨y, hy, hvy⟩ := hv.get hn
        simp only [e]
        have : vs[i]? = some y := by simpa using hy
        simp only [Instr.extract, this, Sem.run_bind, Sem.run_pure, Result.andThen_ok]
        exact StepRes.pure hR hvy h
      · exact (hA.fail _ h).elim
    · exact (hA.fail _ h).elim
  case call c =>
    change Pr (oCall c P call R A fr s k) at h
    unfold oCall at h
    simp only [Call.operands] at hf
    have hargs : VRL E (mapL (evalO P s fr) c.args.toList) (c.args.map a.eval).toList := by
      rw [mapL_eq, Array.toList_map]
      exact VRL.map _ _ _ fun x hx => hf x (by simp; exact .inr (by simpa using hx))
    split at h
    · rename_i b hb
      simp only [resolve, hb, Sem.run_bind, Sem.run_pure, Result.andThen_ok, invoke]
      exact builtin_ok hA hR hargs h
    · rename_i f hcf
      have hfv := hf f (by simp [hcf])
      split at h
      · rename_i g cap q
        rw [q] at hfv
        obtain ⟨vs, e, hv⟩ := hfv
        rw [appL_eq] at h
        have hall : VRL E (mapL (evalO P s fr) c.args.toList ++ cap) (c.args.map a.eval ++ vs).toList := by
          rw [Array.toList_append]; exact hargs.app hv
        simp only [resolve, hcf, e, Deferred.ofValue, Sem.run_bind, Sem.run_pure, Result.andThen_ok, invoke, Array.empty_append]
        split at h
        · exact (hA.fail _ h).elim
        rename_i hyb
        rcases hC R A Pr hA E s w g _ _ k hR hall h with ⟨⟨fn, hfn⟩, hcalls⟩ | ⟨v, x, hrun, hv, hk⟩ | ⟨b, r, c', fn, tmps, ca, cb, h1, _⟩
        · rw [callFunc_run hfn]
          exact .inr (.inl ⟨g, _, rfl, hcalls⟩)
        · rw [hrun]
          exact StepRes.pure hR hv hk
        · have : Nat.ble yldBase g = true := Nat.ble_eq_true_of_le (by omega)
          rw [this] at hyb; cases hyb
      · rename_i b q
        rw [q] at hfv
        obtain ⟨r, c', hr, e⟩ := hfv
        split at h
        · rename_i hnone
          simp only [resolve, hcf, e, Deferred.ofValue, Sem.run_bind, Sem.run_pure, Result.andThen_ok, invoke, Array.empty_append]
          rcases hC R A Pr hA E s w _ _ _ k hR hargs h with ⟨⟨fn, hfn⟩, hcalls⟩ | ⟨v, x, hrun, hv, hk⟩ | ⟨b', r', c1, fn, tmps, ca, cb, h1, h2, h3, h4, h5⟩
          · rw [(bodyOf_some hfn).1] at hnone; cases hnone
          · simp [callFunc, hnone] at hrun
          · have : b' = b := by omega
            subst this
            rw [hr] at h3; cases h3
            exact .inr (.inr ⟨r, fn, tmps, ca, cb, by simpa using h4, h5⟩)
        · exact (hA.fail _ h).elim
      · exact (hA.fail _ h).elim
    · exact (hA.fail _ h).elim
  all_goals exact (hA.fail _ h).elim
end
end Go.Proofs.YthfkajaeikhloaaGreatDoor.Xq
