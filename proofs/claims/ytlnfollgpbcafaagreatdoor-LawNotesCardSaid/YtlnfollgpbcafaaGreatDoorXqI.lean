import Derived.Test.YtlnfollgpbcafaaGreatDoorXqH
import Derived.Laws.StructEq
set_option autoImplicit false
set_option linter.unusedVariables false
/-! The operations, one by one: strings, equality. -/
namespace Go.Proofs.YtlnfollgpbcafaaGreatDoor.Xq
open Go

section
variable {P : Program} {E : Env} {s : St} {w : World} {R : Type} {A : Ans R} {Pr : R → Prop} {k : KV R}

theorem bytesLess_num : ∀ (a b : List UInt8), Op.bytesLess a b = strLt a.length (num a 0) b.length (num b 0) := by
  have lt : ∀ (x y : UInt8), decide (x < y) = decide (x.toNat < y.toNat) := fun x y => by simp [UInt8.lt_iff_toNat_lt]
  intro a
  induction a with
  | nil =>
    intro b
    cases b with
    | nil => rfl
    | cons y b =>
      show true = strLt 0 0 (b.length + 1) (num (y :: b) 0)
      unfold strLt
      have c1 : Nat.ble 0 (b.length + 1) = true := ble_iff.2 (by omega)
      have c2 : Nat.beq 0 (b.length + 1) = false := rfl
      simp only [c1, c2]
      exact (ble_iff.2 (Nat.zero_le _)).symm
  | cons x a ih =>
    intro b
    cases b with
    | nil =>
      have : num (x :: a) 0 / 256 ^ (a.length + 1 - 0) = 0 := Nat.div_eq_of_lt (by simpa using num_lt (x :: a))
      show false = strLt (a.length + 1) (num (x :: a) 0) 0 0
      unfold strLt
      have c1 : Nat.ble (a.length + 1) 0 = false := rfl
      simp only [c1, this]
      rfl
    | cons y b =>
      have e : Op.bytesLess (x :: a) (y :: b) = (x < y || (x == y && Op.bytesLess a b)) := rfl
      rw [e, ih b]
      have ha := num_lt a
      have hb := num_lt b
      simp only [List.length_cons, num_cons0]
      generalize num a 0 = p at *
      generalize num b 0 = q at *
      generalize a.length = l at *
      generalize b.length = m at *
      have hxy : (x == y) = decide (x.toNat = y.toNat) := by
        rw [Bool.eq_iff_iff, beq_iff_eq, decide_eq_true_iff]; exact UInt8.toNat_inj.symm
      rw [lt x y, hxy]
      generalize x.toNat = u at *
      generalize y.toNat = v at *
      unfold strLt
      have pl : 0 < 256 ^ l := Nat.pow_pos (by decide)
      have pm : 0 < 256 ^ m := Nat.pow_pos (by decide)
      rw [Bool.eq_iff_iff]
      by_cases hlm : l ≤ m
      · have c1 : Nat.ble (l + 1) (m + 1) = true := ble_iff.2 (by omega)
        have c2 : Nat.ble l m = true := ble_iff.2 hlm
        simp only [c1, c2]
        by_cases he : l = m
        · subst he
          have c3 : Nat.beq (l + 1) (l + 1) = true := by simp
          have c4 : Nat.beq l l = true := by simp
          simp only [c3, c4, ble_iff, Bool.or_eq_true, Bool.and_eq_true, decide_eq_true_iff]
          constructor
          · rintro (h | ⟨rfl, h⟩)
            · calc u * 256 ^ l + p + 1 ≤ (u + 1) * 256 ^ l := by rw [Nat.add_mul, Nat.one_mul]; omega
                _ ≤ v * 256 ^ l := Nat.mul_le_mul_right _ h
                _ ≤ v * 256 ^ l + q := Nat.le_add_right _ _
            · omega
          · intro h
            by_cases huv : u < v
            · exact .inl huv
            · by_cases hvu : v < u
              · exfalso
                have : (v + 1) * 256 ^ l ≤ u * 256 ^ l := Nat.mul_le_mul_right _ hvu
                rw [Nat.add_mul, Nat.one_mul] at this
                omega
              · obtain rfl : u = v := by omega
                exact .inr ⟨rfl, by omega⟩
        · have c3 : Nat.beq (l + 1) (m + 1) = false := by
            cases h : Nat.beq (l + 1) (m + 1)
            · rfl
            · have := Nat.eq_of_beq_eq_true h; omega
          have c4 : Nat.beq l m = false := by
            cases h : Nat.beq l m
            · rfl
            · have := Nat.eq_of_beq_eq_true h; omega
          simp only [c3, c4, ble_iff, Bool.or_eq_true, Bool.and_eq_true, decide_eq_true_iff]
          have hd : m + 1 - (l + 1) = m - l := by omega
          rw [hd]
          have hm : 256 ^ m = 256 ^ l * 256 ^ (m - l) := by rw [← Nat.pow_add]; congr 1; omega
          have pd : 0 < 256 ^ (m - l) := Nat.pow_pos (by decide)
          have hdiv : (v * 256 ^ m + q) / 256 ^ (m - l) = v * 256 ^ l + q / 256 ^ (m - l) := by
            rw [hm, ← Nat.mul_assoc, Nat.add_comm, Nat.add_mul_div_right _ _ pd, Nat.add_comm]
          rw [hdiv]
          have hq : q / 256 ^ (m - l) < 256 ^ l := by
            rw [Nat.div_lt_iff_lt_mul pd, ← hm]; exact hb
          generalize q / 256 ^ (m - l) = q' at *
          constructor
          · rintro (h | ⟨rfl, h⟩)
            · calc u * 256 ^ l + p ≤ (u + 1) * 256 ^ l := by rw [Nat.add_mul, Nat.one_mul]; omega
                _ ≤ v * 256 ^ l := Nat.mul_le_mul_right _ h
                _ ≤ v * 256 ^ l + q' := Nat.le_add_right _ _
            · omega
          · intro h
            by_cases huv : u < v
            · exact .inl huv
            · by_cases hvu : v < u
              · exfalso
                have : (v + 1) * 256 ^ l ≤ u * 256 ^ l := Nat.mul_le_mul_right _ hvu
                rw [Nat.add_mul, Nat.one_mul] at this
                omega
              · obtain rfl : u = v := by omega
                exact .inr ⟨rfl, by omega⟩
      · have c1 : Nat.ble (l + 1) (m + 1) = false := by
          cases h : Nat.ble (l + 1) (m + 1)
          · rfl
          · have := ble_iff.1 h; omega
        have c2 : Nat.ble l m = false := by
          cases h : Nat.ble l m
          · rfl
          · have := ble_iff.1 h; omega
        simp only [c1, c2, ble_iff, Bool.or_eq_true, Bool.and_eq_true, decide_eq_true_iff]
        have hd : l + 1 - (m + 1) = l - m := by omega
        rw [hd]
        have hl : 256 ^ l = 256 ^ m * 256 ^ (l - m) := by rw [← Nat.pow_add]; congr 1; omega
        have pd : 0 < 256 ^ (l - m) := Nat.pow_pos (by decide)
        have hdiv : (u * 256 ^ l + p) / 256 ^ (l - m) = u * 256 ^ m + p / 256 ^ (l - m) := by
          rw [hl, ← Nat.mul_assoc, Nat.add_comm, Nat.add_mul_div_right _ _ pd, Nat.add_comm]
        rw [hdiv]
        have hp : p / 256 ^ (l - m) < 256 ^ m := by
          rw [Nat.div_lt_iff_lt_mul pd, ← hl]; exact ha
        generalize p / 256 ^ (l - m) = p' at *
        constructor
        · rintro (h | ⟨rfl, h⟩)
          · calc u * 256 ^ m + p' + 1 ≤ (u + 1) * 256 ^ m := by rw [Nat.add_mul, Nat.one_mul]; omega
              _ ≤ v * 256 ^ m := Nat.mul_le_mul_right _ h
              _ ≤ v * 256 ^ m + q := Nat.le_add_right _ _
          · omega
        · intro h
          by_cases huv : u < v
          · exact .inl huv
          · by_cases hvu : v < u
            · exfalso
              have : (v + 1) * 256 ^ m ≤ u * 256 ^ m := Nat.mul_le_mul_right _ hvu
              rw [Nat.add_mul, Nat.one_mul] at this
              omega
            · obtain rfl : u = v := by omega
              exact .inr ⟨rfl, by omega⟩

theorem lt_or_eq (l m : List UInt8) : (Op.bytesLess l m || (l == m)) = !Op.bytesLess m l := by
  induction l generalizing m with
  | nil => cases m <;> rfl
  | cons x l ih =>
    cases m with
    | nil => rfl
    | cons y m =>
      have e1 : Op.bytesLess (x :: l) (y :: m) = (x < y || (x == y && Op.bytesLess l m)) := rfl
      have e2 : Op.bytesLess (y :: m) (x :: l) = (y < x || (y == x && Op.bytesLess m l)) := rfl
      have e3 : ((x :: l) == (y :: m)) = (x == y && (l == m)) := rfl
      rw [e1, e2, e3]
      have := ih m
      rcases Nat.lt_trichotomy x.toNat y.toNat with h | h | h
      · have h1 : x < y := UInt8.lt_iff_toNat_lt.2 h
        have h2 : ¬ y < x := fun q => by have := UInt8.lt_iff_toNat_lt.1 q; omega
        have h3 : (y == x) = false := by rw [beq_eq_false_iff_ne]; rintro rfl; omega
        simp [h1, h2, h3]
      · have h1 : x = y := UInt8.toNat_inj.1 h
        subst h1
        have h2 : ¬ x < x := fun q => by have := UInt8.lt_iff_toNat_lt.1 q; omega
        simp [h2, this]
      · have h1 : y < x := UInt8.lt_iff_toNat_lt.2 h
        have h2 : ¬ x < y := fun q => by have := UInt8.lt_iff_toNat_lt.1 q; omega
        have h3 : (x == y) = false := by rw [beq_eq_false_iff_ne]; rintro rfl; omega
        simp [h1, h2, h3]
theorem str_append (a b : ByteArray) : (a ++ b).data.toList = a.data.toList ++ b.data.toList := by simp [ByteArray.data_append]
theorem strA_ok (hA : Lawful A Pr) (hR : Rel P E s w) {op : BinOp} {t : Nat} {v u : AV} {x y : Value} (hv : VR E v x) (hu : VR E u y) (h : Pr (strA A op s v u k)) :
    ∃ a b, x = .string a ∧ y = .string b ∧ Good P E s w ((binOp op t (.string a) (.string b)).run P w) fun v s' => Pr (k v s') := by
  unfold strA at h
  split at h
  · obtain ⟨a, b, s1, rfl, rfl, r, hy, h1⟩ := eqS_ok hA hv hu hR.sy h
    refine ⟨a, b, rfl, rfl, ?_⟩
    have : (binOp .eql t (.string a) (.string b)).run P w = .ok (.bool (a.data.toList == b.data.toList)) w := by
      rw [binOp_string_eql, ByteArray.toList_eq, ByteArray.toList_eq]; rfl
    rw [this]; exact Good.bool hR r hy h1
  · obtain ⟨a, b, s1, rfl, rfl, r, hy, h1⟩ := eqS_ok hA hv hu hR.sy h
    refine ⟨a, b, rfl, rfl, ?_⟩
    rw [bnot_eq] at h1
    have : (binOp .neq t (.string a) (.string b)).run P w = .ok (.bool (!(a.data.toList == b.data.toList))) w := by
      rw [binOp_string_neq, ByteArray.toList_eq, ByteArray.toList_eq]; rfl
    rw [this]; exact Good.bool hR r hy h1
  · split at h
    · obtain ⟨a, rfl, rfl, rfl⟩ := hv
      obtain ⟨b, rfl, rfl, rfl⟩ := hu
      refine ⟨a, b, rfl, rfl, ?_⟩
      have sz : ∀ c : ByteArray, c.size = c.data.toList.length := fun c => by simp
      split at h
      · split at h
        · rename_i hle
          have hle := ble_iff.1 hle
          have : (binOp .add t (.string a) (.string b)).run P w = .ok (.string (a ++ b)) w := by
            rw [binOp_string_add]
            unfold Op.stringOp
            have hmax : IntKind.i64.max = 9223372036854775807 := by decide
            simp only [hmax]
            rw [if_neg (by have := sz a; have := sz b; omega)]
            rfl
          rw [this]
          refine Good.pure hR (show VR E (.str _ _) (.string (a ++ b)) from ⟨a ++ b, rfl, ?_, ?_⟩) h
          · rw [str_append, List.length_append]
          · rw [str_append, num_app]
        · exact (hA.fail _ h).elim
      · rw [← bytesLess_num] at h
        have : (binOp .lss t (.string a) (.string b)).run P w = .ok (.bool (Op.bytesLess a.data.toList b.data.toList)) w := by
          rw [binOp_string_lss, ByteArray.toList_eq, ByteArray.toList_eq]; rfl
        rw [this]; exact Good.bool hR (Refn.refl s) hR.sy h
      · rw [← bytesLess_num, bnot_eq] at h
        have : (binOp .geq t (.string a) (.string b)).run P w = .ok (.bool (!Op.bytesLess a.data.toList b.data.toList)) w := by
          simp only [binOp, Op.stringOp, ByteArray.toList_eq]; rfl
        rw [this]; exact Good.bool hR (Refn.refl s) hR.sy h
      · rw [← bytesLess_num] at h
        have : (binOp .gtr t (.string a) (.string b)).run P w = .ok (.bool (Op.bytesLess b.data.toList a.data.toList)) w := by
          simp only [binOp, Op.stringOp, ByteArray.toList_eq, lt_or_eq, Bool.not_not]; rfl
        rw [this]; exact Good.bool hR (Refn.refl s) hR.sy h
      · rw [← bytesLess_num, bnot_eq] at h
        have : (binOp .leq t (.string a) (.string b)).run P w = .ok (.bool (!Op.bytesLess b.data.toList a.data.toList)) w := by
          simp only [binOp, Op.stringOp, ByteArray.toList_eq, lt_or_eq]; rfl
        rw [this]; exact Good.bool hR (Refn.refl s) hR.sy h
      · exact (hA.fail _ h).elim
    · exact (hA.fail _ h).elim

/-! ### equality -/
theorem part_ok (hA : Lawful A Pr) {t : Nat} {l : List AV} {cs : Array Value} {off : Nat} {f : AV → R} (hl : VRL E l cs.toList) (h : Pr (partA P A t l off f)) :
    ∃ v x, (part t cs off).run P w = .ok x w ∧ VR E v x ∧ Pr (f v) := by
  unfold partA at h
  split at h
  · rename_i hagg
    rw [nth_eq] at h
    split at h
    · rename_i v hv
      obtain ⟨x, hx, hvx⟩ := hl.get hv
      have hx' : cs[off]? = some x := by simpa using hx
      exact ⟨v, x, by simp [part, (aggOf_run hagg w).1, hx'], hvx, h⟩
    · exact (hA.fail _ h).elim
  · rename_i n hagg
    rw [takeL_eq, dropL_eq] at h
    obtain ⟨h1, h2⟩ := aggOf_run hagg w
    refine ⟨_, .agg (cs.extract off (off + n)), ?_, (show VR E (.agg ((l.drop off).take n)) _ from ⟨_, rfl, ?_⟩), h⟩
    · simp [part, h1, h2 n rfl]
    · have : (cs.extract off (off + n)).toList = (cs.toList.drop off).take n := by
        rw [Array.toList_extract, List.extract_eq_take_drop]
        congr 1
        omega
      rw [this]; exact (hl.drop off).take n
  · exact (hA.fail _ h).elim
theorem eqFld_ok (hA : Lawful A Pr) {fd : Field} {v u : AV} {x y : Value} (d : Nat) {ih : R} {f : Bool → R} (hv : VR E v x) (hu : VR E u y) (h : Pr (eqFldA P A fd v u ih f)) :
    ∃ c, (Op.equalIn (d + 1) fd.type x y).run P w = .ok c w ∧ (c = true → Pr ih) ∧ (c = false → Pr (f false)) := by
  unfold eqFldA at h
  split at h
  · rename_i k a k' b
    split at h
    · rename_i kk ht
      split at h
      · rename_i hk
        obtain rfl := kIdx_eq hk
        cases hv; cases hu
        rw [ieq_beq] at h
        have run := run_equalIn_int w d fd.type k kk a b (tk_int ht)
        cases hc : (a == b) with
        | true => rw [hc] at h run; exact ⟨true, run, fun _ => h, fun q => nomatch q⟩
        | false => rw [hc] at h run; exact ⟨false, run, fun q => (nomatch q), fun _ => h⟩
      · exact (hA.fail _ h).elim
    · exact (hA.fail _ h).elim
  · split at h
    · rename_i ht
      obtain ⟨a, rfl, rfl, rfl⟩ := hv
      obtain ⟨b, rfl, rfl, rfl⟩ := hu
      rw [strEq_iff] at h
      have run := run_equalIn_string w d fd.type a b (tk_string ht)
      rw [ByteArray.toList_eq, ByteArray.toList_eq] at run
      cases hc : (a.data.toList == b.data.toList) with
      | true => rw [hc] at h run; exact ⟨true, run, fun _ => h, fun q => nomatch q⟩
      | false => rw [hc] at h run; exact ⟨false, run, fun q => (nomatch q), fun _ => h⟩
    · exact (hA.fail _ h).elim
  · exact (hA.fail _ h).elim
theorem eqFlds_ok (hA : Lawful A Pr) (d : Nat) {l m : List AV} {xs ys : Array Value} {f : Bool → R} (hl : VRL E l xs.toList) (hm : VRL E m ys.toList) : ∀ (fs : List Field), Pr (eqFldsA P A fs l m f) →
    ∃ c, (Op.eqFields (d + 1) xs ys fs).run P w = .ok c w ∧ Pr (f c)
  | [], h => ⟨true, rfl, h⟩
  | fd :: fs, h => by
    have h : Pr (match fd.name == "_" with
      | true => A.fail "eq blank"
      | false => partA P A fd.type l fd.offset fun x => partA P A fd.type m fd.offset fun y => eqFldA P A fd x y (eqFldsA P A fs l m f) f) := h
    split at h
    · exact (hA.fail _ h).elim
    · rename_i hn
      have hne : fd.name ≠ "_" := by simpa using hn
      obtain ⟨v, x, h1, h2, h3⟩ := part_ok (w := w) hA hl h
      obtain ⟨u, y, k1, k2, k3⟩ := part_ok (w := w) hA hm h3
      obtain ⟨c, e1, e2, e3⟩ := eqFld_ok (w := w) hA d h2 k2 k3
      cases c with
      | false => exact ⟨false, by simp [Op.eqFields, hne, h1, k1, e1], e3 rfl⟩
      | true =>
        obtain ⟨c, g1, g2⟩ := eqFlds_ok hA d hl hm fs (e2 rfl)
        exact ⟨c, by simp [Op.eqFields, hne, h1, k1, e1, g1], g2⟩
theorem eq_run {t : Nat} {x y : Value} {c : Bool} (hd : ∀ d, (Op.equalIn (d + 1) t x y).run P w = .ok c w) : (Op.equal t x y).run P w = .ok c w := hd 9999
theorem eqA_ok (hA : Lawful A Pr) {t : Nat} {cst : Bool} {v u : AV} {x y : Value} {f : Bool → R} (hv : VR E v x) (hu : VR E u y) (h : Pr (eqA P A t cst v u f)) :
    ∃ c, (Op.equal t x y).run P w = .ok c w ∧ Pr (f c) ∧ (∀ (op : BinOp) (o1 o2 : Operand), cst = (match isConst o1 with | true => true | false => isConst o2) → (eqGuard op t o1 o2 x y).run P w = .ok () w) ∧
      binOp .eql t x y = (do pure (.bool (← Op.equal t x y))) ∧ binOp .neq t x y = (do pure (.bool (!(← Op.equal t x y)))) := by
  unfold eqA at h
  split at h
  · rename_i a b
    split at h
    · rename_i ht
      cases hv; cases hu
      have hu := tk_bool ht
      refine ⟨a == b, eq_run fun d => ?_, ?_, fun op o1 o2 _ => by unfold eqGuard; cases op <;> rfl, rfl, rfl⟩
      · simp [Op.equalIn, run_underlying hu]
      · cases a <;> cases b <;> exact h
    · exact (hA.fail _ h).elim
  · split at h
    · rename_i ht
      cases hv; cases hu
      obtain ⟨p, r, q, hu⟩ := tk_func ht
      exact ⟨true, eq_run fun d => by simp [Op.equalIn, run_underlying hu], h, fun op o1 o2 _ => by unfold eqGuard; cases op <;> rfl, rfl, rfl⟩
    · exact (hA.fail _ h).elim
  · split at h
    · rename_i ht
      cases hv
      obtain ⟨vs, rfl, _⟩ := hu
      obtain ⟨p, r, q, hu⟩ := tk_func ht
      exact ⟨false, eq_run fun d => by simp [Op.equalIn, run_underlying hu], h, fun op o1 o2 _ => by unfold eqGuard; cases op <;> rfl, rfl, rfl⟩
    · exact (hA.fail _ h).elim
  · split at h
    · rename_i ht
      cases hu
      obtain ⟨vs, rfl, _⟩ := hv
      obtain ⟨p, r, q, hu⟩ := tk_func ht
      exact ⟨false, eq_run fun d => by simp [Op.equalIn, run_underlying hu], h, fun op o1 o2 _ => by unfold eqGuard; cases op <;> rfl, rfl, rfl⟩
    · exact (hA.fail _ h).elim
  · split at h
    · split at h
      · rename_i ht
        cases hv; cases hu
        obtain ⟨ms, hu⟩ := tk_iface ht
        refine ⟨true, eq_run fun d => by simp [Op.equalIn, run_underlying hu], h, fun op o1 o2 ho => ?_, rfl, rfl⟩
        unfold eqGuard
        cases op <;> cases o1 <;> cases o2 <;> first | rfl | (cases ho)
      · exact (hA.fail _ h).elim
    · exact (hA.fail _ h).elim
  · split at h
    · rename_i ht
      cases hv
      obtain ⟨z, rfl, _⟩ := hu
      obtain ⟨ms, hu⟩ := tk_iface ht
      exact ⟨false, eq_run fun d => by simp [Op.equalIn, run_underlying hu], h, fun op o1 o2 _ => by unfold eqGuard; cases op <;> rfl, rfl, rfl⟩
    · exact (hA.fail _ h).elim
  · split at h
    · rename_i ht
      cases hu
      obtain ⟨z, rfl, _⟩ := hv
      obtain ⟨ms, hu⟩ := tk_iface ht
      exact ⟨false, eq_run fun d => by simp [Op.equalIn, run_underlying hu], h, fun op o1 o2 _ => by unfold eqGuard; cases op <;> rfl, rfl, rfl⟩
    · exact (hA.fail _ h).elim
  · split at h
    · rename_i ht
      cases hv; cases hu
      obtain ⟨e, hu⟩ := tk_pointer ht
      exact ⟨true, eq_run fun d => by simp [Op.equalIn, run_underlying hu], h, fun op o1 o2 _ => by unfold eqGuard; cases op <;> rfl, rfl, rfl⟩
    · exact (hA.fail _ h).elim
  · split at h
    · rename_i ht
      cases hv
      obtain ⟨r, c, _, rfl⟩ := hu
      obtain ⟨e, hu⟩ := tk_pointer ht
      exact ⟨false, eq_run fun d => by simp [Op.equalIn, run_underlying hu], h, fun op o1 o2 _ => by unfold eqGuard; cases op <;> rfl, rfl, rfl⟩
    · exact (hA.fail _ h).elim
  · split at h
    · rename_i ht
      cases hu
      obtain ⟨r, c, _, rfl⟩ := hv
      obtain ⟨e, hu⟩ := tk_pointer ht
      exact ⟨false, eq_run fun d => by simp [Op.equalIn, run_underlying hu], h, fun op o1 o2 _ => by unfold eqGuard; cases op <;> rfl, rfl, rfl⟩
    · exact (hA.fail _ h).elim
  · split at h
    · rename_i fs hfs
      split at h
      · rename_i hok
        obtain ⟨xs, rfl, hl⟩ := hv
        obtain ⟨ys, rfl, hm⟩ := hu
        have hf : P.fieldsOf t = fs := by unfold Program.fieldsOf; rw [hfs]
        obtain ⟨c, g1, g2⟩ := eqFlds_ok (w := w) hA 9998 hl hm fs.toList h
        unfold aggEqOk at hok
        split at hok
        · cases hok
        · rename_i hst
          have heg : P.eqGuardType P.depth t = false := by
            cases q : P.eqGuardType P.depth t with
            | true => rw [q] at hok; cases hok
            | false => rfl
          refine ⟨c, ?_, g2, fun op o1 o2 _ => run_eqGuard_agg w op t o1 o2 xs ys heg, rfl, rfl⟩
          show (Op.equalIn (9999 + 1) t (.agg xs) (.agg ys)).run P w = _
          rw [run_equalIn_struct w 9999 t xs ys (by rw [hf]; exact hfs) hst, hf]
          exact g1
      · exact (hA.fail _ h).elim
    · exact (hA.fail _ h).elim
  · exact (hA.fail _ h).elim

/-! ### shifts, atoms that are known -/
theorem sh_run {op : BinOp} {kd kd' : IntKind} {a b r : Int} {t : Nat} (hs : isSh op = true) (hr : shA op kd a b = some r) : (binOp op t (.int kd a) (.int kd' b)).run P w = .ok (.int kd r) w := by
  cases b with
  | negSucc n => cases hr
  | ofNat n =>
    have nn : ¬ (Int.ofNat n < 0) := by simp
    cases op <;> first | (cases hs; done) | skip
    case shl =>
      cases hr
      simp only [binOp, Op.shift, if_neg nn, wrapF_eq]
      congr 3
    case shr =>
      cases a with
      | negSucc m => cases hr
      | ofNat m =>
        cases hr
        have e : ∀ k : Nat, (Int.ofNat m).fdiv ((2 : Int) ^ k) = Int.ofNat (Nat.div m (Nat.pow 2 k)) := fun k => by
          have : ((2 : Int) ^ k) = ((2 ^ k : Nat) : Int) := by simp
          rw [this]
          exact (Int.ofNat_fdiv m (2 ^ k)).symm
        simp only [binOp, Op.shift, if_neg nn]
        rw [e]
        rfl
theorem ptOf_ok {a : AI} {x n : Int} (hy : SyOk E s.sy) (h : ptOf s a = some x) (k : AIR E a n) : x = n := by
  cases a with
  | lit m => cases h; exact k.symm
  | «at» i =>
    have h : (match ivOf s i with
      | some (lo, hi) => (match ieq lo hi with | true => some lo | false => none)
      | none => none) = some x := h
    split at h
    · rename_i lo hi hi'
      split at h
      · rename_i hq
        cases h
        obtain ⟨n', h1, h2, h3⟩ := hy.ints i _ _ hi'
        have k : E.σ i = some n := k
        rw [h1] at k; cases k
        have := ieq_true hq
        omega
      · cases h
    · cases h

/-! ### an operator -/
theorem binA_ok (hA : Lawful A Pr) (hR : Rel P E s w) {op : BinOp} {t : Nat} {o1 o2 : Operand} {v u : AV} {x y : Value} (hv : VR E v x) (hu : VR E u y)
    (h : Pr (binA P A op t (match isConst o1 with | true => true | false => isConst o2) s v u k)) :
    Good P E s w ((do eqGuard op t o1 o2 x y; binOp op t x y : Sem Value).run P w) fun v s' => Pr (k v s') := by
  have ints : ∀ {kd kd' : IntKind} {a b : Int}, x = .int kd a → y = .int kd' b → Good P E s w ((binOp op t x y).run P w) (fun v s' => Pr (k v s')) →
      Good P E s w ((do eqGuard op t o1 o2 x y; binOp op t x y : Sem Value).run P w) fun v s' => Pr (k v s') := by
    intro kd kd' a b e1 e2 hg
    subst e1; subst e2
    simp only [Sem.run_bind, eqGuard_int, Result.andThen_ok]
    exact hg
  have strs : ∀ {a b : ByteArray}, x = .string a → y = .string b → Good P E s w ((binOp op t (.string a) (.string b)).run P w) (fun v s' => Pr (k v s')) →
      Good P E s w ((do eqGuard op t o1 o2 x y; binOp op t x y : Sem Value).run P w) fun v s' => Pr (k v s') := by
    intro a b e1 e2 hg
    subst e1; subst e2
    simp only [Sem.run_bind, eqGuard_string, Result.andThen_ok]
    exact hg
  have sym : Pr (match mopOf op with
      | some m => match aiOf v, aiOf u with | some a, some b => ptOp A op s m a b k | _, _ => A.fail "sym op"
      | none => cmpA A op s v u k) → Good P E s w ((do eqGuard op t o1 o2 x y; binOp op t x y : Sem Value).run P w) fun v s' => Pr (k v s') := by
    intro h
    split at h
    · rename_i m hm
      split at h
      · rename_i a b ha hb
        obtain ⟨n1, rfl, h1⟩ := aiOf_ok hv ha
        obtain ⟨n2, rfl, h2⟩ := aiOf_ok hu hb
        unfold ptOp at h
        split at h
        · rename_i p q hp hq
          obtain rfl := ptOf_ok hR.sy hp h1
          obtain rfl := ptOf_ok hR.sy hq h2
          exact ints rfl rfl (int_ok hA hR h)
        · exact ints rfl rfl (symOp_ok hA hR hm h1 h2 h)
      · exact (hA.fail _ h).elim
    · obtain ⟨kd, a, b, s1, c, rfl, rfl, hrun, hb, r, hy, h1⟩ := cmp_ok hA hR hv hu h
      refine ints rfl rfl ?_
      rw [hb, hrun]
      exact Good.bool hR r hy h1
  unfold binA at h
  split at h
  · split at h
    · rename_i hs
      split at h
      · rename_i r hr
        cases hv; cases hu
        refine ints rfl rfl ?_
        rw [sh_run hs hr]
        exact Good.pure hR (show VR E (.int _ r) _ from rfl) h
      · exact (hA.fail _ h).elim
    · split at h
      · rename_i hk
        have := kIdx_eq hk; subst this
        cases hv; cases hu
        exact ints rfl rfl (int_ok hA hR h)
      · exact (hA.fail _ h).elim
  · obtain ⟨a, b, e1, e2, hg⟩ := strA_ok (t := t) hA hR hv hu h
    exact strs e1 e2 hg
  · obtain ⟨a, b, e1, e2, hg⟩ := strA_ok (t := t) hA hR hv hu h
    exact strs e1 e2 hg
  · exact sym h
  · exact sym h
  · split at h
    · obtain ⟨c, he, hp, hg, hb, _⟩ := eqA_ok (w := w) hA hv hu h
      simp only [Sem.run_bind, hg _ _ _ rfl, Result.andThen_ok, hb, he, Sem.run_pure]
      exact Good.bool hR (Refn.refl s) hR.sy hp
    · obtain ⟨c, he, hp, hg, _, hb⟩ := eqA_ok (w := w) hA hv hu h
      simp only [Sem.run_bind, hg _ _ _ rfl, Result.andThen_ok, hb, he, Sem.run_pure]
      rw [bnot_eq] at hp
      exact Good.bool hR (Refn.refl s) hR.sy hp
    · exact (hA.fail _ h).elim
end
end Go.Proofs.YtlnfollgpbcafaaGreatDoor.Xq
