import Derived.Test.YtlnfollgpbcafaaGreatDoorXqS
set_option autoImplicit false
set_option linter.unusedVariables false
/-! Regions that draw their order: the run in the order of the text. -/
namespace Go.Proofs.YtlnfollgpbcafaaGreatDoor.Xq
open Go

/-- what an operation that is carried out has done -/
structure Info where
  view : St
  v : AV
  out : St
  wr : List Nat
  tch : List Nat
  call : Bool
structure RunOk (P : Program) (call : CallT) (ops : Array Oper) (i : Nat) (recs : List Rec) (o : Oper) (s : St) (fr : Fr) (s' : St) (f : Info) : Prop where
  wanted : ∀ g, o.guard = some g → wantedA ops fr g = some true
  step : stepOp o.op P call Res ansRes fr f.view (fun v s => .ok v s) = .ok f.v f.out
  nint : f.out.sy.nint = s.sy.nint
  nextLe : s.next ≤ f.out.next
  viewNext : f.view.next = s.next
  viewSy : f.view.sy = s.sy
  viewBase : f.view.base = s.base ∨ (f.view.base = s.next ∧ f.wr = [])
  viewIn : ∀ b o, hget f.view b = some o → hget s b = some o
  viewTch : f.call = false → ∀ b, hget f.view b ≠ none → b ∈ f.tch
  viewHid : f.call = true → ∀ b, hget f.view b ≠ none → b ∉ hiddenOf ops recs i
  callWr : f.call = true → f.wr = []
  wrTch : ∀ b ∈ f.wr, b ∈ f.tch
  wrLt : ∀ b ∈ f.wr, b < s.next
  wrBase : ∀ b ∈ f.wr, s.base ≤ b
  baseLe : f.view.base ≤ s.next
  owned : ∀ b, hget f.view b ≠ none → f.view.base ≤ b → b < s.next → b ∈ f.wr
  pairs : pairsOk ops recs i f.call f.tch f.wr = true
  after : s' = ⟨copyT f.out.heap (f.wr ++ rangeL s.next f.out.next) s.heap, f.out.next, s.base, s.sy⟩
def recOf (i : Nat) (s : St) (f : Info) : Rec := ⟨i, s.next, f.out.next, f.wr, f.call, f.tch⟩
/-- one operation in the order of the text: none: it isn't carried out -/
def OneOk (P : Program) (call : CallT) (ops : Array Oper) (i : Nat) (recs : List Rec) (o : Oper) (s : St) (fr : Fr) (s' : St) (fr' : Fr) (recs' : List Rec) : Option Info → Prop
  | none => (∃ g, o.guard = some g ∧ wantedA ops fr g = some false) ∧ s' = s ∧ fr' = putF fr o.dst undefA ∧ recs' = recs
  | some f => RunOk P call ops i recs o s fr s' f ∧ fr' = putF fr o.dst f.v ∧ recs' = recOf i s f :: recs

section
variable {P : Program} {call : CallT} {ops : Array Oper}

theorem needOf_ne {s s2 sF : St} {frF : Fr} (h : needOf s s2 = .ok sF frF) : False := by
  unfold needOf at h
  split at h
  · split at h
    · cases h
    · split at h <;> cases h
  · cases h
theorem wrOk_ok {n m : Nat} {tch wr : List Nat} (h : wrOk n m tch wr = true) (hw : wr ≠ []) : m ≤ n ∧ (∀ b ∈ wr, b < n ∧ m ≤ b) ∧ ∀ b ∈ tch, m ≤ b → b ∈ wr := by
  unfold wrOk at h
  split at h
  · exact absurd rfl hw
  · split at h
    · cases h
    · rename_i h0
      split at h
      · cases h
      · rename_i h1
        rw [allL_iff] at h1 h
        refine ⟨ble_iff.1 h0, fun b hb => ?_, fun b hb hm => ?_⟩
        · have := h1 b hb
          split at this
          · rename_i q; exact ⟨ble_iff.1 q, ble_iff.1 this⟩
          · cases this
        · have := h b hb
          rw [ble_iff.2 hm] at this
          exact (memL_iff _ _).1 this
theorem nn_ok {a b c d : Nat} (h : (match Nat.beq a b with | true => Nat.ble c d | false => false) = true) : a = b ∧ c ≤ d := by
  split at h
  · exact ⟨Nat.eq_of_beq_eq_true (by assumption), ble_iff.1 h⟩
  · cases h
theorem drawOne_ok {o : Oper} {ih : Nat → List Rec → St → Fr → DRes} {i : Nat} {recs : List Rec} {s : St} {fr : Fr} {sF : St} {frF : Fr} (h : drawOne P call ops o ih i recs s fr = .ok sF frF) :
    ∃ s' fr' recs' f, OneOk P call ops i recs o s fr s' fr' recs' f ∧ ih (i + 1) recs' s' fr' = .ok sF frF := by
  unfold drawOne at h
  have hg : (∃ b, orec (some true) (fun g => wantedA ops fr g) o.guard = some b) ∧ ∀ b, orec (some true) (fun g => wantedA ops fr g) o.guard = some b →
      (b = true → ∀ g, o.guard = some g → wantedA ops fr g = some true) ∧ (b = false → ∃ g, o.guard = some g ∧ wantedA ops fr g = some false) := by
    constructor
    · cases hq : orec (some true) (fun g => wantedA ops fr g) o.guard with
      | none => rw [hq] at h; cases h
      | some b => exact ⟨b, rfl⟩
    · intro b hb
      cases hgu : o.guard with
      | none =>
        rw [hgu] at hb
        have hb : some true = some b := hb
        cases hb
        exact ⟨fun _ g q => (by cases q), fun q => (by cases q)⟩
      | some g =>
        rw [hgu] at hb
        have hb : wantedA ops fr g = some b := hb
        refine ⟨fun q g' hg' => ?_, fun q => ⟨g, rfl, ?_⟩⟩
        · cases hg'; rw [hb, q]
        · rw [hb, q]
  obtain ⟨⟨b, hb⟩, hg⟩ := hg
  have hgb := hg b hb
  rw [hb] at h
  cases b with
  | false => exact ⟨s, putF fr o.dst undefA, recs, none, ⟨hgb.2 rfl, rfl, rfl, rfl⟩, h⟩
  | true =>
    have hw := hgb.1 rfl
    dsimp only at h
    split at h
    · split at h
      · cases h
      · rename_i hp
        split at h
        · rename_i v s2 hst
          split at h
          · rename_i hnn
            have hnn := nn_ok hnn
            obtain ⟨hh, n, m, y⟩ := s
            obtain ⟨h2, n2, m2, y2⟩ := s2
            refine ⟨_, _, _, some ⟨⟨hideT (hiddenOf ops recs i) hh, n, n, y⟩, v, ⟨h2, n2, m2, y2⟩, [], [], true⟩, ⟨⟨hw, hst, hnn.1, hnn.2, rfl, rfl, .inr ⟨rfl, rfl⟩, ?_, fun q => (by cases q), ?_, fun _ => rfl, fun b hb => hb, fun b hb => (by cases hb), fun b hb => (by cases hb), Nat.le_refl _, ?_, hp, rfl⟩, rfl, rfl⟩, h⟩
            · intro b o hb
              have hb : (hideT (hiddenOf ops recs i) hh).get (pathOf b) = some o := hb
              rw [hideT_get] at hb
              split at hb
              · cases hb
              · exact hb
            · intro _ b hb hm
              apply hb
              show (hideT (hiddenOf ops recs i) hh).get (pathOf b) = none
              rw [hideT_get, if_pos hm]
            · intro b _ h1 h2
              have h1 : n ≤ b := h1
              have h2 : b < n := h2
              omega
          · exact (needOf_ne h).elim
        · cases h
        · cases h
    · split at h
      · cases h
      · rename_i hp
        split at h
        · cases h
        · rename_i hwr
          split at h
          · rename_i v s2 hst
            split at h
            · rename_i hnn
              have hnn := nn_ok hnn
              obtain ⟨hh, n, m, y⟩ := s
              obtain ⟨h2, n2, m2, y2⟩ := s2
              simp only [appL_eq] at h hst hp hwr
              generalize touchOf P ⟨hh, n, m, y⟩ fr o.op = t at *
              try dsimp only at h
              try dsimp only at hst
              try dsimp only at hp
              try dsimp only at hwr
              generalize aboveL m t.2 = wr at *
              have htw : ∀ b ∈ wr, b ∈ wr ++ (t.2 ++ (t.1 ++ globsOf o.op.operands.toList)) := fun b hb => List.mem_append.2 (.inl hb)
              generalize wr ++ (t.2 ++ (t.1 ++ globsOf o.op.operands.toList)) = tch at *
              have hW := fun q => wrOk_ok hwr q
              refine ⟨_, _, _, some ⟨⟨copyT hh tch .leaf, n, baseOf n m wr, y⟩, v, ⟨h2, n2, m2, y2⟩, wr, tch, false⟩,
                ⟨⟨hw, hst, hnn.1, hnn.2, rfl, rfl, ?_, ?_, ?_, fun q => (by cases q), fun q => (by cases q), htw, ?_, ?_, ?_, ?_, hp, rfl⟩, rfl, rfl⟩, h⟩
              · cases ht : wr with
                | nil => exact .inr ⟨rfl, rfl⟩
                | cons => exact .inl rfl
              · intro b o' hb
                have hb : (copyT hh _ .leaf).get (pathOf b) = some o' := hb
                rw [copyT_get] at hb
                split at hb
                · exact hb
                · rw [get_leaf] at hb; cases hb
              · intro _ b hb
                have hb : (copyT hh _ .leaf).get (pathOf b) ≠ none := hb
                rw [copyT_get] at hb
                split at hb
                · assumption
                · exact absurd (get_leaf b) hb
              · intro b hb
                exact ((hW fun q => by rw [q] at hb; cases hb).2.1 b hb).1
              · intro b hb
                exact ((hW fun q => by rw [q] at hb; cases hb).2.1 b hb).2
              · show baseOf n m wr ≤ n
                by_cases q : wr = []
                · rw [q]; exact Nat.le_refl _
                · unfold baseOf
                  split
                  · exact Nat.le_refl _
                  · exact (hW q).1
              · intro b hb h1 h2
                have hb : (copyT hh _ .leaf).get (pathOf b) ≠ none := hb
                rw [copyT_get] at hb
                split at hb
                · rename_i hm
                  have h1 : baseOf n m wr ≤ b := h1
                  have h2 : b < n := h2
                  by_cases q : wr = []
                  · rw [q] at h1
                    have h1 : n ≤ b := h1
                    omega
                  · refine (hW q).2.2 b hm ?_
                    unfold baseOf at h1
                    split at h1
                    · first | exact absurd rfl q | exact absurd (by assumption) q
                    · exact h1
                · exact absurd (get_leaf b) hb
            · exact (needOf_ne h).elim
          · cases h
          · cases h
/-- the run in the order of the text -/
theorem trace_of : ∀ (l : List Oper) (i : Nat) (recs : List Rec) (s : St) (fr : Fr) (sF : St) (frF : Fr), ops.toList.drop i = l → i ≤ ops.size → drawFrom P call ops l i recs s fr = .ok sF frF →
    ∃ (T : Nat → St) (F : Nat → Fr) (C : Nat → List Rec) (I : Nat → Option Info), T i = s ∧ F i = fr ∧ C i = recs ∧ T ops.size = sF ∧ F ops.size = frF ∧
      ∀ j, i ≤ j → ∀ o, ops[j]? = some o → OneOk P call ops j (C j) o (T j) (F j) (T (j + 1)) (F (j + 1)) (C (j + 1)) (I j)
  | [], i, recs, s, fr, sF, frF, hl, hi, h => by
    cases h
    have : i = ops.size := by
      have := congrArg List.length hl
      simp at this; omega
    subst this
    refine ⟨fun _ => s, fun _ => fr, fun _ => recs, fun _ => none, rfl, rfl, rfl, rfl, rfl, fun j hj o ho => ?_⟩
    have := (Array.getElem?_eq_some_iff.1 ho).1
    omega
  | o :: l, i, recs, s, fr, sF, frF, hl, hi, h => by
    have ho : ops[i]? = some o := by
      have := congrArg (·[0]?) hl
      simpa using this
    have hlt := (Array.getElem?_eq_some_iff.1 ho).1
    have h : drawOne P call ops o (drawFrom P call ops l) i recs s fr = .ok sF frF := h
    obtain ⟨s', fr', recs', f, h1, h2⟩ := drawOne_ok h
    obtain ⟨T, F, C, I, t1, t2, t3, t4, t5, t6⟩ := trace_of l (i + 1) recs' s' fr' sF frF (by
      have := congrArg (List.drop 1) hl
      simpa [List.drop_drop, Nat.add_comm] using this) (by omega) h2
    refine ⟨fun k => if k = i then s else T k, fun k => if k = i then fr else F k, fun k => if k = i then recs else C k, fun k => if k = i then f else I k, by simp, by simp, by simp, ?_, ?_, ?_⟩
    · dsimp only; rw [if_neg (by omega)]; exact t4
    · dsimp only; rw [if_neg (by omega)]; exact t5
    · intro j hj o' ho'
      dsimp only
      by_cases q : j = i
      · subst q
        rw [ho] at ho'; cases ho'
        simp only [if_true]
        rw [if_neg (by omega), if_neg (by omega), if_neg (by omega), t1, t2, t3]
        exact h1
      · rw [if_neg q, if_neg q, if_neg q, if_neg q, if_neg (by omega), if_neg (by omega), if_neg (by omega)]
        exact t6 j (by omega) o' ho'
end
end Go.Proofs.YtlnfollgpbcafaaGreatDoor.Xq
