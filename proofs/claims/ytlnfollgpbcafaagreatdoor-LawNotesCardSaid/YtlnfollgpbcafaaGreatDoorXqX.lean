import Derived.Test.YtlnfollgpbcafaaGreatDoorXqW
import Derived.Below
set_option autoImplicit false
set_option linter.unusedVariables false
/-! From a run of the executor to a law. -/
namespace Go.Proofs.YtlnfollgpbcafaaGreatDoor.Xq
open Go

/-- variables: number, type of the row, cells -/
noncomputable def initHeap (gl : List (Nat × Nat × List AV)) : Tr AObj := lrec .leaf (fun g _ ih => ih.set (some (.cells g.2.2 g.2.1 true)) (pathOf g.1)) gl
noncomputable def initS (gl : List (Nat × Nat × List AV)) (next : Nat) (sy : Sy) : St := ⟨initHeap gl, next, next, sy⟩
theorem initHeap_get {gl : List (Nat × Nat × List AV)} {b : Nat} {o : AObj} (h : (initHeap gl).get (pathOf b) = some o) : ∃ g ∈ gl, g.1 = b ∧ o = .cells g.2.2 g.2.1 true := by
  induction gl with
  | nil => have : (Tr.get (pathOf b) (.leaf : Tr AObj)) = some o := h; rw [get_leaf] at this; cases this
  | cons g gl ih =>
    have h : (Tr.set (some (.cells g.2.2 g.2.1 true)) (pathOf g.1) (initHeap gl)).get (pathOf b) = some o := h
    rw [Tr.get_set_of] at h
    split at h
    · rename_i q
      cases h
      exact ⟨g, List.mem_cons_self .., q, rfl⟩
    · obtain ⟨g', hg', q⟩ := ih h
      exact ⟨g', List.mem_cons_of_mem _ hg', q⟩
/-- the names of the variables -/
noncomputable def env0 (P : Program) (w : World) (σ : Nat → Option Int) (ς : Nat → ByteArray) : Env where
  ρ := fun b => if b < P.globals.size then (match w.heap[b]? with | some (.cells cs _ _) => some (b, cs.size) | _ => none) else none
  σ := σ
  ς := ς
theorem init_rel {P : Program} {w : World} {σ : Nat → Option Int} {ς : Nat → ByteArray} {gl : List (Nat × Nat × List AV)} {next : Nat} {sy : Sy} (hn : P.globals.size ≤ next)
    (hg : ∀ g ∈ gl, g.1 < P.globals.size ∧ ∃ cs, w.heap[g.1]? = some (.cells cs g.2.1 (0, 0)) ∧ VRL (env0 P w σ ς) g.2.2 cs.toList) (hy : SyOk (env0 P w σ ς) sy) :
    Rel P (env0 P w σ ς) (initS gl next sy) w where
  heap := fun b o h => by
    obtain ⟨g, hgl, rfl, rfl⟩ := initHeap_get h
    obtain ⟨hlt, cs, hw, hv⟩ := hg g hgl
    refine ⟨g.1, cs.size, ?_, cs, cs.toList, [], hw, by simp, hv, fun _ => rfl, rfl⟩
    simp only [env0]
    rw [if_pos hlt, hw]
  inj := fun b b' o o' r c c' _ _ h1 h2 => by
    have go : ∀ {b : Nat} {c : Nat}, (env0 P w σ ς).ρ b = some (r, c) → r = b := fun {b c} h => by
      simp only [env0] at h
      split at h
      · split at h
        · cases h; rfl
        · cases h
      · cases h
    rw [← go h1, ← go h2]
  fresh := fun b hb => by
    have hb : next ≤ b := hb
    simp only [env0]
    rw [if_neg (by omega)]
  glob := fun g r c hgs h => by
    simp only [env0] at h
    rw [if_pos hgs] at h
    split at h
    · cases h; rfl
    · cases h
  next := hn
  sy := hy
noncomputable def isTrue (v : AV) (_ : St) : Bool := match v with | .bool true => true | _ => false
theorem isTrue_ok {v : AV} {s : St} (h : isTrue v s = true) : v = .bool true := by
  unfold isTrue at h
  split at h
  · rfl
  · cases h
theorem lawfulB : Lawful ansB (fun b => b = true) :=
  ⟨fun m h => (by cases h), fun q a b h => by
    cases a with
    | true => exact ⟨rfl, h⟩
    | false => cases h⟩
theorem Step.below {E E' : Env} {s s' : St} {w w' : World} (h : Step E s w E' s' w') (hn : ∀ b o r c, hget s b = some o → E.ρ b = some (r, c) → b < s.base) : RowKit.Below w.heap.size w w' :=
  ⟨h.os, h.tape, h.output, h.size, fun k hk => h.keep k hk fun b o c hb hbase e => by
    have := hn b o k c hb e
    omega⟩
/-- a run of the executor that comes out true: the function returns true and changes nothing that was there -/
theorem law_of_run {P : Program} (hm : P.follows .mixedOrders = true) {sm : Sm} (hsm : SmOk P sm) {fuel f : Nat} {args : List AV} {vs : Array Value} {w : World} {σ : Nat → Option Int} {ς : Nat → ByteArray}
    {gl : List (Nat × Nat × List AV)} {next : Nat} {sy : Sy} (hn : P.globals.size ≤ next)
    (hg : ∀ g ∈ gl, g.1 < P.globals.size ∧ ∃ cs, w.heap[g.1]? = some (.cells cs g.2.1 (0, 0)) ∧ VRL (env0 P w σ ς) g.2.2 cs.toList) (hy : SyOk (env0 P w σ ς) sy)
    (hv : VRL (env0 P w σ ς) args vs.toList) (h : callF P sm fuel Bool ansB f args (initS gl next sy) isTrue = true) (hb : (bodyOf P f).isSome = true) :
    Calls P f vs w fun e w' => e = .returned (.bool true) ∧ RowKit.Below w.heap.size w w' := by
  have hR := init_rel (next := next) hn hg hy
  refine Calls.mono ((callF_sound hm hsm fuel Bool ansB (fun b => b = true) lawfulB _ _ w f args vs isTrue hR hv h).calls hb) fun e w' ⟨v, s', E', x, he, h1, h2, h3, h4⟩ => ?_
  have := isTrue_ok h4
  subst this
  have h1 : x = .bool true := h1
  subst h1
  refine ⟨he, h3.below fun b o r c hb _ => ?_⟩
  obtain ⟨g, hgl, rfl, _⟩ := initHeap_get hb
  exact Nat.lt_of_lt_of_le (hg g hgl).1 hn

/-! ### atoms: two numbers, a string's length, a string -/
noncomputable def sy2 : Sy := ⟨3, ((Tr.leaf.set (some (-9223372036854775808, 9223372036854775807)) (pathOf 0)).set (some (-9223372036854775808, 9223372036854775807)) (pathOf 1)).set (some (0, 9223372036854775807)) (pathOf 2), [], Tr.leaf.set (some (.excl [])) (pathOf 0)⟩
def σ2 (i k : Int) (n : Nat) : Nat → Option Int := fun j => if j = 0 then some i else if j = 1 then some k else if j = 2 then some n else none
theorem sy2_ok {E : Env} {i k : Int} {n : Nat} (hi : (Lit.int .i64 i).wf = true) (hk : (Lit.int .i64 k).wf = true) (hn : n ≤ 9223372036854775807) (he : E.σ = σ2 i k n) : SyOk E sy2 := by
  have range : ∀ {x : Int}, (Lit.int .i64 x).wf = true → -9223372036854775808 ≤ x ∧ x ≤ 9223372036854775807 := fun {x} h => by
    simpa [Lit.wf, IntKind.min, IntKind.max, IntKind.signed, IntKind.bits] using h
  refine ⟨fun j hj => ?_, fun j lo hi' h => ?_, fun m hm => (by cases hm), fun j l m h => ?_, fun j ls h => ?_⟩
  · have hj : 3 ≤ j := hj
    rw [he]; unfold σ2
    rw [if_neg (by omega), if_neg (by omega), if_neg (by omega)]
  · have h : Tr.get (pathOf j) (Tr.set (some ((0 : Int), (9223372036854775807 : Int))) (pathOf 2) (Tr.set (some (-9223372036854775808, 9223372036854775807)) (pathOf 1) (Tr.set (some (-9223372036854775808, 9223372036854775807)) (pathOf 0) .leaf))) = some (lo, hi') := h
    rw [Tr.get_set_of, Tr.get_set_of, Tr.get_set_of, get_leaf] at h
    rw [he]; unfold σ2
    by_cases q2 : 2 = j
    · subst q2
      simp at h
      obtain ⟨rfl, rfl⟩ := h
      exact ⟨n, by simp, by omega, by omega⟩
    · rw [if_neg q2] at h
      by_cases q1 : 1 = j
      · subst q1
        simp at h
        obtain ⟨rfl, rfl⟩ := h
        exact ⟨k, by simp, (range hk).1, (range hk).2⟩
      · rw [if_neg q1] at h
        by_cases q0 : 0 = j
        · subst q0
          simp at h
          obtain ⟨rfl, rfl⟩ := h
          exact ⟨i, by simp, (range hi).1, (range hi).2⟩
        · rw [if_neg q0] at h; cases h
  · have h : Tr.get (pathOf j) (Tr.set (some (SF.excl [])) (pathOf 0) .leaf) = some (.known l m) := h
    rw [Tr.get_set_of, get_leaf] at h
    split at h <;> cases h
  · have h : Tr.get (pathOf j) (Tr.set (some (SF.excl [])) (pathOf 0) .leaf) = some (.excl ls) := h
    rw [Tr.get_set_of, get_leaf] at h
    split at h
    · cases h; intro x hx; cases hx
    · cases h
end Go.Proofs.YtlnfollgpbcafaaGreatDoor.Xq
