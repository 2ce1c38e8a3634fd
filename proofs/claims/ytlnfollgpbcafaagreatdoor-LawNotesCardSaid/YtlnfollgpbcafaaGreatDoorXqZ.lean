import Derived.Test.YtlnfollgpbcafaaGreatDoorXqY
set_option autoImplicit false
set_option linter.unusedVariables false
/-! All listed variables at once: arrays of numbers, and errors made at the start. -/
namespace Go.Proofs.YtlnfollgpbcafaaGreatDoor.Xq
open Go
noncomputable def ints (l : List Int) : List AV := mapL (fun n => .int .i64 n) l
/-- the types of the rows; behind 1000: of what the rows' first cells hold -/
def tyOf (W : World) (g : Nat) : Nat := if g < 1000 then (match W.heap[g]? with | some (.cells _ t _) => t | _ => 0) else (match W.heap[g - 1000]? with | some (.cells cs _ _) => (match cs[0]? with | some (Value.iface u _) => u | _ => 0) | _ => 0)
noncomputable def litInts : List (DataW Unit) → Option (List Int)
  | [] => some []
  | .lit (.int .i64 z) :: r => (litInts r).map (z :: ·)
  | _ => none
theorem litInts_ok : ∀ {ds : List (DataW Unit)} {l : List Int}, litInts ds = some l → ds = l.map fun z => .lit (.int .i64 z)
  | [], l, h => by cases h; rfl
  | d :: r, l, h => by
    unfold litInts at h
    split at h
    · rename_i q; cases q
    · rename_i z r' q
      cases q
      cases hr : litInts r with
      | none => rw [hr] at h; cases h
      | some l' =>
        rw [hr] at h
        cases h
        rw [litInts_ok hr]; rfl
    · cases h
noncomputable def arrOk (P : Program) (g n : Nat) : Bool :=
  match (P.globals[g]?).map (·.type) with
  | some t => match P.underlying t with
    | some (.array m e) => m == n && (match P.underlying e with | some (.int .i64) => true | _ => false) && P.cellsOf e == 1 && P.cellsOf t == n && Nat.ble 1 n
    | _ => false
  | none => false
noncomputable def ifcOk (P : Program) (g : Nat) : Bool :=
  match (P.globals[g]?).map (·.type) with
  | some t => match P.underlying t with
    | some (.interface _) => true
    | _ => false
  | none => false
noncomputable def rowOf (P : Program) (t : Nat → Nat) (n : String) : DataW Unit → List (Nat × Nat × List AV)
  | .agg ds => match litInts ds, P.globalNamed n with
    | some l, some g => if arrOk P g l.length = true then [(g, t g, ints l)] else []
    | _, _ => []
  | .iface nm _ => match P.globalNamed n with
    | some g => if ifcOk P g = true then [(g, t g, [.iface (t (1000 + g)) .any])] else []
    | none => []
  | _ => []
noncomputable def glsOf (P : Program) (t : Nat → Nat) (laid : List (String × DataW Unit)) : List (Nat × Nat × List AV) := laid.flatMap fun x => rowOf P t x.1 x.2
/-- a listed interface -/
theorem laid_iface {P : Program} {W : World} {laid : List (String × DataW Unit)} (h : laidMet P laid W) {n nm : String} {d : DataW Unit} (hm : (n, DataW.iface nm d) ∈ laid) {g t : Nat}
    (hg : P.globalNamed n = some g) (ht : (P.globals[g]?).map (·.type) = some t) {ms} (hu : P.underlying t = some (.interface ms)) :
    ∃ cs ty u v, W.heap[g]? = some (.cells cs ty (0, 0)) ∧ cs.toList = [.iface u v] ∧ P.typeName? 3 u = some nm := by
  obtain ⟨ps, hv, _, hps⟩ := h
  obtain ⟨g', t', cs, fuel, p, h1, h2, h3, h4, h5⟩ := laid_mem hv hm
  rw [hg] at h1; cases h1
  rw [ht] at h2; cases h2
  obtain ⟨u, v, e1, e2⟩ : ∃ u v, cs.toList = [.iface u v] ∧ P.typeName? 3 u = some nm := by
    generalize cs.toList = l at h4
    cases fuel with
    | zero => simp [DataW.trod] at h4
    | succ m =>
      cases l with
      | nil => simp [DataW.trod, hu] at h4
      | cons v r =>
        cases r with
        | cons => cases v <;> simp [DataW.trod, hu] at h4
        | nil =>
          cases v <;> try (simp [DataW.trod, hu] at h4; done)
          rename_i u v
          cases hn : P.typeName? 3 u with
          | none => simp [DataW.trod, hu, hn] at h4
          | some nm' =>
            simp [DataW.trod, hu, hn] at h4
            obtain ⟨_, _, _, rfl, _⟩ := h4
            exact ⟨u, v, rfl, hn⟩
  have hsz : cs.size = 1 := by rw [← Array.length_toList, e1]; rfl
  obtain ⟨⟨c, ty, hcell⟩, _⟩ := hps g 0 (h5 _ (by simp [MemPlace.row]; omega))
  have hcs : c = cs := by
    unfold World.var? at h3
    rw [hg] at h3
    simp only [Option.bind_some, hcell] at h3
    exact Option.some.inj h3
  subst hcs
  exact ⟨c, ty, u, v, hcell, e1, e2⟩
theorem laid_all {P : Program} {W : World} {laid : List (String × DataW Unit)} (hsz : Nat.ble P.globals.size 1000 = true) (h : laidMet P laid W) {E : Env} :
    ∀ g ∈ glsOf P (tyOf W) laid, g.1 < P.globals.size ∧ ∃ cs, W.heap[g.1]? = some (.cells cs g.2.1 (0, 0)) ∧ VRL E g.2.2 cs.toList := by
  intro g hg
  obtain ⟨⟨n, d⟩, hm, hd⟩ := List.mem_flatMap.1 hg
  have lt : ∀ {g t : Nat}, (P.globals[g]?).map (·.type) = some t → g < P.globals.size := fun {g t} e => by
    cases q : P.globals[g]? with
    | none => rw [q] at e; cases e
    | some x => exact (Array.getElem?_eq_some_iff.1 q).1
  dsimp only at hd
  unfold rowOf at hd
  split at hd
  · rename_i ds
    split at hd
    · rename_i l gi hl hgn
      split at hd
      · rename_i ok
        obtain rfl := List.mem_singleton.1 hd
        unfold arrOk at ok
        split at ok
        · rename_i t ht
          split at ok
          · rename_i m e hu
            simp only [Bool.and_eq_true, beq_iff_eq, Nat.ble_eq] at ok
            obtain ⟨⟨⟨⟨rfl, hue⟩, hc⟩, hct⟩, hl1⟩ := ok
            have hue : P.underlying e = some (.int .i64) := by
              split at hue
              · assumption
              · cases hue
            have := litInts_ok hl
            subst this
            obtain ⟨cs, ty, h1, h2⟩ := laid_ints h hm hgn ht hu hue hc hct hl1
            refine ⟨lt ht, cs, ?_, ?_⟩
            · show W.heap[gi]? = some (.cells cs (tyOf W gi) (0, 0))
              have := lt ht
              have := Nat.le_of_ble_eq_true hsz
              unfold tyOf; rw [if_pos (by omega), h1]
            · show VRL E (ints l) cs.toList
              rw [h2]; unfold ints; rw [mapL_eq]; exact VRL.map _ _ _ fun x _ => rfl
          · cases ok
        · cases ok
      · cases hd
    · cases hd
  · rename_i nm d'
    split at hd
    · rename_i gi hgn
      split at hd
      · rename_i ok
        obtain rfl := List.mem_singleton.1 hd
        unfold ifcOk at ok
        split at ok
        · rename_i t ht
          split at ok
          · rename_i ms hu
            obtain ⟨cs, ty, u, v, h1, h2, h3⟩ := laid_iface h hm hgn ht hu
            refine ⟨lt ht, cs, ?_, ?_⟩
            · show W.heap[gi]? = some (.cells cs (tyOf W gi) (0, 0))
              have := lt ht
              have := Nat.le_of_ble_eq_true hsz
              unfold tyOf; rw [if_pos (by omega), h1]
            · have h0 : cs[0]? = some (.iface u v) := by
                have : cs.toList[0]? = some (.iface u v) := by rw [h2]; rfl
                simpa using this
              have ht : tyOf W (1000 + gi) = u := by
                unfold tyOf
                rw [if_neg (by omega), show 1000 + gi - 1000 = gi by omega, h1]
                simp only [h0]
              show VRL E [.iface (tyOf W (1000 + gi)) .any] cs.toList
              rw [h2, ht]
              exact VRL.cons (a := .iface u .any) ⟨v, rfl, trivial⟩ VRL.nil
          · cases ok
        · cases ok
      · cases hd
    · cases hd
  · cases hd
end Go.Proofs.YtlnfollgpbcafaaGreatDoor.Xq
