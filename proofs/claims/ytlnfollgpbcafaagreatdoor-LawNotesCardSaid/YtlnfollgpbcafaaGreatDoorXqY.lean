import Derived.Test.YtlnfollgpbcafaaGreatDoorXqX
import Derived.OpenShut
import Derived.MakeChecks
set_option autoImplicit false
set_option linter.unusedVariables false
/-! The listed variables. -/
namespace Go.Proofs.YtlnfollgpbcafaaGreatDoor.Xq
open Go
theorem laid_mem {P : Program} {w : World} {n : String} {d : DataW Unit} : ∀ {laid : List (String × DataW Unit)} {ps : List MemPlace}, DataW.LaidVars P w laid ps → (n, d) ∈ laid →
    ∃ g t cs fuel p, P.globalNamed n = some g ∧ (P.globals[g]?).map (·.type) = some t ∧ w.var? P n = some cs ∧ DataW.trod (fun _ => ()) P w 0 (fun _ => true) false fuel t cs.toList = some (d, p) ∧ ∀ x ∈ MemPlace.row ⟨g, 0, none⟩ cs.size, x ∈ ps
  | (m, e) :: r, ps, h, hm => by
    obtain ⟨g, t, cs, fuel, p, q, h1, h2, h3, h4, h5, rfl⟩ := h
    rcases List.mem_cons.1 hm with hm | hm
    · cases hm
      exact ⟨g, t, cs, fuel, p, h1, h2, h3, h4, fun x hx => by simp [hx]⟩
    · obtain ⟨g', t', cs', fuel', p', k1, k2, k3, k4, k5⟩ := laid_mem h5 hm
      exact ⟨g', t', cs', fuel', p', k1, k2, k3, k4, fun x hx => by simp [k5 x hx]⟩
/-- a listed array of numbers -/
theorem laid_ints {P : Program} {W : World} {laid : List (String × DataW Unit)} (h : laidMet P laid W) {n : String} {l : List Int} (hm : (n, DataW.agg (l.map fun z => .lit (.int .i64 z))) ∈ laid) {g t e : Nat}
    (hg : P.globalNamed n = some g) (ht : (P.globals[g]?).map (·.type) = some t) (hu : P.underlying t = some (.array l.length e)) (hue : P.underlying e = some (.int .i64)) (hc : P.cellsOf e = 1) (hct : P.cellsOf t = l.length) (hl : 0 < l.length) :
    ∃ cs ty, W.heap[g]? = some (.cells cs ty (0, 0)) ∧ cs.toList = l.map (Value.int .i64) := by
  obtain ⟨ps, hv, _, hps⟩ := h
  obtain ⟨g', t', cs, fuel, p, h1, h2, h3, h4, h5⟩ := laid_mem hv hm
  rw [hg] at h1; cases h1
  rw [ht] at h2; cases h2
  obtain ⟨xs, m, _, ex, hlen, hxl, hel⟩ := DataW.trod_array hu h4
  rw [hct] at hlen
  have hsz : cs.size = l.length := by rw [← Array.length_toList]; exact hlen
  obtain ⟨⟨c, ty, hcell⟩, _⟩ := hps g 0 (h5 _ (by simp [MemPlace.row]; omega))
  have hcs : c = cs := by
    unfold World.var? at h3
    rw [hg] at h3
    simp only [Option.bind_some, hcell] at h3
    exact Option.some.inj h3
  subst hcs
  refine ⟨c, ty, hcell, ?_⟩
  have ex1 : l.map (fun z => (DataW.lit (.int .i64 z) : DataW Unit)) = xs.map (·.1) := DataW.agg.inj (Prod.mk.inj ex).1
  apply List.ext_getElem?
  intro i
  rw [List.getElem?_map]
  by_cases hi : i < l.length
  · have k := hel i hi
    rw [hc, Nat.mul_one] at k
    have hxi : i < xs.length := by omega
    rw [List.getElem?_eq_getElem hxi] at k
    obtain ⟨z, hz, hx, _⟩ := DataW.trod_int hue k
    have h1 : ((c.toList.drop i).take 1)[0]? = some (.int .i64 z) := by rw [hz]; rfl
    rw [List.getElem?_take_of_lt (by omega), List.getElem?_drop] at h1
    have h2 := congrArg (·[i]?) ex1
    simp only [List.getElem?_map, List.getElem?_eq_getElem hi, List.getElem?_eq_getElem hxi, Option.map_some, hx] at h2
    rw [List.getElem?_eq_getElem hi]
    simp only [Option.some.injEq, DataW.lit.injEq, Lit.int.injEq, true_and] at h2
    simp only [Nat.add_zero] at h1
    rw [h1, Option.map_some, h2]
  · rw [List.getElem?_eq_none (by simp; omega), List.getElem?_eq_none (by omega)]; rfl
end Go.Proofs.YtlnfollgpbcafaaGreatDoor.Xq
