/- The executor of this claim, and its proof: a part. -/
import Derived.Test.YthfkajaeikhloaaGreatDoorXgD
set_option autoImplicit false
set_option linter.unusedVariables false
/-! The listed variables, the errors among them with names for what they point at. -/
namespace Go.Proofs.YthfkajaeikhloaaGreatDoor.Xq
open Go
/-- where the pointer in a variable's only cell leads -/
def errAt (W : World) (g : Nat) : Option (Nat × Nat) := match W.heap[g]? with
  | some (.cells cs _ _) => (match cs[0]? with | some (Value.iface _ (.pointer (some a))) => some (a.block, a.off) | _ => none)
  | _ => none
/-- the names: the variables'; from 500 on: of what the errors in them point at -/
noncomputable def env1 (P : Program) (w : World) (σ : Nat → Option Int) (ς : Nat → ByteArray) : Env where
  ρ := fun b => if b < 500 then (env0 P w σ ς).ρ b else if b < 1000 then errAt w (b - 500) else none
  σ := σ
  ς := ς
/-- the types that bear a name: one alone -/
noncomputable def nameOnly (P : Program) (nm : String) (T : Nat) : Bool := allL (fun u => match P.typeName? 3 u with | some m => (match decide (m = nm) with | true => Nat.beq u T | false => true) | none => true) (List.range P.types.size)
noncomputable def rowE (P : Program) (t : Nat → Nat) (T : Nat) (n : String) (d : DataW Unit) : List (Nat × Nat × List AV) := match d with
  | .iface nm (.ptr _) => (match decide (nm = "*errors.errorString"), P.globalNamed n with
    | true, some g => if ifcOk P g = true then [(g, t g, [.iface T (.optr (500 + g))])] else []
    | _, _ => [])
  | d => rowOf P t n d
noncomputable def glsE (P : Program) (t : Nat → Nat) (T : Nat) (laid : List (String × DataW Unit)) : List (Nat × Nat × List AV) := laid.flatMap fun x => rowE P t T x.1 x.2
def plainDesc : TypeDesc → Bool
  | .slice _ => true | .map _ _ => true | .chan _ _ => true | .func _ _ _ => true | .array _ _ => true | .struct _ => true | _ => false
theorem struct_desc {info : TypeId → Option TypeInfo} {fs : Array Field} {i : TypeInfo} (h : Made.reckonStruct info fs = some i) : plainDesc i.desc = true := by
  unfold Made.reckonStruct at h
  simp only [Option.bind_eq_bind, Option.bind_eq_some_iff, Option.pure_def] at h
  obtain ⟨r, _, h⟩ := h
  split at h <;> (cases h; rfl)
theorem reckon_desc {info : TypeId → Option TypeInfo} {d : TypeDesc} {i : TypeInfo} (h : Made.reckon info d = some i) :
    (∃ e j, i.desc = .pointer e ∧ info e = some j ∧ ∀ n r, j.desc ≠ .named n r) ∨ plainDesc i.desc = true := by
  unfold Made.reckon at h
  cases d with
  | pointer e =>
    simp only [Option.bind_eq_bind, Option.bind_eq_some_iff] at h
    obtain ⟨j, hj, h⟩ := h
    left
    split at h
    · cases h
    · rename_i q
      split at h
      · cases h
      · obtain ⟨x, _, h⟩ := Option.bind_eq_some_iff.1 h
        cases h
        exact ⟨e, j, rfl, hj, fun n r => by rw [q]; simp⟩
    · rename_i q1 q2
      obtain ⟨x, _, h⟩ := Option.bind_eq_some_iff.1 h
      cases h
      exact ⟨e, j, rfl, hj, fun n r q => q1 _ _ q⟩
  | struct fs => exact .inr (struct_desc h)
  | _ =>
    right
    simp only [Option.bind_eq_bind, Option.bind_eq_some_iff, Option.pure_def, reduceCtorEq] at h <;> first
      | (obtain ⟨x, _, y, _, h⟩ := h; cases h; done)
      | (obtain ⟨x, _, y, _, h⟩ := h; cases h; rfl)
      | (obtain ⟨x, _, y, _, z, _, v, _, h⟩ := h; cases h; rfl)
      | (obtain ⟨x, _, h⟩ := h; cases h; rfl)
theorem info_made {P : Program} {u : Nat} (hu : ¬ u < P.types.size) {i : TypeInfo} (h : P.info? u = some i) :
    (∃ e j, i.desc = .pointer e ∧ Made.infoAt P.toTables 99 e = some j ∧ ∀ n r, j.desc ≠ .named n r) ∨ plainDesc i.desc = true := by
  have h : (if u < P.types.size then P.types[u]? else Made.infoAt P.toTables Made.depth u) = some i := h
  rw [if_neg hu] at h
  have h : (if u < P.types.size then P.types[u]? else (Made.decode (u - P.types.size)).bind (Made.reckon (Made.infoAt P.toTables 99))) = some i := h
  rw [if_neg hu] at h
  obtain ⟨d, _, h⟩ := Option.bind_eq_some_iff.1 h
  exact reckon_desc h
/-- no type of another make bears that name -/
noncomputable def basicOk (P : Program) : Bool := allL (fun u => match P.types[u]? with
  | some i => (match i.desc with
    | .bool => decide (i.str ≠ "errors.errorString") | .int _ => decide (i.str ≠ "errors.errorString") | .float _ => decide (i.str ≠ "errors.errorString") | .string => decide (i.str ≠ "errors.errorString") | _ => true)
  | none => true) (List.range P.types.size)
theorem star_ne (x : String) : "*" ++ x ≠ "errors.errorString" := by
  intro h
  have := congrArg String.toList h
  rw [String.toList_append] at this
  have := congrArg (·[0]?) this
  simp at this
theorem err_lt {P : Program} (hb : basicOk P = true) {u : Nat} (hn : P.typeName? 3 u = some "*errors.errorString") : u < P.types.size := by
  unfold basicOk at hb
  rw [allL_iff] at hb
  refine Decidable.byContradiction fun hu => ?_
  cases hi : P.info? u with
  | none => simp [Program.typeName?, hi] at hn
  | some i =>
    rcases info_made hu hi with ⟨e, j, he, hj, hne⟩ | hp
    · have hn2 : (P.typeName? 2 e).map ("*" ++ ·) = some "*errors.errorString" := by
        rw [Program.typeName?, hi] at hn
        simpa only [he] using hn
      obtain ⟨m, hm, hx⟩ := Option.map_eq_some_iff.1 hn2
      have hm' : m = "errors.errorString" := by
        have h1 : "*" ++ m = "*" ++ "errors.errorString" := hx
        have := congrArg String.toList h1
        rw [String.toList_append, String.toList_append] at this
        exact String.toList_inj.1 (List.append_cancel_left this)
      subst hm'
      cases hi2 : P.info? e with
      | none => simp [Program.typeName?, hi2] at hm
      | some i2 =>
        rw [Program.typeName?, hi2] at hm
        by_cases hlt : e < P.types.size
        · have e1 : P.info? e = P.types[e]? := if_pos hlt
          have e2 : Made.infoAt P.toTables 99 e = P.types[e]? := if_pos hlt
          rw [e2, ← e1, hi2] at hj
          cases hj
          have hbe := hb e (List.mem_range.2 hlt)
          rw [← e1, hi2] at hbe
          dsimp only at hbe hm
          cases hd : j.desc <;> rw [hd] at hm hbe <;> dsimp only at hm hbe
          case named n r => exact hne n r hd
          case pointer e3 =>
            obtain ⟨m3, _, hx3⟩ := Option.map_eq_some_iff.1 hm
            exact star_ne _ hx3
          case bool => split at hm <;> first | (cases hm; done) | (injection hm with hm; rw [hm] at hbe; exact absurd hbe (by decide))
          case int => split at hm <;> first | (cases hm; done) | (injection hm with hm; rw [hm] at hbe; exact absurd hbe (by decide))
          case float => split at hm <;> first | (cases hm; done) | (injection hm with hm; rw [hm] at hbe; exact absurd hbe (by decide))
          case string => split at hm <;> first | (cases hm; done) | (injection hm with hm; rw [hm] at hbe; exact absurd hbe (by decide))
          all_goals cases hm
        · rcases info_made hlt hi2 with ⟨e3, j3, h3, _⟩ | hp
          · dsimp only at hm
            rw [h3] at hm
            obtain ⟨m3, _, hx3⟩ := Option.map_eq_some_iff.1 hm
            exact star_ne _ hx3
          · dsimp only at hm
            cases hd : i2.desc <;> rw [hd] at hm hp <;> simp [plainDesc] at hm hp
    · rw [Program.typeName?, hi] at hn
      dsimp only at hn
      cases hd : i.desc <;> rw [hd] at hn hp <;> simp [plainDesc] at hn hp
theorem nameOnly_ok {P : Program} {T : Nat} (hb : basicOk P = true) (h : nameOnly P "*errors.errorString" T = true) {u : Nat} (hn : P.typeName? 3 u = some "*errors.errorString") : u = T := by
  unfold nameOnly at h
  rw [allL_iff] at h
  have := h u (List.mem_range.2 (err_lt hb hn))
  rw [hn] at this
  have e : decide ("*errors.errorString" = "*errors.errorString") = true := by decide
  dsimp only at this
  rw [e] at this
  exact Nat.eq_of_beq_eq_true this
theorem laid_err {P : Program} {W : World} {laid : List (String × DataW Unit)} (h : laidMet P laid W) {n nm : String} {d : DataW Unit} (hm : (n, DataW.iface nm (.ptr d)) ∈ laid) {g t T e : Nat}
    (hg : P.globalNamed n = some g) (ht : (P.globals[g]?).map (·.type) = some t) {ms} (hu : P.underlying t = some (.interface ms)) (hT : ∀ u, P.typeName? 3 u = some nm → u = T) (hTe : P.underlying T = some (.pointer e)) :
    ∃ cs ty b off, W.heap[g]? = some (.cells cs ty (0, 0)) ∧ cs = #[.iface T (.pointer (some ⟨b, off, none⟩))] := by
  obtain ⟨ps, hv, _, hps⟩ := h
  obtain ⟨g', t', cs, fuel, p, h1, h2, h3, h4, h5⟩ := laid_mem hv hm
  rw [hg] at h1; cases h1
  rw [ht] at h2; cases h2
  obtain ⟨v, e1, a, e2⟩ : ∃ v, cs.toList = [.iface T v] ∧ ∃ a, v.cells.toList = [.pointer (some a)] := by
    generalize cs.toList = l at h4
    cases fuel with
    | zero => simp [DataW.trod] at h4
    | succ m =>
      cases l with
      | nil => simp [DataW.trod, hu] at h4
      | cons v r =>
        cases r with
        | cons => cases v <;> simp [DataW.trod, hu] at h4
        | nil =>
          cases v <;> try (simp [DataW.trod, hu] at h4; done)
          rename_i u v
          cases hn : P.typeName? 3 u with
          | none => simp [DataW.trod, hu, hn] at h4
          | some nm' =>
            simp [DataW.trod, hu, hn] at h4
            obtain ⟨q, rfl⟩ := h4
            obtain rfl := hT u hn
            rcases DataW.trod_pointer hTe q with ⟨_, q2⟩ | ⟨a, cs', y, k, _, q2, _⟩
            · cases q2
            · exact ⟨v, rfl, a, q2⟩
  have hsz : cs.size = 1 := by rw [← Array.length_toList, e1]; rfl
  obtain ⟨⟨c, ty, hcell⟩, hok⟩ := hps g 0 (h5 _ (by simp [MemPlace.row]; omega))
  have hcs : c = cs := by
    unfold World.var? at h3
    rw [hg] at h3
    simp only [Option.bind_some, hcell] at h3
    exact Option.some.inj h3
  subst hcs
  have e3 : c = #[.iface T v] := by rw [← Array.toList_inj, e1]
  have hok := hok T v (by rw [cell_of_row W g 0 c ty (0, 0) hcell, e3]; rfl)
  have hv : v = .pointer (some a) ∧ a.spot = none := by
    unfold Value.okWide at hok
    rw [hTe] at hok
    dsimp only at hok
    unfold Cell.okWide at hok
    rw [hTe] at hok
    cases v with
    | pointer q =>
      have e4 : q = some a := by
        have : [Value.pointer q] = [.pointer (some a)] := e2
        injection this with this _
        injection this
      subst e4
      refine ⟨rfl, ?_⟩
      dsimp only at hok
      unfold Cell.ok at hok
      rw [hTe] at hok
      exact hok.2.1
    | agg cells => dsimp only at hok; unfold Cell.ok at hok; rw [hTe] at hok; exact hok.elim
    | _ => exact absurd e2 (by simp [Value.cells])
  obtain ⟨rfl, hs⟩ := hv
  obtain ⟨b, off, spot⟩ := a
  have hs : spot = none := hs
  subst hs
  exact ⟨c, ty, b, off, hcell, e3⟩
theorem init_rel1 {P : Program} {w : World} {σ : Nat → Option Int} {ς : Nat → ByteArray} {gl : List (Nat × Nat × List AV)} {sy : Sy} (hn : P.globals.size ≤ 500)
    (hg : ∀ g ∈ gl, g.1 < P.globals.size ∧ ∃ cs, w.heap[g.1]? = some (.cells cs g.2.1 (0, 0)) ∧ VRL (env1 P w σ ς) g.2.2 cs.toList) (hy : SyOk (env1 P w σ ς) sy) :
    Rel P (env1 P w σ ς) (initS gl 1000 sy) w where
  heap := fun b o h => by
    obtain ⟨g, hgl, rfl, rfl⟩ := initHeap_get h
    obtain ⟨hlt, cs, hw, hv⟩ := hg g hgl
    refine ⟨g.1, cs.size, ?_, cs, cs.toList, [], hw, by simp, hv, fun _ => rfl, rfl⟩
    simp only [env1, env0]
    rw [if_pos (by omega), if_pos hlt, hw]
  inj := fun b b' o o' r c c' hb hb' h1 h2 => by
    have go : ∀ {b : Nat} {o : AObj} {c : Nat}, hget (initS gl 1000 sy) b = some o → (env1 P w σ ς).ρ b = some (r, c) → r = b := fun {b o c} hb h => by
      obtain ⟨g, hgl, rfl, rfl⟩ := initHeap_get hb
      obtain ⟨hlt, cs, hw, hv⟩ := hg g hgl
      simp only [env1, env0] at h
      rw [if_pos (by omega), if_pos hlt, hw] at h
      cases h
      rfl
    rw [← go hb h1, ← go hb' h2]
  fresh := fun b hb => by
    have hb : 1000 ≤ b := hb
    simp only [env1]
    rw [if_neg (by omega), if_neg (by omega)]
  glob := fun g r c hgs h => by
    simp only [env1, env0] at h
    rw [if_pos (by omega), if_pos hgs] at h
    split at h
    · cases h; rfl
    · cases h
  next := by show P.globals.size ≤ 1000; omega
  sy := hy
/-- a run of the executor that comes out true: the function returns true and changes nothing that was there -/
theorem law_of_run1 {P : Program} (hm : P.follows .mixedOrders = true) {sm : Sm} (hsm : SmOk P sm) {fuel f : Nat} {args : List AV} {vs : Array Value} {w : World} {σ : Nat → Option Int} {ς : Nat → ByteArray}
    {gl : List (Nat × Nat × List AV)} {sy : Sy} (hn : P.globals.size ≤ 500)
    (hg : ∀ g ∈ gl, g.1 < P.globals.size ∧ ∃ cs, w.heap[g.1]? = some (.cells cs g.2.1 (0, 0)) ∧ VRL (env1 P w σ ς) g.2.2 cs.toList) (hy : SyOk (env1 P w σ ς) sy)
    (hv : VRL (env1 P w σ ς) args vs.toList) (h : callF P sm fuel Bool ansB f args (initS gl 1000 sy) isTrue = true) (hb : (bodyOf P f).isSome = true) :
    Calls P f vs w fun e w' => e = .returned (.bool true) ∧ RowKit.Below w.heap.size w w' := by
  have hR := init_rel1 hn hg hy
  refine Calls.mono ((callF_sound hm hsm fuel Bool ansB (fun b => b = true) lawfulB _ _ w f args vs isTrue hR hv h).calls hb) fun e w' ⟨v, s', E', x, he, h1, h2, h3, h4⟩ => ?_
  have := isTrue_ok h4
  subst this
  have h1 : x = .bool true := h1
  subst h1
  refine ⟨he, h3.below fun b o r c hb _ => ?_⟩
  obtain ⟨g, hgl, rfl, _⟩ := initHeap_get hb
  have := (hg g hgl).1
  show g.1 < 1000
  omega
noncomputable def errTOk (P : Program) (T : Nat) : Bool := match basicOk P, nameOnly P "*errors.errorString" T, P.underlying T with
  | true, true, some (.pointer _) => true
  | _, _, _ => false
theorem laid_all1 {P : Program} {W : World} {laid : List (String × DataW Unit)} {T : Nat} (hsz : Nat.ble P.globals.size 500 = true) (hT : errTOk P T = true) (h : laidMet P laid W) {σ : Nat → Option Int} {ς : Nat → ByteArray} :
    ∀ g ∈ glsE P (tyOf W) T laid, g.1 < P.globals.size ∧ ∃ cs, W.heap[g.1]? = some (.cells cs g.2.1 (0, 0)) ∧ VRL (env1 P W σ ς) g.2.2 cs.toList := by
  intro g hg
  have hsz := Nat.le_of_ble_eq_true hsz
  obtain ⟨⟨n, d⟩, hm, hd⟩ := List.mem_flatMap.1 hg
  have other : g ∈ rowOf P (tyOf W) n d → g.1 < P.globals.size ∧ ∃ cs, W.heap[g.1]? = some (.cells cs g.2.1 (0, 0)) ∧ VRL (env1 P W σ ς) g.2.2 cs.toList := fun hd =>
    laid_all (Nat.ble_eq_true_of_le (by omega)) h g (List.mem_flatMap.2 ⟨(n, d), hm, hd⟩)
  dsimp only at hd
  unfold rowE at hd
  split at hd
  · rename_i nm d'
    split at hd
    · rename_i gi hnm hgn
      split at hd
      · rename_i ok
        obtain rfl := List.mem_singleton.1 hd
        have hnm : nm = "*errors.errorString" := of_decide_eq_true hnm
        subst hnm
        unfold ifcOk at ok
        unfold errTOk at hT
        split at hT
        · rename_i e hba hno hue
          split at ok
          · rename_i t ht
            split at ok
            · rename_i ms hu
              obtain ⟨cs, ty, b, off, h1, rfl⟩ := laid_err h hm hgn ht hu (fun u hn => nameOnly_ok hba hno hn) hue
              have lt : gi < P.globals.size := by
                cases q : P.globals[gi]? with
                | none => rw [q] at ht; cases ht
                | some x => exact (Array.getElem?_eq_some_iff.1 q).1
              refine ⟨lt, #[.iface T (.pointer (some ⟨b, off, none⟩))], ?_, ?_⟩
              · show W.heap[gi]? = some (.cells _ (tyOf W gi) (0, 0))
                unfold tyOf; rw [if_pos (by omega), h1]
              · show VRL _ [.iface T (.optr (500 + gi))] [Value.iface T (.pointer (some ⟨b, off, none⟩))]
                refine VRL.cons (a := .iface T (.optr (500 + gi))) ⟨_, rfl, b, off, ?_, rfl⟩ VRL.nil
                simp only [env1]
                rw [if_neg (by omega), if_pos (by omega), show 500 + gi - 500 = gi by omega]
                unfold errAt
                rw [h1]
                rfl
            · cases ok
          · cases ok
        · cases hT
      · cases hd
    · cases hd
  · exact other hd
end Go.Proofs.YthfkajaeikhloaaGreatDoor.Xq

/-! The atoms: three numbers, the first one's remainder known. -/
namespace Go.Proofs.YthfkajaeikhloaaGreatDoor.Xq
open Go
/-- three numbers; a remainder of the first is known -/
noncomputable def syI (m c : Int) : Sy := ⟨4, (((Tr.leaf.set (some (-9223372036854775808, 9223372036854775807)) (pathOf 0)).set (some (-9223372036854775808, 9223372036854775807)) (pathOf 1)).set (some (-9223372036854775808, 9223372036854775807)) (pathOf 2)).set (some (c, c)) (pathOf 3), [⟨.rem, .at 0, .lit m, 3⟩], Tr.leaf.set (some (.excl [])) (pathOf 0)⟩
def σI (i k n : Int) (r : Int) : Nat → Option Int := fun j => if j = 3 then some r else if j = 0 then some i else if j = 1 then some k else if j = 2 then some n else none
theorem syI_ok {E : Env} {i k n m c : Int} (h0 : -9223372036854775808 ≤ i ∧ i ≤ 9223372036854775807) (h1 : -9223372036854775808 ≤ k ∧ k ≤ 9223372036854775807) (hn : -9223372036854775808 ≤ n ∧ n ≤ 9223372036854775807) (hm : m ≠ 0) (hc : i.tmod m = c) (he : E.σ = σI i k n c) : SyOk E (syI m c) := by
  refine ⟨fun j hj => ?_, fun j a b h => ?_, fun q hq => ?_, fun j l q h => ?_, fun j ls h => ?_⟩
  · have hj : 4 ≤ j := hj
    rw [he]; unfold σI
    rw [if_neg (by omega), if_neg (by omega), if_neg (by omega), if_neg (by omega)]
  · have h : Tr.get (pathOf j) (Tr.set (some (c, c)) (pathOf 3) (Tr.set (some ((-9223372036854775808 : Int), (9223372036854775807 : Int))) (pathOf 2) (Tr.set (some (-9223372036854775808, 9223372036854775807)) (pathOf 1) (Tr.set (some (-9223372036854775808, 9223372036854775807)) (pathOf 0) .leaf)))) = some (a, b) := h
    rw [Tr.get_set_of, Tr.get_set_of, Tr.get_set_of, Tr.get_set_of, get_leaf] at h
    rw [he]; unfold σI
    by_cases q3 : 3 = j
    · subst q3
      simp at h
      obtain ⟨rfl, rfl⟩ := h
      exact ⟨c, by simp, by omega, by omega⟩
    · rw [if_neg q3] at h
      by_cases q2 : 2 = j
      · subst q2
        simp at h
        obtain ⟨rfl, rfl⟩ := h
        exact ⟨n, by simp, hn.1, hn.2⟩
      · rw [if_neg q2] at h
        by_cases q1 : 1 = j
        · subst q1
          simp at h
          obtain ⟨rfl, rfl⟩ := h
          exact ⟨k, by simp, h1.1, h1.2⟩
        · rw [if_neg q1] at h
          by_cases q0 : 0 = j
          · subst q0
            simp at h
            obtain ⟨rfl, rfl⟩ := h
            exact ⟨i, by simp, h0.1, h0.2⟩
          · rw [if_neg q0] at h; cases h
  · rcases List.mem_singleton.1 hq with rfl
    refine ⟨i, m, ?_, rfl, ?_, fun _ => hm⟩
    · show E.σ 0 = some i
      rw [he]; rfl
    · show E.σ 3 = some (i.tmod m)
      rw [he, hc]; rfl
  · have h : Tr.get (pathOf j) (Tr.set (some (SF.excl [])) (pathOf 0) .leaf) = some (.known l q) := h
    rw [Tr.get_set_of, get_leaf] at h
    split at h <;> cases h
  · have h : Tr.get (pathOf j) (Tr.set (some (SF.excl [])) (pathOf 0) .leaf) = some (.excl ls) := h
    rw [Tr.get_set_of, get_leaf] at h
    split at h
    · cases h; intro x hx; cases hx
    · cases h
end Go.Proofs.YthfkajaeikhloaaGreatDoor.Xq
