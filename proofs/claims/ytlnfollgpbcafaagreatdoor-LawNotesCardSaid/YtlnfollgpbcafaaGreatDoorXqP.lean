import Derived.Test.YtlnfollgpbcafaaGreatDoorXqN
import Derived.Test.YtlnfollgpbcafaaGreatDoorXqB
import Derived.LoopN
import Derived.Orders
set_option autoImplicit false
set_option linter.unusedVariables false
/-! Regions in the order of their text, code, calls. -/
namespace Go.Proofs.YtlnfollgpbcafaaGreatDoor.Xq
open Go

def exOf : Ex → Exit
  | .normal => .normal
  | .exit i => .exit i
  | .ret => .ret
/-- how a piece of code ends -/
def Post (P : Program) (E : Env) (s : St) (w : World) (n : Nat) (ds : List Deferred) (K : Ex → St → Fr → Prop) : Exit → Act → World → Prop := fun e a' w' =>
  ∃ ex s' fr' E', e = exOf ex ∧ Rel P E' s' w' ∧ Step E s w E' s' w' ∧ FrRel E' fr' a'.tmps ∧ a'.tmps.size = n ∧ a'.defers = ds ∧ K ex s' fr'
theorem Post.from {P : Program} {E E1 : Env} {s s1 : St} {w w1 : World} {n : Nat} {ds : List Deferred} {K K' : Ex → St → Fr → Prop} (h : Step E s w E1 s1 w1) {e : Exit} {a : Act} {w' : World}
    (hp : Post P E1 s1 w1 n ds K e a w') (hk : ∀ e s fr, K e s fr → K' e s fr) : Post P E s w n ds K' e a w' := by
  obtain ⟨ex, s', fr', E', h1, h2, h3, h4, h5, h6, h7⟩ := hp
  exact ⟨ex, s', fr', E', h1, h2, h.trans h3, h4, h5, h6, hk _ _ _ h7⟩

section
variable {P : Program} {E : Env} {s : St} {w : World} {R : Type} {A : Ans R} {Pr : R → Prop} {call : CallT}

theorem put_size (a : Act) (d : Option Tmp) (v : Value) : (a.put d v).tmps.size = a.tmps.size := by cases d <;> simp [Act.put]
theorem put_defers (a : Act) (d : Option Tmp) (v : Value) : (a.put d v).defers = a.defers := by cases d <;> rfl
theorem dstsOk_get {n : Nat} {ops : Array Oper} (h : dstsOk n ops = true) {i : Nat} {o : Oper} (ho : ops[i]? = some o) {d : Nat} (hd : o.dst = some d) : d < n := by
  unfold dstsOk at h
  rw [allL_iff] at h
  have := h o (by rw [Array.mem_toList_iff]; exact Array.mem_of_getElem? ho)
  rw [hd] at this
  exact ble_iff.1 this
theorem wantedA_ok {ops : Array Oper} {fr : Fr} {a : Act} {o : Oper} {g : Nat × Bool} {r : Bool} (hg : o.guard = some g)
    (hf : ∀ d v, dstOf ops g.1 = some d → fr.get (pathOf d) = some v → ∃ x, a.tmps[d]? = some x ∧ VR E v x)
    (h : wantedA ops fr g = some r) : Region.wanted o (yielded ops a.tmps) = r := by
  unfold wantedA at h
  split at h
  · rename_i d hd
    split at h
    · rename_i b hb
      obtain ⟨x, hx, hv⟩ := hf d _ hd hb
      have hv : x = .bool b := hv
      subst hv
      cases h
      have hd' : (ops[g.1]?).bind (·.dst) = some d := by
        unfold dstOf at hd
        cases ho : ops[g.1]? with
        | none => rw [ho] at hd; cases hd
        | some o' => rw [ho] at hd; simpa using hd
      unfold Region.wanted yielded
      rw [hg]
      obtain ⟨j, want⟩ := g
      dsimp only at hd' ⊢
      rw [hd']
      simp only [Option.bind_some, hx]
      cases want <;> cases b <;> rfl
    · rename_i l hb
      obtain ⟨x, hx, hv⟩ := hf d _ hd hb
      obtain ⟨vs, hv, _⟩ := hv
      subst hv
      cases h
      have hd' : (ops[g.1]?).bind (·.dst) = some d := by
        unfold dstOf at hd
        cases ho : ops[g.1]? with
        | none => rw [ho] at hd; cases hd
        | some o' => rw [ho] at hd; simpa using hd
      unfold Region.wanted yielded
      rw [hg]
      obtain ⟨j, want⟩ := g
      dsimp only at hd' ⊢
      rw [hd']
      simp only [Option.bind_some, hx]
      cases want <;> rfl
    · cases h
  · cases h

/-- regions that draw do as they are said to -/
def DrawOk (P : Program) (call : CallT) : Prop :=
  ∀ (R : Type) (A : Ans R) (Pr : R → Prop), Lawful A Pr → ∀ (n id : Nat) (ops : Array Oper) (k : KX R) (s : St) (fr : Fr) (E : Env) (a : Act) (w : World),
    dstsOk n ops = true → Rel P E s w → FrRel E fr a.tmps → a.tmps.size = n → Pr (drawReg P call A ops k s fr) →
    (Code.region id ops true).wp P (Post P E s w n a.defers fun e s fr => Pr (k e s fr)) a w

theorem frAll {fr : Fr} {a : Act} (hR : Rel P E s w) (hf : FrRel E fr a.tmps) (l : List Operand) : ∀ x ∈ l, VR E (evalO P s fr x) (a.eval x) := fun x _ => evalO_ok hR hf x

/-- a region in the order of its text, from an operation on -/
noncomputable def opsFrom (P : Program) (call : CallT) (A : Ans R) (ops : Array Oper) (k : KX R) (l : List Oper) : St → Fr → R :=
  lrec (fun s fr => k .normal s fr)
    (fun o _ ih s fr => orec (stepOp o.op P call R A fr s fun v s => ih s (putF fr o.dst v))
      (fun g => match wantedA ops fr g with
      | some true => stepOp o.op P call R A fr s fun v s => ih s (putF fr o.dst v)
      | some false => ih s (putF fr o.dst undefA)
      | none => A.fail "guard") o.guard) l
theorem runOps_ok (hA : Lawful A Pr) (hC : CallOk P call) {n : Nat} {ops : Array Oper} (hd : dstsOk n ops = true) (k : KX R) {E0 : Env} {s0 : St} {w0 : World} {ds : List Deferred} :
    ∀ (l : List Oper) (i : Nat) (s : St) (fr : Fr) (E : Env) (a : Act) (w : World), ops.toList.drop i = l → Step E0 s0 w0 E s w → Rel P E s w → FrRel E fr a.tmps → a.tmps.size = n → a.defers = ds →
      Pr (opsFrom P call A ops k l s fr) → wpOps P ops (Post P E0 s0 w0 n ds fun e s fr => Pr (k e s fr)) (List.range' i l.length) a w
  | [], i, s, fr, E, a, w, hl, hS, hR, hf, hn, hds, h => ⟨.normal, s, fr, E, rfl, hR, hS, hf, hn, hds, h⟩
  | o :: l, i, s, fr, E, a, w, hl, hS, hR, hf, hn, hds, h => by
    have ho : ops[i]? = some o := by
      have := congrArg (·[0]?) hl
      simpa using this
    have hl' : ops.toList.drop (i + 1) = l := by
      have := congrArg (List.drop 1) hl
      simpa [List.drop_drop, Nat.add_comm] using this
    have h : Pr (orec (stepOp o.op P call R A fr s fun v s => opsFrom P call A ops k l s (putF fr o.dst v))
      (fun g => match wantedA ops fr g with
      | some true => stepOp o.op P call R A fr s fun v s => opsFrom P call A ops k l s (putF fr o.dst v)
      | some false => opsFrom P call A ops k l s (putF fr o.dst undefA)
      | none => A.fail "guard") o.guard) := h
    have run : Pr (stepOp o.op P call R A fr s fun v s => opsFrom P call A ops k l s (putF fr o.dst v)) →
        o.wp P a w (wpOps P ops (Post P E0 s0 w0 n ds fun e s fr => Pr (k e s fr)) (List.range' (i + 1) l.length)) (Post P E0 s0 w0 n ds fun e s fr => Pr (k e s fr)) := fun h1 => by
      refine StepRes.wp (step_ok hA hC hR (frAll hR hf _) h1) fun v s' E' x w' g1 g2 g3 g4 => ?_
      have hf' : FrRel E' (putF fr o.dst v) (a.put o.dst x).tmps := FrRel.put (hf.mono g3.ext) o.dst g1 fun d hdd => by rw [hn]; exact dstsOk_get hd ho hdd
      exact runOps_ok hA hC hd k l (i + 1) s' _ E' (a.put o.dst x) w' hl' (hS.trans g3) g2 hf' (by rw [put_size, hn]) (by rw [put_defers, hds]) g4
    have skip : Pr (opsFrom P call A ops k l s (putF fr o.dst undefA)) →
        wpOps P ops (Post P E0 s0 w0 n ds fun e s fr => Pr (k e s fr)) (List.range' (i + 1) l.length) (a.put o.dst undef) w := fun h1 => by
      have hf' : FrRel E (putF fr o.dst undefA) (a.put o.dst undef).tmps := FrRel.put hf o.dst (VR.undef E) fun d hdd => by rw [hn]; exact dstsOk_get hd ho hdd
      exact runOps_ok hA hC hd k l (i + 1) s _ E (a.put o.dst undef) w hl' hS hR hf' (by rw [put_size, hn]) (by rw [put_defers, hds]) h1
    rw [List.length_cons, List.range'_succ]
    simp only [wpOps, ho]
    cases hg : o.guard with
    | none =>
      rw [hg] at h
      have : Region.wanted o (yielded ops a.tmps) = true := by unfold Region.wanted; rw [hg]
      rw [if_pos this]
      exact .inl (run h)
    | some g =>
      rw [hg] at h
      have h : Pr (match wantedA ops fr g with
        | some true => stepOp o.op P call R A fr s fun v s => opsFrom P call A ops k l s (putF fr o.dst v)
        | some false => opsFrom P call A ops k l s (putF fr o.dst undefA)
        | none => A.fail "guard") := h
      cases hw : wantedA ops fr g with
      | none => rw [hw] at h; exact (hA.fail _ h).elim
      | some b =>
        rw [hw] at h
        have := wantedA_ok (a := a) hg (fun d v _ hv => hf d v hv) hw
        cases b with
        | true => rw [if_pos this]; exact .inl (run h)
        | false => rw [if_neg (by rw [this]; decide)]; exact skip h

/-! ### code -/
theorem runCode_loop (n : Nat) (x : Code) (s : St) (fr : Fr) (k : KX R) : runCode P call A n (.loop x) s fr k = nrec (β := St → Fr → R) (fun _ _ => A.fail "too many rounds") (fun _ again => roundA (runCode P call A n x) k again) roundsN s fr := by
  unfold runCode crec
  generalize roundsN = N
  rfl
theorem runCode_ok (hA : Lawful A Pr) (hC : CallOk P call) (hD : DrawOk P call) (n : Nat) : ∀ (c : Code) (k : KX R) (s : St) (fr : Fr) (E : Env) (a : Act) (w : World), Rel P E s w → FrRel E fr a.tmps → a.tmps.size = n →
    Pr (runCode P call A n c s fr k) → c.wp P (Post P E s w n a.defers fun e s fr => Pr (k e s fr)) a w := by
  intro c
  induction c with
  | skip => intro k s fr E a w hR hf hn h; exact wp_skip ⟨.normal, s, fr, E, rfl, hR, Step.refl E s w, hf, hn, rfl, h⟩
  | region id ops draw =>
    intro k s fr E a w hR hf hn h
    change Pr (match dstsOk n ops with
      | false => A.fail "slots"
      | true => match (generalizing := false) draw with
        | false => runOps P call A ops k s fr
        | true => drawReg P call A ops k s fr) at h
    split at h
    · exact (hA.fail _ h).elim
    · rename_i hd
      split at h
      · have := runOps_ok hA hC hd k ops.toList 0 s fr E a w (by simp) (Step.refl E s w) hR hf hn rfl h
        refine wp_region ?_
        rw [List.range_eq_range']
        simpa using this
      · exact hD R A Pr hA n id ops k s fr E a w hd hR hf hn h
  | seq x y ihx ihy =>
    intro k s fr E a w hR hf hn h
    refine wp_seq (wp_mono (ihx _ s fr E a w hR hf hn h) fun e a1 w1 hp => ?_)
    obtain ⟨ex, s', fr', E', rfl, h2, h3, h4, h5, h6, h7⟩ := hp
    cases ex with
    | normal =>
      refine wp_mono (ihy k s' fr' E' a1 w1 h2 h4 h5 h7) fun e a2 w2 hp => ?_
      rw [h6] at hp
      exact Post.from h3 hp fun _ _ _ q => q
    | exit i => exact ⟨.exit i, s', fr', E', rfl, h2, h3, h4, h5, h6, h7⟩
    | ret => exact ⟨.ret, s', fr', E', rfl, h2, h3, h4, h5, h6, h7⟩
  | cond c x y ihx ihy =>
    intro k s fr E a w hR hf hn h
    change Pr (match evalO P s fr c with | .bool true => runCode P call A n x s fr k | .bool false => runCode P call A n y s fr k | _ => A.fail "cond") at h
    have hc := evalO_ok hR hf c
    split at h
    · rename_i q
      rw [q] at hc
      exact wp_cond_true hc (ihx k s fr E a w hR hf hn h)
    · rename_i q
      rw [q] at hc
      exact wp_cond_false hc (ihy k s fr E a w hR hf hn h)
    · exact (hA.fail _ h).elim
  | block id x ih =>
    intro k s fr E a w hR hf hn h
    refine wp_block (wp_mono (ih _ s fr E a w hR hf hn h) fun e a1 w1 hp => ?_)
    obtain ⟨ex, s', fr', E', rfl, h2, h3, h4, h5, h6, h7⟩ := hp
    cases ex with
    | normal => exact ⟨.normal, s', fr', E', rfl, h2, h3, h4, h5, h6, h7⟩
    | exit i =>
      have h7 : Pr (match Nat.beq i id with | true => k .normal s' fr' | false => k (.exit i) s' fr') := h7
      simp only [exOf, Exit.inBlock]
      by_cases q : i = id
      · rw [if_pos q]
        have : Nat.beq i id = true := by subst q; exact Nat.beq_refl i
        rw [this] at h7
        exact ⟨.normal, s', fr', E', rfl, h2, h3, h4, h5, h6, h7⟩
      · rw [if_neg q]
        have : Nat.beq i id = false := by
          cases hb : Nat.beq i id with
          | false => rfl
          | true => exact absurd (Nat.eq_of_beq_eq_true hb) q
        rw [this] at h7
        exact ⟨.exit i, s', fr', E', rfl, h2, h3, h4, h5, h6, h7⟩
    | ret => exact ⟨.ret, s', fr', E', rfl, h2, h3, h4, h5, h6, h7⟩
  | loop x ih =>
    intro k s fr E a w hR hf hn h
    have key : ∀ (m : Nat) (s1 : St) (fr1 : Fr) (E1 : Env) (a1 : Act) (w1 : World), Step E s w E1 s1 w1 → Rel P E1 s1 w1 → FrRel E1 fr1 a1.tmps → a1.tmps.size = n → a1.defers = a.defers →
        Pr (nrec (β := St → Fr → R) (fun _ _ => A.fail "too many rounds") (fun _ again => roundA (runCode P call A n x) k again) m s1 fr1) →
        Code.rounds P x (Post P E s w n a.defers fun e s fr => Pr (k e s fr)) m a1 w1 := by
      intro m
      induction m with
      | zero => intro s1 fr1 E1 a1 w1 _ _ _ _ _ h1; exact (hA.fail _ h1).elim
      | succ m ihm =>
        intro s1 fr1 E1 a1 w1 hS1 hR1 hf1 hn1 hd1 h1
        rw [rounds_succ]
        refine wp_mono (ih _ s1 fr1 E1 a1 w1 hR1 hf1 hn1 h1) fun e a2 w2 hp => ?_
        obtain ⟨ex, s', fr', E', rfl, h2, h3, h4, h5, h6, h7⟩ := hp
        cases ex with
        | normal => exact ihm s' fr' E' a2 w2 (hS1.trans h3) h2 h4 h5 (h6.trans hd1) h7
        | exit i => exact ⟨.exit i, s', fr', E', rfl, h2, hS1.trans h3, h4, h5, h6.trans hd1, h7⟩
        | ret => exact ⟨.ret, s', fr', E', rfl, h2, hS1.trans h3, h4, h5, h6.trans hd1, h7⟩
    rw [runCode_loop] at h
    generalize roundsN = N at h
    exact wp_loop_rounds N (key N s fr E a w (Step.refl E s w) hR hf hn rfl h)
  | exit id => intro k s fr E a w hR hf hn h; exact wp_exit ⟨.exit id, s, fr, E, rfl, hR, Step.refl E s w, hf, hn, rfl, h⟩
  | ret => intro k s fr E a w hR hf hn h; exact wp_ret ⟨.ret, s, fr, E, rfl, hR, Step.refl E s w, hf, hn, rfl, h⟩
  | _ => intros; rename_i h; exact (hA.fail _ h).elim
end
end Go.Proofs.YtlnfollgpbcafaaGreatDoor.Xq
