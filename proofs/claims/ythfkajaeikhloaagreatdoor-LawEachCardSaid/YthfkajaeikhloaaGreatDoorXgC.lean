/- The executor of this claim, and its proof: a part. -/
import Derived.Test.YthfkajaeikhloaaGreatDoorXgB
import Derived.Test.YthfkajaeikhloaaGreatDoorXgA
import Derived.LoopNIn
import Derived.OrdersIn
import Derived.RangeFuncIn
import Derived.Below
set_option autoImplicit false
set_option linter.unusedVariables false
/-! Regions in the order of their text, code, calls. -/
namespace Go.Proofs.YthfkajaeikhloaaGreatDoor.Xq
open Go

def exOf : Ex → Exit
  | .normal => .normal
  | .exit i => .exit i
  | .ret => .ret
/-- how a piece of code ends -/
def Post (P : Program) (E : Env) (s : St) (w : World) (n : Nat) (ds : List Deferred) (K : Ex → St → Fr → Prop) : Exit → Act → World → Prop := fun e a' w' =>
  ∃ ex s' fr' E', e = exOf ex ∧ Rel P E' s' w' ∧ Step E s w E' s' w' ∧ FrRel E' fr' a'.tmps ∧ a'.tmps.size = n ∧ a'.defers = ds ∧ K ex s' fr'
theorem Post.from {P : Program} {E E1 : Env} {s s1 : St} {w w1 : World} {n : Nat} {ds : List Deferred} {K K' : Ex → St → Fr → Prop} (h : Step E s w E1 s1 w1) {e : Exit} {a : Act} {w' : World}
    (hp : Post P E1 s1 w1 n ds K e a w') (hk : ∀ e s fr, K e s fr → K' e s fr) : Post P E s w n ds K' e a w' := by
  obtain ⟨ex, s', fr', E', h1, h2, h3, h4, h5, h6, h7⟩ := hp
  exact ⟨ex, s', fr', E', h1, h2, h.trans h3, h4, h5, h6, hk _ _ _ h7⟩

section
variable {P : Program} {E : Env} {s : St} {w : World} {R : Type} {A : Ans R} {Pr : R → Prop} {call : CallT}

theorem put_size (a : Act) (d : Option Tmp) (v : Value) : (a.put d v).tmps.size = a.tmps.size := by cases d <;> simp [Act.put]
theorem put_defers (a : Act) (d : Option Tmp) (v : Value) : (a.put d v).defers = a.defers := by cases d <;> rfl
theorem dstsOk_get {n : Nat} {ops : Array Oper} (h : dstsOk n ops = true) {i : Nat} {o : Oper} (ho : ops[i]? = some o) {d : Nat} (hd : o.dst = some d) : d < n := by
  unfold dstsOk at h
  rw [allL_iff] at h
  have := h o (by rw [Array.mem_toList_iff]; exact Array.mem_of_getElem? ho)
  rw [hd] at this
  exact ble_iff.1 this
theorem wantedA_ok {ops : Array Oper} {fr : Fr} {a : Act} {o : Oper} {g : Nat × Bool} {r : Bool} (hg : o.guard = some g)
    (hf : ∀ d v, dstOf ops g.1 = some d → fr.get (pathOf d) = some v → ∃ x, a.tmps[d]? = some x ∧ VR E v x)
    (h : wantedA ops fr g = some r) : Region.wanted o (yielded ops a.tmps) = r := by
  unfold wantedA at h
  split at h
  · rename_i d hd
    split at h
    · rename_i b hb
      obtain ⟨x, hx, hv⟩ := hf d _ hd hb
      have hv : x = .bool b := hv
      subst hv
      cases h
      have hd' : (ops[g.1]?).bind (·.dst) = some d := by
        unfold dstOf at hd
        cases ho : ops[g.1]? with
        | none => rw [ho] at hd; cases hd
        | some o' => rw [ho] at hd; simpa using hd
      unfold Region.wanted yielded
      rw [hg]
      obtain ⟨j, want⟩ := g
      dsimp only at hd' ⊢
      rw [hd']
      simp only [Option.bind_some, hx]
      cases want <;> cases b <;> rfl
    · rename_i l hb
      obtain ⟨x, hx, hv⟩ := hf d _ hd hb
      obtain ⟨vs, hv, _⟩ := hv
      subst hv
      cases h
      have hd' : (ops[g.1]?).bind (·.dst) = some d := by
        unfold dstOf at hd
        cases ho : ops[g.1]? with
        | none => rw [ho] at hd; cases hd
        | some o' => rw [ho] at hd; simpa using hd
      unfold Region.wanted yielded
      rw [hg]
      obtain ⟨j, want⟩ := g
      dsimp only at hd' ⊢
      rw [hd']
      simp only [Option.bind_some, hx]
      cases want <;> rfl
    · cases h
  · cases h

/-- the marks that ranges over functions leave among the deferred calls -/
def mark (D : Nat) : Deferred := { target := .collected D, args := #[] }
def Marks (N : Nat) (w : World) (ds : List Deferred) : Prop := ∃ Ds : List Nat, ds = Ds.map mark ∧ Ds.Nodup ∧ ∀ D ∈ Ds, N ≤ D ∧ w.heap[D]? = some (.deferred (some []))
theorem Rel.notDeferred (hR : Rel P E s w) {b r c : Nat} {o : AObj} {x : Option (List Deferred)} (hb : hget s b = some o) (hr : E.ρ b = some (r, c)) (h : w.heap[r]? = some (.deferred x)) : False := by
  obtain ⟨r', c', e', hO⟩ := hR.heap b o hb
  rw [hr] at e'; cases e'
  cases o with
  | cells l t full => obtain ⟨cs, vs, rest, q, _⟩ := hO; rw [h] at q; cases q
  | map es => obtain ⟨ms, clock, q, _⟩ := hO; rw [h] at q; cases q
  | loop n fr ps ca cb jump => obtain ⟨rec, q, _⟩ := hO; rw [h] at q; cases q
theorem Marks.step {E' : Env} {s' : St} {w' : World} {N : Nat} {ds : List Deferred} (hR : Rel P E s w) (hS : Step E s w E' s' w') (h : Marks N w ds) : Marks N w' ds := by
  obtain ⟨Ds, h1, h2, h3⟩ := h
  refine ⟨Ds, h1, h2, fun D hD => ?_⟩
  obtain ⟨h4, h5⟩ := h3 D hD
  refine ⟨h4, ?_⟩
  rw [hS.keep D (Array.getElem?_eq_some_iff.1 h5).1 fun b o c hb _ he => hR.notDeferred hb he h5, h5]
theorem Marks.nil {N : Nat} : Marks N w [] := ⟨[], rfl, List.nodup_nil, fun D h => (by cases h)⟩
/-- how a piece of code ends, with the marks that it may leave -/
def PostC (P : Program) (E : Env) (s : St) (w : World) (n N : Nat) (K : Ex → St → Fr → Prop) : Exit → Act → World → Prop := fun e a' w' =>
  ∃ ex s' fr' E', e = exOf ex ∧ Rel P E' s' w' ∧ Step E s w E' s' w' ∧ FrRel E' fr' a'.tmps ∧ a'.tmps.size = n ∧ Marks N w' a'.defers ∧ K ex s' fr'
theorem PostC.from {E1 : Env} {s1 : St} {w1 : World} {n N : Nat} {K K' : Ex → St → Fr → Prop} (h : Step E s w E1 s1 w1) {e : Exit} {a : Act} {w' : World}
    (hp : PostC P E1 s1 w1 n N K e a w') (hk : ∀ e s fr, K e s fr → K' e s fr) : PostC P E s w n N K' e a w' := by
  obtain ⟨ex, s', fr', E', h1, h2, h3, h4, h5, h6, h7⟩ := hp
  exact ⟨ex, s', fr', E', h1, h2, h.trans h3, h4, h5, h6, hk _ _ _ h7⟩
theorem Post.toC {n N : Nat} {ds : List Deferred} {K : Ex → St → Fr → Prop} (hR : Rel P E s w) (hM : Marks N w ds) {e : Exit} {a : Act} {w' : World} (hp : Post P E s w n ds K e a w') : PostC P E s w n N K e a w' := by
  obtain ⟨ex, s', fr', E', h1, h2, h3, h4, h5, h6, h7⟩ := hp
  exact ⟨ex, s', fr', E', h1, h2, h3, h4, h5, by rw [h6]; exact hM.step hR h3, h7⟩
/-- regions that draw do as they are said to -/
def DrawOk (P : Program) (call : CallT) : Prop :=
  ∀ (R : Type) (A : Ans R) (Pr : R → Prop), Lawful A Pr → ∀ (x : Option Nat) (m n id : Nat) (ops : Array Oper) (k : KX R) (s : St) (fr : Fr) (E : Env) (a : Act) (w : World),
    dstsOk n ops = true → Rel P E s w → FrRel E fr a.tmps → a.tmps.size = n → Pr (drawReg P call A ops k s fr) →
    (Code.region id ops true).wpIn (FW x) m P (Post P E s w n a.defers fun e s fr => Pr (k e s fr)) a w

theorem frAll {fr : Fr} {a : Act} (hR : Rel P E s w) (hf : FrRel E fr a.tmps) (l : List Operand) : ∀ x ∈ l, VR E (evalO P s fr x) (a.eval x) := fun x _ => evalO_ok hR hf x

/-- a region in the order of its text, from an operation on -/
noncomputable def opsFrom (P : Program) (call : CallT) (A : Ans R) (ops : Array Oper) (k : KX R) (l : List Oper) : St → Fr → R :=
  lrec (fun s fr => k .normal s fr)
    (fun o _ ih s fr => orec (stepOp o.op P call R A fr s fun v s => ih s (putF fr o.dst v))
      (fun g => match wantedA ops fr g with
      | some true => stepOp o.op P call R A fr s fun v s => ih s (putF fr o.dst v)
      | some false => ih s (putF fr o.dst undefA)
      | none => A.fail "guard") o.guard) l
theorem runOps_ok {x : Option Nat} {m : Nat} (hA : Lawful A Pr) (hC : CallOk P call) {n : Nat} {ops : Array Oper} (hd : dstsOk n ops = true) (k : KX R) {E0 : Env} {s0 : St} {w0 : World} {ds : List Deferred} :
    ∀ (l : List Oper) (i : Nat) (s : St) (fr : Fr) (E : Env) (a : Act) (w : World), ops.toList.drop i = l → Step E0 s0 w0 E s w → Rel P E s w → FrRel E fr a.tmps → a.tmps.size = n → a.defers = ds →
      Pr (opsFrom P call A ops k l s fr) → wpOpsIn (FW x) m P ops (Post P E0 s0 w0 n ds fun e s fr => Pr (k e s fr)) (List.range' i l.length) a w
  | [], i, s, fr, E, a, w, hl, hS, hR, hf, hn, hds, h => ⟨.normal, s, fr, E, rfl, hR, hS, hf, hn, hds, h⟩
  | o :: l, i, s, fr, E, a, w, hl, hS, hR, hf, hn, hds, h => by
    have ho : ops[i]? = some o := by
      have := congrArg (·[0]?) hl
      simpa using this
    have hl' : ops.toList.drop (i + 1) = l := by
      have := congrArg (List.drop 1) hl
      simpa [List.drop_drop, Nat.add_comm] using this
    have h : Pr (orec (stepOp o.op P call R A fr s fun v s => opsFrom P call A ops k l s (putF fr o.dst v))
      (fun g => match wantedA ops fr g with
      | some true => stepOp o.op P call R A fr s fun v s => opsFrom P call A ops k l s (putF fr o.dst v)
      | some false => opsFrom P call A ops k l s (putF fr o.dst undefA)
      | none => A.fail "guard") o.guard) := h
    have run : Pr (stepOp o.op P call R A fr s fun v s => opsFrom P call A ops k l s (putF fr o.dst v)) →
        o.wpIn (FW x) m P a w (wpOpsIn (FW x) m P ops (Post P E0 s0 w0 n ds fun e s fr => Pr (k e s fr)) (List.range' (i + 1) l.length)) (Post P E0 s0 w0 n ds fun e s fr => Pr (k e s fr)) := fun h1 => by
      refine StepRes.wp (step_ok hA hC hR (frAll hR hf _) h1) (noDefer hA h1) fun v s' E' x w' g1 g2 g3 g4 => ?_
      have hf' : FrRel E' (putF fr o.dst v) (a.put o.dst x).tmps := FrRel.put (hf.mono g3.ext) o.dst g1 fun d hdd => by rw [hn]; exact dstsOk_get hd ho hdd
      exact runOps_ok hA hC hd k l (i + 1) s' _ E' (a.put o.dst x) w' hl' (hS.trans g3) g2 hf' (by rw [put_size, hn]) (by rw [put_defers, hds]) g4
    have skip : Pr (opsFrom P call A ops k l s (putF fr o.dst undefA)) →
        wpOpsIn (FW x) m P ops (Post P E0 s0 w0 n ds fun e s fr => Pr (k e s fr)) (List.range' (i + 1) l.length) (a.put o.dst undef) w := fun h1 => by
      have hf' : FrRel E (putF fr o.dst undefA) (a.put o.dst undef).tmps := FrRel.put hf o.dst (VR.undef E) fun d hdd => by rw [hn]; exact dstsOk_get hd ho hdd
      exact runOps_ok hA hC hd k l (i + 1) s _ E (a.put o.dst undef) w hl' hS hR hf' (by rw [put_size, hn]) (by rw [put_defers, hds]) h1
    rw [List.length_cons, List.range'_succ]
    simp only [wpOpsIn, ho]
    cases hg : o.guard with
    | none =>
      rw [hg] at h
      have : Region.wanted o (yielded ops a.tmps) = true := by unfold Region.wanted; rw [hg]
      rw [if_pos this]
      exact run h
    | some g =>
      rw [hg] at h
      have h : Pr (match wantedA ops fr g with
        | some true => stepOp o.op P call R A fr s fun v s => opsFrom P call A ops k l s (putF fr o.dst v)
        | some false => opsFrom P call A ops k l s (putF fr o.dst undefA)
        | none => A.fail "guard") := h
      cases hw : wantedA ops fr g with
      | none => rw [hw] at h; exact (hA.fail _ h).elim
      | some b =>
        rw [hw] at h
        have := wantedA_ok (a := a) hg (fun d v _ hv => hf d v hv) hw
        cases b with
        | true => rw [if_pos this]; exact run h
        | false => rw [if_neg (by rw [this]; decide)]; exact ⟨fun _ _ => trivial, skip h⟩

/-! ### code -/
theorem runCode_loop (n : Nat) (inR : Bool) (x : Code) (s : St) (fr : Fr) (k : KX R) : runCode P call A n inR (.loop x) s fr k = nrec (β := St → Fr → R) (fun _ _ => A.fail "too many rounds") (fun _ again => roundA (runCode P call A n inR x) k again) roundsN s fr := by
  unfold runCode crec
  generalize roundsN = N
  rfl
set_option maxHeartbeats 400000 in
theorem rangeA_ok (hA : Lawful A Pr) (hC : CallOk P call) {m n N : Nat} {f : Operand} {ps : Array Tmp} {ca cb : Code} {k : KX R} {fr : Fr} {a : Act} (hR : Rel P E s w) (hf : FrRel E fr a.tmps) (hn : a.tmps.size = n)
    (hM : Marks N w a.defers) (hN : N ≤ w.heap.size) (h : Pr (rangeA P call A n false f ps ca cb s fr k)) :
    (Code.rangeFunc f ps ca cb).wpIn (FW none) m P (PostC P E s w n N fun e s fr => Pr (k e s fr)) a w := by
  have h : Pr (match allL (fun p => Nat.ble (p + 1) n) ps.toList with
    | false => A.fail "slots"
    | true => match evalO P s fr f with
      | .func g cap => (match Nat.ble yldBase g with
        | true => A.fail "range over what"
        | false => match bodyOf P g with
          | none => A.fail "range over what"
          | some _ => hnewK s (.loop n fr ps ca cb none) fun l s => (match Nat.ble s.base l with | false => A.fail "base" | true => call R A g (.yld l :: cap) s fun _ s => match hget s l with
            | some (.loop n' fr' ps' ca' cb' none) => hsetK s l (some (.loop n' fr' ps' ca' cb' (some .normal))) fun s => k .normal s fr
            | some (.loop n' fr' ps' ca' cb' (some .normal)) => A.fail "loop"
            | some (.loop n' fr' ps' ca' cb' (some ex)) => hsetK s l (some (.loop n' fr' ps' ca' cb' (some .normal))) fun s => k ex s fr
            | _ => A.fail "loop"))
      | _ => A.fail "range over what") := h
  split at h
  · exact (hA.fail _ h).elim
  rename_i hps
  rw [allL_iff] at hps
  have hev := evalO_ok hR hf f
  split at h
  · rename_i g cap hg
    rw [hg] at hev
    obtain ⟨vcap, ev, hcap⟩ := hev
    split at h
    · exact (hA.fail _ h).elim
    split at h
    · exact (hA.fail _ h).elim
    rename_i fn hfn
    rw [hnewK_eq] at h
    split at h
    · exact (hA.fail _ h).elim
    rename_i hbase
    have hbase : s.base ≤ s.next := ble_iff.1 hbase
    refine wpIn_rangeFunc ?_
    intro fnid _
    obtain ⟨rec, hrec⟩ : ∃ rec : Loop, rec = { state := .ready, pending := none, fn := fnid, tmps := a.tmps, params := ps, assign := ca, body := cb, defers := w.heap.size } := ⟨_, rfl⟩
    obtain ⟨W1, hW1⟩ : ∃ W1, (w.alloc (.deferred (some []))).alloc (.loop rec) = W1 := ⟨_, rfl⟩
    have hsz : W1.heap.size = w.heap.size + 2 := by rw [← hW1]; simp [World.size_alloc]
    have hL : W1.heap[w.heap.size + 1]? = some (.loop rec) := by
      rw [← hW1]; have := World.alloc_heap_new (w.alloc (.deferred (some []))) (.loop rec); rwa [World.size_alloc] at this
    have hold : ∀ k, k < w.heap.size + 1 → W1.heap[k]? = (w.alloc (.deferred (some []))).heap[k]? := fun k hk => by
      rw [← hW1]; exact RowKit.Below.heap_alloc _ _ _ (by rw [World.size_alloc]; exact hk)
    have hD : W1.heap[w.heap.size]? = some (.deferred (some [])) := (hold _ (by omega)).trans (World.alloc_heap_new w _)
    have hkeep : ∀ k, k < w.heap.size → W1.heap[k]? = w.heap[k]? := fun k hk => (hold k (by omega)).trans (RowKit.Below.heap_alloc _ _ _ hk)
    obtain ⟨hR1, hS1⟩ := new_below (w' := W1) (g := w.heap.size + 1) (o := .loop n fr ps ca cb none) (tot := 0) hR (by omega) (by rw [← hW1]; rfl) (by rw [← hW1]; rfl) (by rw [← hW1]; rfl) (by omega) hkeep
      fun E' ext => ⟨rec, hL, by rw [hrec]; exact hf.mono ext, by rw [hrec]; exact hn, by rw [hrec], by rw [hrec], by rw [hrec], by rw [hrec]; exact ⟨rfl, rfl⟩, fun p hp => ble_iff.1 (hps p hp)⟩
    have hρ : (E.add s.next (w.heap.size + 1) 0).ρ s.next = some (w.heap.size + 1, 0) := Env.add_same _ _ _ _
    have hM1 : Marks N W1 (mark w.heap.size :: a.defers) := by
      obtain ⟨Ds, h1, h2, h3⟩ := hM
      refine ⟨w.heap.size :: Ds, by rw [h1]; rfl, List.nodup_cons.2 ⟨fun q => ?_, h2⟩, fun D hDs => ?_⟩
      · have := (Array.getElem?_eq_some_iff.1 (h3 _ q).2).1; omega
      · rcases List.mem_cons.1 hDs with rfl | q
        · exact ⟨hN, hD⟩
        · obtain ⟨h4, h5⟩ := h3 D q
          exact ⟨h4, by rw [hkeep _ (Array.getElem?_eq_some_iff.1 h5).1, h5]⟩
    refine ⟨w.heap.size + 1, [mark w.heap.size], W1, { target := .fn (.func g) vcap, args := #[.func (.yield (w.heap.size + 1)) #[] #[]] }, W1, g,
      #[.func (.yield (w.heap.size + 1)) #[] #[]] ++ vcap, W1, ?_, ?_, fun _ _ => trivial, ?_, fun q => (by cases q), ?_⟩
    · rw [← hW1, hrec]; exact run_enterLoop_outer _ _ _ _ _
    · simp only [resolve, ev]
      simp [go_sem]
    · simp only [invoke]
      exact callFunc_run hfn _
    · have hvl : VRL (E.add s.next (w.heap.size + 1) 0) (.yld s.next :: cap) (#[Value.func (.yield (w.heap.size + 1)) #[] #[]] ++ vcap).toList := by
        rw [Array.toList_append]
        exact VRL.cons (show VR _ (.yld s.next) _ from ⟨w.heap.size + 1, 0, hρ, rfl⟩) (hcap.mono hS1.ext)
      have hcr := hC R A Pr hA (E.add s.next (w.heap.size + 1) 0) (hnew s (.loop n fr ps ca cb none)) W1 g (.yld s.next :: cap) (#[Value.func (.yield (w.heap.size + 1)) #[] #[]] ++ vcap) _ hR1 hvl h
      have hcl := CallRes.calls (by rw [hfn]; rfl) hcr
      refine callsFW.2 (Calls.mono hcl fun e w3 hend => ?_)
      obtain ⟨v, s2, E2, x, he, hvx, hR2, hS2, hPr⟩ := hend
      subst he
      have hρ2 := hS2.ext.ρ _ _ hρ
      have hb2 : s2.base ≤ s.next := by rw [hS2.base]; exact hbase
      have fin : ∀ {n' : Nat} {fr' : Fr} {ps' : Array Tmp} {ca' cb' : Code} {j : Option Ex}, hget s2 s.next = some (.loop n' fr' ps' ca' cb' j) → j ≠ some .normal →
          ∃ jump w4, (Instr.endLoop (w.heap.size + 1)).run P w3 = .ok jump w4 ∧ jump = j.map exCode ∧ Rel P E2 (hset s2 s.next (some (.loop n' fr' ps' ca' cb' (some .normal)))) w4 ∧
            Step E2 s2 w3 E2 (hset s2 s.next (some (.loop n' fr' ps' ca' cb' (some .normal)))) w4 := by
        intro n' fr' ps' ca' cb' j hb hj
        obtain ⟨r', c', e', rec', g1, g2, g3, g4, g5, g6, g7, g8⟩ := hR2.heap _ _ hb
        rw [hρ2] at e'; cases e'
        have hst : rec'.state ≠ .busy ∧ rec'.pending = j.map exCode := by
          cases j with
          | none => obtain ⟨q1, q2⟩ := g7; rw [q1, q2]; exact ⟨by decide, rfl⟩
          | some ex =>
            cases ex with
            | normal => exact absurd rfl hj
            | exit i => obtain ⟨q1, q2⟩ := g7; rw [q1, q2]; exact ⟨by decide, rfl⟩
            | ret => obtain ⟨q1, q2⟩ := g7; rw [q1, q2]; exact ⟨by decide, rfl⟩
        have hlt := (Array.getElem?_eq_some_iff.1 g1).1
        obtain ⟨k1, k2⟩ := set_ok (o' := .loop n' fr' ps' ca' cb' (some .normal)) (w' := w3.putObj (w.heap.size + 1) (.loop { rec' with state := .exhausted })) hR2 hb hb2 hρ2
          ⟨_, World.putObj_heap_same hlt, g2, g3, g4, g5, g6, trivial, g8⟩ (fun k hk => World.putObj_heap_other hk) rfl rfl rfl World.putObj_size
        exact ⟨_, _, run_endLoop g1 hst.1, hst.2, k1, k2⟩
      have hSa := hS1.trans hS2
      split at hPr
      · rename_i n' fr' ps' ca' cb' hb
        rw [hsetK_eq] at hPr
        obtain ⟨jump, w4, k1, k2, k3, k4⟩ := fin hb (by simp)
        refine ⟨jump, w4, k1, ?_⟩
        rw [k2]
        exact ⟨.normal, _, fr, E2, rfl, k3, hSa.trans k4, hf.mono hSa.ext, hn, hM1.step hR1 (hS2.trans k4), hPr⟩
      · exact (hA.fail _ hPr).elim
      · rename_i n' fr' ps' ca' cb' ex hne hb
        rw [hsetK_eq] at hPr
        obtain ⟨jump, w4, k1, k2, k3, k4⟩ := fin hb (by intro q; cases q; exact hne rfl)
        refine ⟨jump, w4, k1, ?_⟩
        rw [k2]
        have post : PostC P E s w n N (fun e s fr => Pr (k e s fr)) (exOf ex) { a with defers := mark w.heap.size :: a.defers } w4 :=
          ⟨ex, _, fr, E2, rfl, k3, hSa.trans k4, hf.mono hSa.ext, hn, hM1.step hR1 (hS2.trans k4), hPr⟩
        cases ex with
        | normal => exact absurd rfl hne
        | exit i => exact wpIn_exit post
        | ret => exact wpIn_ret post
      · exact (hA.fail _ hPr).elim
  · exact (hA.fail _ h).elim
theorem runCode_ok {x : Option Nat} {inR : Bool} (hin : inR = false → x = none) (m N : Nat) (hA : Lawful A Pr) (hC : CallOk P call) (hD : DrawOk P call) (n : Nat) : ∀ (c : Code) (k : KX R) (s : St) (fr : Fr) (E : Env) (a : Act) (w : World), Rel P E s w → FrRel E fr a.tmps → a.tmps.size = n →
    Marks N w a.defers → N ≤ w.heap.size →
    Pr (runCode P call A n inR c s fr k) → c.wpIn (FW x) m P (PostC P E s w n N fun e s fr => Pr (k e s fr)) a w := by
  intro c
  induction c with
  | skip => intro k s fr E a w hR hf hn hM hN h; exact wpIn_skip ⟨.normal, s, fr, E, rfl, hR, Step.refl E s w, hf, hn, hM, h⟩
  | region id ops draw =>
    intro k s fr E a w hR hf hn hM hN h
    change Pr (match dstsOk n ops with
      | false => A.fail "slots"
      | true => match (generalizing := false) draw with
        | false => runOps P call A ops k s fr
        | true => drawReg P call A ops k s fr) at h
    split at h
    · exact (hA.fail _ h).elim
    · rename_i hd
      split at h
      · have := runOps_ok (x := x) (m := m) hA hC hd k ops.toList 0 s fr E a w (by simp) (Step.refl E s w) hR hf hn rfl h
        refine wpIn_mono (wpIn_region (Q := Post P E s w n a.defers fun e s fr => Pr (k e s fr)) ?_) fun e a1 w1 hp => Post.toC hR hM hp
        rw [List.range_eq_range']
        simpa using this
      · exact wpIn_mono (hD R A Pr hA x m n id ops k s fr E a w hd hR hf hn h) fun e a1 w1 hp => Post.toC hR hM hp
  | seq c1 c2 ihx ihy =>
    intro k s fr E a w hR hf hn hM hN h
    refine wpIn_seq (wpIn_mono (ihx _ s fr E a w hR hf hn hM hN h) fun e a1 w1 hp => ?_)
    obtain ⟨ex, s', fr', E', rfl, h2, h3, h4, h5, h6, h7⟩ := hp
    cases ex with
    | normal =>
      refine wpIn_mono (ihy k s' fr' E' a1 w1 h2 h4 h5 h6 (Nat.le_trans hN h3.size) h7) fun e a2 w2 hp => ?_
      exact PostC.from h3 hp fun _ _ _ q => q
    | exit i => exact ⟨.exit i, s', fr', E', rfl, h2, h3, h4, h5, h6, h7⟩
    | ret => exact ⟨.ret, s', fr', E', rfl, h2, h3, h4, h5, h6, h7⟩
  | cond c c1 c2 ihx ihy =>
    intro k s fr E a w hR hf hn hM hN h
    change Pr (match evalO P s fr c with | .bool true => runCode P call A n inR c1 s fr k | .bool false => runCode P call A n inR c2 s fr k | _ => A.fail "cond") at h
    have hc := evalO_ok hR hf c
    split at h
    · rename_i q
      rw [q] at hc
      exact wpIn_cond_true hc (ihx k s fr E a w hR hf hn hM hN h)
    · rename_i q
      rw [q] at hc
      exact wpIn_cond_false hc (ihy k s fr E a w hR hf hn hM hN h)
    · exact (hA.fail _ h).elim
  | block id c1 ih =>
    intro k s fr E a w hR hf hn hM hN h
    refine wpIn_block (wpIn_mono (ih _ s fr E a w hR hf hn hM hN h) fun e a1 w1 hp => ?_)
    obtain ⟨ex, s', fr', E', rfl, h2, h3, h4, h5, h6, h7⟩ := hp
    cases ex with
    | normal => exact ⟨.normal, s', fr', E', rfl, h2, h3, h4, h5, h6, h7⟩
    | exit i =>
      have h7 : Pr (match Nat.beq i id with | true => k .normal s' fr' | false => k (.exit i) s' fr') := h7
      simp only [exOf, Exit.inBlock]
      by_cases q : i = id
      · rw [if_pos q]
        have : Nat.beq i id = true := by subst q; exact Nat.beq_refl i
        rw [this] at h7
        exact ⟨.normal, s', fr', E', rfl, h2, h3, h4, h5, h6, h7⟩
      · rw [if_neg q]
        have : Nat.beq i id = false := by
          cases hb : Nat.beq i id with
          | false => rfl
          | true => exact absurd (Nat.eq_of_beq_eq_true hb) q
        rw [this] at h7
        exact ⟨.exit i, s', fr', E', rfl, h2, h3, h4, h5, h6, h7⟩
    | ret => exact ⟨.ret, s', fr', E', rfl, h2, h3, h4, h5, h6, h7⟩
  | loop y ih =>
    intro k s fr E a w hR hf hn hM hN h
    have key : ∀ (q : Nat) (s1 : St) (fr1 : Fr) (E1 : Env) (a1 : Act) (w1 : World), Step E s w E1 s1 w1 → Rel P E1 s1 w1 → FrRel E1 fr1 a1.tmps → a1.tmps.size = n → Marks N w1 a1.defers →
        Pr (nrec (β := St → Fr → R) (fun _ _ => A.fail "too many rounds") (fun _ again => roundA (runCode P call A n inR y) k again) q s1 fr1) →
        Code.roundsIn (FW x) m P y (PostC P E s w n N fun e s fr => Pr (k e s fr)) q a1 w1 := by
      intro q
      induction q with
      | zero => intro s1 fr1 E1 a1 w1 _ _ _ _ _ h1; exact (hA.fail _ h1).elim
      | succ q ihm =>
        intro s1 fr1 E1 a1 w1 hS1 hR1 hf1 hn1 hd1 h1
        rw [roundsIn_succ]
        refine wpIn_mono (ih _ s1 fr1 E1 a1 w1 hR1 hf1 hn1 hd1 (Nat.le_trans hN hS1.size) h1) fun e a2 w2 hp => ?_
        obtain ⟨ex, s', fr', E', rfl, h2, h3, h4, h5, h6, h7⟩ := hp
        cases ex with
        | normal => exact ihm s' fr' E' a2 w2 (hS1.trans h3) h2 h4 h5 h6 h7
        | exit i => exact ⟨.exit i, s', fr', E', rfl, h2, hS1.trans h3, h4, h5, h6, h7⟩
        | ret => exact ⟨.ret, s', fr', E', rfl, h2, hS1.trans h3, h4, h5, h6, h7⟩
    rw [runCode_loop] at h
    generalize roundsN = M at h
    exact wpIn_loop_rounds M (key M s fr E a w (Step.refl E s w) hR hf hn hM h)
  | exit id => intro k s fr E a w hR hf hn hM hN h; exact wpIn_exit ⟨.exit id, s, fr, E, rfl, hR, Step.refl E s w, hf, hn, hM, h⟩
  | ret => intro k s fr E a w hR hf hn hM hN h; exact wpIn_ret ⟨.ret, s, fr, E, rfl, hR, Step.refl E s w, hf, hn, hM, h⟩
  | rangeFunc f ps ca cb _ _ =>
    intro k s fr E a w hR hf hn hM hN h
    have h : Pr (rangeA P call A n inR f ps ca cb s fr k) := h
    cases inR with
    | true => exact (hA.fail _ h).elim
    | false =>
      obtain rfl := hin rfl
      exact rangeA_ok hA hC hR hf hn hM hN h
  | _ => intros; rename_i h; exact (hA.fail _ h).elim
end
end Go.Proofs.YthfkajaeikhloaaGreatDoor.Xq

/-! Calls. -/
namespace Go.Proofs.YthfkajaeikhloaaGreatDoor.Xq
open Go

section
variable {P : Program} {E : Env} {s : St} {w : World} {R : Type} {A : Ans R} {Pr : R → Prop} {call : CallT}

theorem get_leaf {α : Type} (t : Nat) : (Tr.get (pathOf t) (.leaf : Tr α)) = none := by
  cases pathOf t <;> rfl
def resOf (tmps : Array Value) : ResultVar → Sem Value
  | .tmp t => pure (tmps.getD t undef)
  | .cell a t => do loadVar t (← asAddr (tmps.getD a undef))
theorem resultsA_ok (hA : Lawful A Pr) (hR : Rel P E s w) {fr : Fr} {a : Act} (hf : FrRel E fr a.tmps) : ∀ (rs : List ResultVar) (k : List AV → R), Pr (resultsA P A s fr rs k) →
    ∃ l vs, (rs.mapM (resOf a.tmps)).run P w = .ok vs w ∧ VRL E l vs ∧ Pr (k l)
  | [], k, h => ⟨[], [], rfl, VRL.nil, h⟩
  | .tmp t :: rs, k, h => by
    obtain ⟨l, vs, h1, h2, h3⟩ := resultsA_ok hA hR hf rs (fun l => k (evalO P s fr (.tmp t) :: l)) h
    refine ⟨_, a.tmps.getD t undef :: vs, ?_, VRL.cons (evalO_ok hR hf (.tmp t)) h2, h3⟩
    simp [List.mapM_cons, resOf, h1]
  | .cell x t :: rs, k, h => by
    have h : Pr (match evalO P s fr (.tmp x) with
      | .ptr b off => loadA P A t s b off fun v => resultsA P A s fr rs fun l => k (v :: l)
      | _ => A.fail "result cell") := h
    have hx := evalO_ok hR hf (.tmp x)
    split at h
    · rename_i b off q
      rw [q] at hx
      obtain ⟨r, c, hr, e⟩ := hx
      have e : a.tmps.getD x undef = .pointer (some ⟨r, off, none⟩) := e
      obtain ⟨v, y, g1, g2, g3⟩ := loadA_ok hA hR hr h
      obtain ⟨l, vs, h1, h2, h3⟩ := resultsA_ok hA hR hf rs (fun l => k (v :: l)) g3
      refine ⟨_, y :: vs, ?_, VRL.cons g2 h2, h3⟩
      simp [List.mapM_cons, resOf, e, asAddr, g1, h1]
    · exact (hA.fail _ h).elim
theorem results_run {fn : Func} {tmps : Array Value} {vs : List Value} (h : (fn.results.toList.mapM (resOf tmps)).run P w = .ok vs w) :
    (results fn tmps).run P w = .ok (if h : vs.length = 1 then vs[0] else .tuple vs.toArray) w := by
  have : (fn.results.mapM (resOf tmps)).run P w = .ok vs.toArray w := by
    rw [Array.mapM_eq_mapM_toList]
    simp [h]
  have e : results fn tmps = (do let vs ← fn.results.mapM (resOf tmps); Pure.pure (if h : vs.size = 1 then vs[0] else .tuple vs)) := rfl
  rw [e]
  simp only [Sem.run_bind, this, Result.andThen_ok]
  simp
theorem argsFr_get : ∀ (args : List AV) (i : Nat) (fr : Fr) (t : Nat), (argsFr args i fr).get (pathOf t) = if i ≤ t ∧ t < i + args.length then args[t - i]? else fr.get (pathOf t)
  | [], i, fr, t => by
    rw [if_neg (by simp)]
    rfl
  | v :: args, i, fr, t => by
    have : argsFr (v :: args) i fr = argsFr args (i + 1) (fr.set (some v) (pathOf i)) := rfl
    rw [this, argsFr_get args (i + 1), Tr.get_set_of]
    simp only [List.length_cons]
    by_cases h1 : i + 1 ≤ t ∧ t < i + 1 + args.length
    · rw [if_pos h1, if_pos (by omega)]
      have : t - i = (t - (i + 1)) + 1 := by omega
      rw [this]; simp
    · rw [if_neg h1]
      by_cases h2 : i = t
      · subst h2
        rw [if_pos rfl, if_pos (by omega)]; simp
      · rw [if_neg h2, if_neg (by omega)]
theorem argsFr_ok {args : List AV} {vs : Array Value} (h : VRL E args vs.toList) (n : Nat) : FrRel E (argsFr args 0 .leaf) (vs ++ Array.replicate n undef) := by
  intro t v ht
  rw [argsFr_get] at ht
  split at ht
  · obtain ⟨x, hx, hv⟩ := h.get ht
    refine ⟨x, ?_, hv⟩
    have hlt := (List.getElem?_eq_some_iff.1 hx).1
    rw [Array.getElem?_append_left (by simpa using hlt)]
    simpa using hx
  · rw [get_leaf] at ht; cases ht
/-- what is said of functions beforehand -/
structure SmOk (P : Program) (sm : Sm) : Prop where
  find : ∀ (E : Env) (s : St) (w : World) (f : Nat) (args : List AV) (vs : Array Value) (v : AV) (s' : St), Rel P E s w → VRL E args vs.toList → smFind sm s f args = some (v, s') → CallRes P E s w f vs fun u s1 => u = v ∧ s1 = s'
  once : ∀ (call : CallT), CallOk P call → ∀ (R : Type) (A : Ans R) (Pr : R → Prop), Lawful A Pr → ∀ (E : Env) (s : St) (w : World) (f : Nat) (args : List AV) (vs : Array Value) (k : KV R), Rel P E s w → VRL E args vs.toList → isOnce sm f = true →
    Pr (onceA P call R A args s k) → CallRes P E s w f vs fun v s' => Pr (k v s')
  bool : ∀ (E : Env) (s : St) (w : World) (f : Nat) (args : List AV) (vs : Array Value), Rel P E s w → VRL E args vs.toList → isBool sm s f args = true →
    (∃ fn, bodyOf P f = some fn) ∧ Calls P f vs w fun e w' => ∃ b, e = .returned (.bool b) ∧ Rel P E s w' ∧ Step E s w E s w'
theorem smOk0 : SmOk P sm0 := by
  refine ⟨fun E s w f args vs v s' _ _ h => ?_, fun call _ R A Pr _ E s w f args vs k _ _ h _ => (by cases h), fun E s w f args vs _ _ h => ?_⟩
  rotate_left
  · exfalso
    unfold isBool sm0 at h
    rw [get_leaf] at h
    cases h
  exfalso
  unfold smFind sm0 at h
  rw [get_leaf, get_leaf, get_leaf, get_leaf] at h
  cases h
theorem paramsFr_ok {fr : Fr} : ∀ (ps : List Tmp) (args : List AV) (vs : List Value) (fr : Fr) (tmps : Array Value), VRL E args vs → FrRel E fr tmps → (∀ p ∈ ps, p < tmps.size) →
    FrRel E (paramsFr ps args fr) ((ps.zip vs).foldl (fun t (p : Tmp × Value) => t.setIfInBounds p.1 p.2) tmps) ∧ ((ps.zip vs).foldl (fun t (p : Tmp × Value) => t.setIfInBounds p.1 p.2) tmps).size = tmps.size
  | [], _, _, fr, tmps, _, hf, _ => ⟨hf, rfl⟩
  | p :: ps, [], vs, fr, tmps, hv, hf, _ => by
    have hv : vs = [] := hv
    subst hv
    exact ⟨hf, rfl⟩
  | p :: ps, v :: args, vs, fr, tmps, hv, hf, hp => by
    obtain ⟨x, xs, rfl, hx, hxs⟩ := hv
    have h1 : FrRel E (fr.set (some v) (pathOf p)) (tmps.setIfInBounds p x) := FrRel.put (a := ⟨tmps, []⟩) hf (some p) hx fun d hd => by cases hd; exact hp p (by simp)
    have := paramsFr_ok (fr := fr) ps args xs (fr.set (some v) (pathOf p)) (tmps.setIfInBounds p x) hxs h1 (fun q hq => by simpa using hp q (by simp [hq]))
    exact ⟨this.1, by rw [List.zip_cons_cons, List.foldl_cons, this.2]; simp⟩
theorem roundEnd_ok (hA : Lawful A Pr) {E' : Env} {s' : St} {w' : World} {b r c : Nat} {k : KV R} {ex : Ex} {a : Act} (hS : Step E s w E' s' w') (hR : Rel P E' s' w') (hr : E'.ρ b = some (r, c)) (hb : s'.base ≤ b) (h : Pr (roundEnd A b ex s' k)) :
    roundPost P r (fun e w' => ∃ v s' E' x, e = .returned x ∧ VR E' v x ∧ Rel P E' s' w' ∧ Step E s w E' s' w' ∧ Pr (k v s')) (exOf ex) a w' := by
  unfold roundEnd at h
  split at h
  · rename_i n fr ps ca cb hget'
    obtain ⟨r', c', e', rec, g1, g2, g3, g4, g5, g6, g7, g8⟩ := hR.heap _ _ hget'
    rw [hr] at e'; cases e'
    have hlt := (Array.getElem?_eq_some_iff.1 g1).1
    have fin : ∀ (jump : Option Code) (j : Option Ex), jumpR { rec with state := if jump.isNone then .ready else .done, pending := jump } j →
        Rel P E' (hset s' b (some (.loop n fr ps ca cb j))) (w'.putObj r (.loop { rec with state := if jump.isNone then .ready else .done, pending := jump })) ∧
        Step E s w E' (hset s' b (some (.loop n fr ps ca cb j))) (w'.putObj r (.loop { rec with state := if jump.isNone then .ready else .done, pending := jump })) := fun jump j hj => by
      obtain ⟨k1, k2⟩ := set_ok (o' := .loop n fr ps ca cb j) (w' := w'.putObj r (.loop { rec with state := if jump.isNone then .ready else .done, pending := jump })) hR hget' hb hr
        ⟨_, World.putObj_heap_same hlt, g2, g3, g4, g5, g6, hj, g8⟩ (fun k hk => World.putObj_heap_other hk) rfl rfl rfl World.putObj_size
      exact ⟨k1, hS.trans k2⟩
    cases ex with
    | normal =>
      have h : Pr (hsetK s' b (some (.loop n fr ps ca cb none)) fun s => k (.bool true) s) := h
      rw [hsetK_eq] at h
      obtain ⟨k1, k2⟩ := fin none none ⟨rfl, rfl⟩
      exact ⟨_, _, run_endRound none g1, .bool true, _, E', _, rfl, rfl, k1, k2, h⟩
    | exit i =>
      have h : Pr (hsetK s' b (some (.loop n fr ps ca cb (some (.exit i)))) fun s => k (.bool false) s) := h
      rw [hsetK_eq] at h
      obtain ⟨k1, k2⟩ := fin (some (.exit i)) (some (.exit i)) ⟨rfl, rfl⟩
      exact ⟨_, _, run_endRound (some (.exit i)) g1, .bool false, _, E', _, rfl, rfl, k1, k2, h⟩
    | ret =>
      have h : Pr (hsetK s' b (some (.loop n fr ps ca cb (some .ret))) fun s => k (.bool false) s) := h
      rw [hsetK_eq] at h
      obtain ⟨k1, k2⟩ := fin (some .ret) (some .ret) ⟨rfl, rfl⟩
      exact ⟨_, _, run_endRound (some .ret) g1, .bool false, _, E', _, rfl, rfl, k1, k2, h⟩
  · exact (hA.fail _ h).elim
theorem roundR_ok (hC : CallOk P call) (hD : DrawOk P call) (hA : Lawful A Pr) (hR : Rel P E s w) {f : Nat} {args : List AV} {vs : Array Value} {k : KV R} (hf : yldBase ≤ f) (hv : VRL E args vs.toList) (h : Pr (roundR P call R A f args s k)) :
    CallRes P E s w f vs fun v s' => Pr (k v s') := by
  obtain ⟨bb, hbb⟩ : ∃ b, f - yldBase = b := ⟨_, rfl⟩
  have hfb : f = yldBase + bb := by rw [← hbb]; exact (Nat.add_sub_cancel' hf).symm
  unfold roundR at h
  rw [hbb] at h
  split at h
  · exact (hA.fail _ h).elim
  rename_i hnone
  split at h
  · rename_i n fr ps ca cb hb
    split at h
    · rename_i hbase hlen
      have hbase : s.base ≤ bb := ble_iff.1 hbase
      have hlen := Nat.eq_of_beq_eq_true hlen
      rw [lenL_eq, lenL_eq, hv.length] at hlen
      obtain ⟨r, c, hr, rec, g1, g2, g3, g4, g5, g6, g7, g8⟩ := hR.heap _ _ hb
      subst g4; subst g5; subst g6
      refine .inr (.inr ⟨bb, r, c, rec.fn, _, rec.assign, rec.body, by omega, hnone, hr, run_yield g1 (by simpa using hlen), ?_⟩)
      refine roundIn_of_wpIn (F := Fence.wide) trivial ?_
      have e0 : (rec.params.zip vs).foldl (fun tmps (x : Tmp × Value) => tmps.setIfInBounds x.1 x.2) rec.tmps = ((rec.params.toList.zip vs.toList).foldl (fun t (p : Tmp × Value) => t.setIfInBounds p.1 p.2) rec.tmps) := by
        rw [← Array.foldl_toList, Array.toList_zip]
      obtain ⟨p1, p2⟩ := paramsFr_ok (fr := fr) rec.params.toList args vs.toList fr rec.tmps hv g2 (fun p hp => by rw [g3]; exact g8 p hp)
      have h1 := runCode_ok (x := some r) (inR := true) (fun q => (by cases q)) 0 0 hA hC hD n rec.assign _ s _ E ⟨_, []⟩ w hR p1 (p2.trans g3) Marks.nil (Nat.zero_le _) h
      rw [← e0] at h1
      refine wpIn_mono h1 fun e a1 w1 hp => ?_
      obtain ⟨ex, s1, fr1, E1, rfl, h2, h3, h4, h5, h6, h7⟩ := hp
      split at h7
      · rename_i n' fr' ps' ca' cb' hb1
        rw [hsetK_eq] at h7
        have hr1 := h3.ext.ρ _ _ hr
        obtain ⟨r', c', e', rec1, q1, q2, q3, q4, q5, q6, q7, q8⟩ := h2.heap _ _ hb1
        rw [hr1] at e'; cases e'
        have hlt := (Array.getElem?_eq_some_iff.1 q1).1
        obtain ⟨k1, k2⟩ := set_ok (o' := .loop n' fr' ps' ca' cb' (some .normal)) (w' := w1.putObj r (.loop { rec1 with state := .busy })) h2 hb1 (by rw [h3.base]; exact hbase) hr1
          ⟨_, World.putObj_heap_same hlt, q2, q3, q4, q5, q6, trivial, q8⟩ (fun k hk => World.putObj_heap_other hk) rfl rfl rfl World.putObj_size
        refine ⟨_, run_beginRound q1 q7.1, ?_⟩
        have h8 := runCode_ok (x := some r) (inR := true) (fun q => (by cases q)) 0 0 hA hC hD n rec.body _ _ fr1 E1 a1 _ k1 h4 h5 (h6.step h2 k2) (Nat.zero_le _) h7
        refine wpIn_mono h8 fun e a2 w2 hp => ?_
        obtain ⟨ex, s2, fr2, E2, rfl, m2, m3, m4, m5, m6, m7⟩ := hp
        exact roundEnd_ok hA ((h3.trans k2).trans m3) m2 (m3.ext.ρ _ _ hr1) (by rw [m3.base, k2.base, h3.base]; exact hbase) m7
      · exact (hA.fail _ h7).elim
    · exact (hA.fail _ h).elim
  · exact (hA.fail _ h).elim
/-- the marks are taken -/
theorem leaves_marks {w0 : World} {n : Nat} {fn : Func} {tmps : Array Value} {s' : St} {E' : Env} {Q : Ending → World → Prop}
    (hQ : ∀ w', Rel P E' s' w' → Step E s w0 E' s' w' → ∃ v, (results fn tmps).run P w' = .ok v w' ∧ Q (.returned v) w') : ∀ (Ds : List Nat) (w' : World), Rel P E' s' w' → Step E s w0 E' s' w' → Ds.Nodup →
    (∀ D ∈ Ds, w0.heap.size ≤ D ∧ w'.heap[D]? = some (.deferred (some []))) → LeavesInM (FW none) n P fn tmps Q (Ds.map mark) .returning w'
  | [], w', hR, hS, _, _ => hQ w' hR hS
  | D :: Ds, w', hR, hS, hnd, hD => by
    obtain ⟨h1, h2⟩ := hD D (List.mem_cons_self ..)
    obtain ⟨n1, n2⟩ := List.nodup_cons.1 hnd
    have oth : ∀ k, k ≠ D → (w'.putObj D (.deferred none)).heap[k]? = w'.heap[k]? := fun k hk => World.putObj_heap_other hk
    refine ⟨by simp, .inl ⟨D, _, rfl, run_takeDeferred h2, leaves_marks hQ Ds _ ?_ ?_ n2 fun D' hD' => ?_⟩⟩
    · refine ⟨fun b o hb => ?_, hR.inj, hR.fresh, hR.glob, hR.next, hR.sy⟩
      obtain ⟨r, c, hr, hO⟩ := hR.heap b o hb
      refine ⟨r, c, hr, hO.world (oth r ?_)⟩
      rintro rfl
      exact hR.notDeferred hb hr h2
    · exact ⟨hS.ext, hS.base, hS.next, hS.old, hS.os, hS.tape, hS.output, by rw [World.putObj_size]; exact hS.size, fun r hr hk => by rw [oth r (by omega)]; exact hS.keep r hr hk, hS.dom, hS.low⟩
    · obtain ⟨g1, g2⟩ := hD D' (List.mem_cons_of_mem _ hD')
      refine ⟨g1, (oth D' ?_).trans g2⟩
      rintro rfl
      exact n1 hD'
theorem callBody_ok (hC : CallOk P call) (hD : DrawOk P call) (hA : Lawful A Pr) (hR : Rel P E s w) {f : Nat} {args : List AV} {vs : Array Value} {k : KV R} (hv : VRL E args vs.toList) (h : Pr (callBody P call R A f args s k)) :
    (∃ fn, bodyOf P f = some fn) ∧ Calls P f vs w fun e w' => ∃ v s' E' x, e = .returned x ∧ VR E' v x ∧ Rel P E' s' w' ∧ Step E s w E' s' w' ∧ Pr (k v s') := by
  unfold callBody at h
  split at h
  · rename_i fn hfn
    refine ⟨⟨fn, hfn⟩, ?_⟩
    obtain ⟨hf, hname, _⟩ := bodyOf_some hfn
    split at h
    · rename_i c hc
      split at h
      · rename_i hle
        rw [lenL_eq] at hle
        have hle := ble_iff.1 hle
        have hlen := hv.length
        have hsz : vs.size = args.length := by rw [← Array.length_toList, ← hlen]
        refine callsFW.1 (callsIn_of_wp_marks (F := FW none) (n := 0) hf hc trivial (wpIn_mono (runCode_ok (x := none) (inR := false) (fun _ => rfl) 0 w.heap.size hA hC hD fn.ntmps c _ s _ E ⟨vs ++ Array.replicate (fn.ntmps - vs.size) undef, []⟩ w hR (argsFr_ok hv _) (by simp; omega) Marks.nil (Nat.le_refl _) h) fun e a' w' hp => ?_))
        obtain ⟨ex, s', fr', E', rfl, h2, h3, h4, h5, ⟨Ds, m1, m2, m3⟩, h7⟩ := hp
        have fin : Pr (resultsA P A s' fr' fn.results.toList fun l => match l with | [v] => k v s' | l => k (.tuple l) s') →
            LeavesInM (FW none) 0 P fn a'.tmps (fun e w' => ∃ v s' E' x, e = .returned x ∧ VR E' v x ∧ Rel P E' s' w' ∧ Step E s w E' s' w' ∧ Pr (k v s')) a'.defers .returning w' := by
          intro h8
          rw [m1]
          refine leaves_marks (E' := E') (s' := s') (fun w' h2 h3 => ?_) Ds w' h2 h3 m2 m3
          obtain ⟨l, us, g1, g2, g3⟩ := resultsA_ok hA h2 h4 _ _ h8
          refine ⟨_, results_run g1, ?_⟩
          have gl := g2.length
          split at g3
          · rename_i v
            obtain ⟨x, xs, rfl, hx, hxs⟩ := g2
            have hxs : xs = [] := hxs
            subst hxs
            exact ⟨v, s', E', x, rfl, hx, h2, h3, g3⟩
          · rename_i hne
            have : ¬ us.length = 1 := fun q => by
              rw [← gl] at q
              obtain ⟨v, rfl⟩ := List.length_eq_one_iff.1 q
              exact hne v rfl
            rw [dif_neg this]
            exact ⟨.tuple l, s', E', _, rfl, ⟨_, rfl, by simpa using g2⟩, h2, h3, g3⟩
        cases ex with
        | normal => exact fin h7
        | ret => exact fin h7
        | exit i => exact (hA.fail _ h7).elim
      · exact (hA.fail _ h).elim
    · exact (hA.fail _ h).elim
  · exact (hA.fail _ h).elim
/-- calls are sound, if regions that draw are -/
theorem callF_ok {sm : Sm} (hsm : SmOk P sm) (hD : ∀ call, CallOk P call → DrawOk P call) : ∀ fuel, CallOk P (callF P sm fuel)
  | 0 => fun R A Pr hA E s w f args vs k hR hv h => (hA.fail _ h).elim
  | n + 1 => fun R A Pr hA E s w f args vs k hR hv h => by
    have hC := callF_ok hsm hD n
    have h : Pr (match Nat.ble yldBase f with | true => roundR P (callF P sm n) R A f args s k | false => orec (match isOnce sm f with | true => onceA P (callF P sm n) R A args s k | false => match isBool sm s f args with | true => A.fork (.int 0 0) (k (.bool true) s) (k (.bool false) s) | false => callBody P (callF P sm n) R A f args s k) (fun p => k p.1 p.2) (smFind sm s f args)) := h
    split at h
    · rename_i hyb; exact roundR_ok hC (hD _ hC) hA hR (ble_iff.1 hyb) hv h
    cases hs : smFind sm s f args with
    | none =>
      rw [hs] at h
      cases ho : isOnce sm f with
      | true => rw [ho] at h; exact hsm.once _ hC R A Pr hA E s w f args vs k hR hv ho h
      | false =>
        rw [ho] at h
        have h : Pr (match isBool sm s f args with | true => A.fork (.int 0 0) (k (.bool true) s) (k (.bool false) s) | false => callBody P (callF P sm n) R A f args s k) := h
        cases hbl : isBool sm s f args with
        | false => rw [hbl] at h; exact .inl (callBody_ok hC (hD _ hC) hA hR hv h)
        | true =>
          rw [hbl] at h
          obtain ⟨h1, h2⟩ := hA.fork _ _ _ h
          obtain ⟨k1, k2⟩ := hsm.bool E s w f args vs hR hv hbl
          refine .inl ⟨k1, Calls.mono k2 fun e w' ⟨b, g1, g2, g3⟩ => ⟨.bool b, s, E, .bool b, g1, rfl, g2, g3, ?_⟩⟩
          cases b
          · exact h2
          · exact h1
    | some p =>
      obtain ⟨v, s'⟩ := p
      rw [hs] at h
      exact (hsm.find E s w f args vs v s' hR hv hs).mono fun u s1 ⟨g5, g6⟩ => by subst g5; subst g6; exact h
end
end Go.Proofs.YthfkajaeikhloaaGreatDoor.Xq

/-! Regions that draw their order: lists, the order. -/
namespace Go.Proofs.YthfkajaeikhloaaGreatDoor.Xq
open Go

/-! ### lists and tries -/
theorem bnot_iff {b : Bool} : bnot b = true ↔ b = false := by cases b <;> decide
theorem disjL_iff {l m : List Nat} : disjL l m = true ↔ ∀ x ∈ l, x ∉ m := by
  unfold disjL
  rw [allL_iff]
  refine ⟨fun h x hx hm => ?_, fun h x hx => ?_⟩
  · have := bnot_iff.1 (h x hx)
    rw [(memL_iff _ _).2 hm] at this; cases this
  · rw [bnot_iff]
    cases hb : memL x m with
    | false => rfl
    | true => exact (h x hx ((memL_iff _ _).1 hb)).elim
theorem outOf_iff {lo hi : Nat} {l : List Nat} : outOf lo hi l = true ↔ ∀ x ∈ l, x < lo ∨ hi ≤ x := by
  unfold outOf
  rw [allL_iff]
  refine ⟨fun h x hx => ?_, fun h x hx => ?_⟩
  · have := h x hx
    split at this
    · rename_i q
      left
      rcases Nat.lt_or_ge x lo with g | g
      · exact g
      · rw [ble_iff.2 g] at q; cases q
    · exact .inr (ble_iff.1 this)
  · split
    · rfl
    · rename_i q
      have := ble_iff.1 q
      rcases h x hx with g | g
      · omega
      · exact ble_iff.2 g
theorem copyT_get (src : Tr AObj) (l : List Nat) (dst : Tr AObj) (b : Nat) : (copyT src l dst).get (pathOf b) = if b ∈ l then src.get (pathOf b) else dst.get (pathOf b) := by
  induction l with
  | nil => rw [if_neg (by simp)]; rfl
  | cons x l ih =>
    have e : copyT src (x :: l) dst = (copyT src l dst).set (src.get (pathOf x)) (pathOf x) := rfl
    rw [e, Tr.get_set_of, ih]
    by_cases hx : x = b
    · subst hx; simp
    · simp [hx, Ne.symm hx]
theorem hideT_get (l : List Nat) (t : Tr AObj) (b : Nat) : (hideT l t).get (pathOf b) = if b ∈ l then none else t.get (pathOf b) := by
  induction l with
  | nil => rw [if_neg (by simp)]; rfl
  | cons x l ih =>
    have e : hideT (x :: l) t = (hideT l t).set none (pathOf x) := rfl
    rw [e, Tr.get_set_of, ih]
    by_cases hx : x = b
    · subst hx; simp
    · simp [hx, Ne.symm hx]
theorem rangeGo_mem (n lo b : Nat) : b ∈ (nrec (fun _ => []) (fun _ ih b => b :: ih (b + 1)) n lo : List Nat) ↔ lo ≤ b ∧ b < lo + n := by
  induction n generalizing lo with
  | zero =>
    have : (nrec (fun _ => []) (fun _ ih b => b :: ih (b + 1)) 0 lo : List Nat) = [] := rfl
    rw [this]; simp
  | succ n ih =>
    have : (nrec (fun _ => []) (fun _ ih b => b :: ih (b + 1)) (n + 1) lo : List Nat) = lo :: nrec (fun _ => []) (fun _ ih b => b :: ih (b + 1)) n (lo + 1) := rfl
    rw [this, List.mem_cons, ih]
    omega
theorem rangeL_mem {lo hi b : Nat} : b ∈ rangeL lo hi ↔ lo ≤ b ∧ b < hi := by
  unfold rangeL
  rw [rangeGo_mem]
  omega

/-! ### the order -/
/-- must j come just before i? -/
def Dir (ops : Array Oper) (j i : Nat) : Prop := ∃ o, ops[i]? = some o ∧ ∃ e ∈ o.after.toList, Region.binds .any e = true ∧ e.on = j
/-- what has been carried out holds what must come before -/
def Closed (ops : Array Oper) (S : Nat → Prop) : Prop := ∀ i, S i → ∀ j, Dir ops j i → S j
theorem bitB_eq (n j : Nat) : bitB n j = n.testBit j := by
  show Nat.beq (n / 2 ^ j % 2) 1 = _
  rw [Nat.testBit_eq_decide_div_mod_eq]
  cases h : Nat.beq (n / 2 ^ j % 2) 1 with
  | true => exact (decide_eq_true (Nat.eq_of_beq_eq_true h)).symm
  | false => exact (decide_eq_false (Nat.ne_of_beq_eq_false h)).symm
theorem bitB_lor (a b j : Nat) : bitB (Nat.lor a b) j = true ↔ bitB a j = true ∨ bitB b j = true := by
  rw [bitB_eq, bitB_eq, bitB_eq]
  show (a ||| b).testBit j = true ↔ _
  rw [Nat.testBit_or]
  simp
theorem bitB_pow (k j : Nat) : bitB (2 ^ k) j = true ↔ k = j := by
  rw [bitB_eq, Nat.testBit_two_pow]
  simp
theorem bitB_zero (j : Nat) : bitB 0 j = false := by
  rw [bitB_eq]; simp
theorem edgeBits_bit {acc : List Nat} {es : List Edge} {j : Nat} (h : bitB (edgeBits acc es) j = true) :
    ∃ e ∈ es, Region.binds .any e = true ∧ (e.on = j ∨ ∃ b, acc[e.on]? = some b ∧ bitB b j = true) := by
  induction es with
  | nil => have : bitB 0 j = true := h; rw [bitB_zero] at this; cases this
  | cons e es ih =>
    have h : bitB (match Region.binds .any e with
      | true => Nat.lor (edgeBits acc es) (Nat.lor (2 ^ e.on) (match nth acc e.on with | some b => b | none => 0))
      | false => edgeBits acc es) j = true := h
    cases hb : Region.binds .any e with
    | false =>
      rw [hb] at h
      obtain ⟨e', he, g⟩ := ih h
      exact ⟨e', List.mem_cons_of_mem _ he, g⟩
    | true =>
      rw [hb] at h
      rcases (bitB_lor _ _ _).1 h with g | g
      · obtain ⟨e', he, g⟩ := ih g
        exact ⟨e', List.mem_cons_of_mem _ he, g⟩
      · refine ⟨e, List.mem_cons_self .., hb, ?_⟩
        rcases (bitB_lor _ _ _).1 g with g | g
        · exact .inl ((bitB_pow _ _).1 g)
        · right
          rw [nth_eq] at g
          split at g
          · rename_i b q; exact ⟨b, q, g⟩
          · rw [bitB_zero] at g; cases g
/-- the bits of an operation's entry: what must come before it -/
def BitsOk (ops : Array Oper) (acc : List Nat) : Prop := ∀ k b, acc[k]? = some b → ∀ j, bitB b j = true → ∀ S, Closed ops S → (∀ m, Dir ops m k → S m) → S j
theorem befGo_ok {ops : Array Oper} : ∀ (l : List Oper) (acc : List Nat), ops.toList.drop acc.length = l → BitsOk ops acc → BitsOk ops (befGo l acc)
  | [], acc, _, h => h
  | o :: l, acc, hl, h => by
    have ho : ops[acc.length]? = some o := by
      have := congrArg (·[0]?) hl
      simpa using this
    have e : befGo (o :: l) acc = befGo l (appL acc [edgeBits acc o.after.toList]) := rfl
    rw [e, appL_eq]
    refine befGo_ok l _ ?_ ?_
    · have := congrArg (List.drop 1) hl
      simpa [List.drop_drop, Nat.add_comm] using this
    · intro k b hk j hj S hS hd
      rcases Nat.lt_trichotomy k acc.length with g | g | g
      · rw [List.getElem?_append_left g] at hk
        exact h k b hk j hj S hS hd
      · subst g
        rw [List.getElem?_append_right (Nat.le_refl _)] at hk
        simp at hk
        subst hk
        obtain ⟨e, he, hb, hc⟩ := edgeBits_bit hj
        have hS1 : S e.on := hd _ ⟨o, ho, e, he, hb, rfl⟩
        rcases hc with rfl | ⟨b, hb, hj⟩
        · exact hS1
        · exact h _ b hb j hj S hS fun m hm => hS _ hS1 m hm
      · rw [List.getElem?_eq_none (by simp; omega)] at hk; cases hk
theorem ordB_ok {ops : Array Oper} {j i : Nat} (h : ordB ops j i = true) {S : Nat → Prop} (hS : Closed ops S) (hd : ∀ m, Dir ops m i → S m) : S j := by
  unfold ordB at h
  rw [nth_eq] at h
  split at h
  · rename_i b hb
    have : BitsOk ops (bef ops) := befGo_ok ops.toList [] rfl (fun k b hk => by simp at hk)
    exact this i b hb j h S hS hd
  · cases h
theorem backOk_ok {ops : Array Oper} (h : backOk ops = true) {j i : Nat} (hd : Dir ops j i) : j < i := by
  have go : ∀ (l : List Oper) (k : Nat), (lrec (fun _ => true) (fun (o : Oper) _ ih (i : Nat) => match allL (fun (e : Edge) => match Region.binds .any e with | true => Nat.ble (e.on + 1) i | false => true) o.after.toList with
      | true => ih (i + 1)
      | false => false) l k) = true → ∀ m o, l[m]? = some o → ∀ e ∈ o.after.toList, Region.binds .any e = true → e.on < k + m := by
    intro l
    induction l with
    | nil => intro k _ m o ho; simp at ho
    | cons x l ih =>
      intro k hk m o ho e he hb
      have hk : (match allL (fun (e : Edge) => match Region.binds .any e with | true => Nat.ble (e.on + 1) k | false => true) x.after.toList with
        | true => lrec (fun _ => true) (fun (o : Oper) _ ih (i : Nat) => match allL (fun (e : Edge) => match Region.binds .any e with | true => Nat.ble (e.on + 1) i | false => true) o.after.toList with
            | true => ih (i + 1)
            | false => false) l (k + 1)
        | false => false) = true := hk
      split at hk
      · rename_i hall
        cases m with
        | zero =>
          simp at ho
          subst ho
          have := (allL_iff _ _).1 hall e he
          rw [hb] at this
          have := ble_iff.1 this
          omega
        | succ m =>
          have := ih (k + 1) hk m o (by simpa using ho) e he hb
          omega
      · cases hk
  obtain ⟨o, ho, e, he, hb, rfl⟩ := hd
  have := go ops.toList 0 h i o (by simpa using ho) e he hb
  omega
/-- do two operations use slots apart? -/
def ApartS (ops : Array Oper) (x y : Oper) : Prop := (∀ d, x.dst = some d → d ∉ readsOf ops y ∧ y.dst ≠ some d) ∧ ∀ d, y.dst = some d → d ∉ readsOf ops x
theorem apartO_ok {ops : Array Oper} {x y : Oper} (h : apartO ops x y = true) : ApartS ops x y := by
  unfold apartO at h
  split at h
  · cases h
  · rename_i h1
    constructor
    · intro d hd
      rw [hd] at h1
      dsimp only at h1
      split at h1
      · cases h1
      · rename_i h2
        refine ⟨fun q => ?_, fun q => ?_⟩
        · rw [(memL_iff _ _).2 q] at h2; cases h2
        · rw [q] at h1
          have h1 : bnot (Nat.beq d d) = true := h1
          rw [Nat.beq_refl] at h1; cases h1
    · intro d hd
      rw [hd] at h
      have h : bnot (memL d (readsOf ops x)) = true := h
      intro q
      rw [(memL_iff _ _).2 q] at h; cases h
theorem tmpsOk_ok {ops : Array Oper} (h : tmpsOk ops = true) {j i : Nat} {x y : Oper} (hji : j < i) (hx : ops[j]? = some x) (hy : ops[i]? = some y) (ho : ordB ops j i = false) : ApartS ops x y := by
  have pair : ∀ (done : List (Nat × Oper)) (o : Oper) (i : Nat), (lrec true (fun (jx : Nat × Oper) _ ih => match ordB ops jx.1 i with
      | true => ih
      | false => match apartO ops jx.2 o with | true => ih | false => false) done) = true → ∀ p ∈ done, ordB ops p.1 i = false → apartO ops p.2 o = true := by
    intro done o i
    induction done with
    | nil => intro _ p hp; cases hp
    | cons q done ih =>
      intro hq p hp ho
      have hq : (match ordB ops q.1 i with
        | true => lrec true (fun (jx : Nat × Oper) _ ih => match ordB ops jx.1 i with
            | true => ih
            | false => match apartO ops jx.2 o with | true => ih | false => false) done
        | false => match apartO ops q.2 o with
          | true => lrec true (fun (jx : Nat × Oper) _ ih => match ordB ops jx.1 i with
            | true => ih
            | false => match apartO ops jx.2 o with | true => ih | false => false) done
          | false => false) = true := hq
      rcases List.mem_cons.1 hp with rfl | hp
      · rw [ho] at hq
        dsimp only at hq
        split at hq
        · assumption
        · cases hq
      · split at hq
        · exact ih hq p hp ho
        · split at hq
          · exact ih hq p hp ho
          · cases hq
  have go : ∀ (l : List Oper) (done : List (Nat × Oper)) (k : Nat), (lrec (fun _ _ => true) (fun (o : Oper) _ ih (done : List (Nat × Oper)) (i : Nat) => match lrec true (fun (jx : Nat × Oper) _ ih => match ordB ops jx.1 i with
      | true => ih
      | false => match apartO ops jx.2 o with | true => ih | false => false) done with
      | false => false
      | true => ih ((i, o) :: done) (i + 1)) l done k) = true → ∀ m y, l[m]? = some y → ∀ p, (p ∈ done ∨ ∃ m', m' < m ∧ ∃ o, l[m']? = some o ∧ p = (k + m', o)) → ordB ops p.1 (k + m) = false → apartO ops p.2 y = true := by
    intro l
    induction l with
    | nil => intro done k _ m y hy; simp at hy
    | cons o l ih =>
      intro done k hk m y hy p hp hord
      have hk : (match lrec true (fun (jx : Nat × Oper) _ ih => match ordB ops jx.1 k with
        | true => ih
        | false => match apartO ops jx.2 o with | true => ih | false => false) done with
        | false => false
        | true => lrec (fun _ _ => true) (fun (o : Oper) _ ih (done : List (Nat × Oper)) (i : Nat) => match lrec true (fun (jx : Nat × Oper) _ ih => match ordB ops jx.1 i with
            | true => ih
            | false => match apartO ops jx.2 o with | true => ih | false => false) done with
            | false => false
            | true => ih ((i, o) :: done) (i + 1)) l ((k, o) :: done) (k + 1)) = true := hk
      split at hk
      · cases hk
      · rename_i hpair
        cases m with
        | zero =>
          simp at hy
          subst hy
          rcases hp with hp | ⟨m', hm', _⟩
          · exact pair done _ k hpair p hp hord
          · omega
        | succ m =>
          refine ih _ _ hk m y (by simpa using hy) p ?_ (by rw [Nat.add_assoc, Nat.add_comm 1 m]; exact hord)
          rcases hp with hp | ⟨m', hm', o', ho', rfl⟩
          · exact .inl (List.mem_cons_of_mem _ hp)
          · cases m' with
            | zero => simp at ho'; subst ho'; exact .inl (List.mem_cons_self ..)
            | succ m' => exact .inr ⟨m', by omega, o', by simpa using ho', by rw [Nat.add_assoc, Nat.add_comm 1 m']⟩
  have := go ops.toList [] 0 h i y (by simpa using hy) (j, x) (.inr ⟨j, hji, x, by simpa using hx, by simp⟩) (by simpa using ho)
  exact apartO_ok this
end Go.Proofs.YthfkajaeikhloaaGreatDoor.Xq

/-! Regions that draw their order: the run in the order of the text. -/
namespace Go.Proofs.YthfkajaeikhloaaGreatDoor.Xq
open Go

/-- what an operation that is carried out has done -/
structure Info where
  view : St
  v : AV
  out : St
  wr : List Nat
  tch : List Nat
  call : Bool
structure RunOk (P : Program) (call : CallT) (ops : Array Oper) (i : Nat) (recs : List Rec) (o : Oper) (s : St) (fr : Fr) (s' : St) (f : Info) : Prop where
  wanted : ∀ g, o.guard = some g → wantedA ops fr g = some true
  step : stepOp o.op P call Res ansRes fr f.view (fun v s => .ok v s) = .ok f.v f.out
  nint : f.out.sy.nint = s.sy.nint
  nextLe : s.next ≤ f.out.next
  viewNext : f.view.next = s.next
  viewSy : f.view.sy = s.sy
  viewBase : f.view.base = s.base ∨ (f.view.base = s.next ∧ f.wr = [])
  viewIn : ∀ b o, hget f.view b = some o → hget s b = some o
  viewTch : f.call = false → ∀ b, hget f.view b ≠ none → b ∈ f.tch
  viewHid : f.call = true → ∀ b, hget f.view b ≠ none → b ∉ hiddenOf ops recs i
  callWr : f.call = true → ∀ b ∈ f.wr, b ∉ hiddenOf ops recs i
  wrTch : ∀ b ∈ f.wr, b ∈ f.tch
  wrLt : ∀ b ∈ f.wr, b < s.next
  wrBase : ∀ b ∈ f.wr, s.base ≤ b
  baseLe : f.view.base ≤ s.next
  owned : ∀ b, hget f.view b ≠ none → f.view.base ≤ b → b < s.next → b ∈ f.wr
  pairs : ∀ r ∈ recs, ordB ops r.i i = false → (f.call = false → (∀ x ∈ f.tch, x ∉ r.wr) ∧ ∀ x ∈ f.tch, x < r.lo ∨ r.hi ≤ x) ∧ (r.call = true → ∀ x ∈ f.wr, r.hi ≤ x) ∧ (r.call = false → ∀ x ∈ f.wr, x ∉ r.tch)
  afterN : s'.next = f.out.next
  afterB : s'.base = s.base
  afterS : s'.sy = s.sy
  afterI : ∀ b, (b ∈ f.wr ∨ (s.next ≤ b ∧ b < f.out.next)) → hget s' b = hget f.out b
  afterO : ∀ b, ¬ (b ∈ f.wr ∨ (s.next ≤ b ∧ b < f.out.next)) → hget s' b = hget s b ∨ (hget s' b = hget f.out b ∧ (b < s.next → hget f.view b = hget s b ∧ (b < f.view.base ∨ hget f.view b = none)))
def recOf (i : Nat) (s : St) (f : Info) : Rec := ⟨i, s.next, f.out.next, f.wr, f.call, f.tch⟩
/-- one operation in the order of the text: none: it isn't carried out -/
def OneOk (P : Program) (call : CallT) (ops : Array Oper) (i : Nat) (recs : List Rec) (o : Oper) (s : St) (fr : Fr) (s' : St) (fr' : Fr) (recs' : List Rec) : Option Info → Prop
  | none => (∃ g, o.guard = some g ∧ wantedA ops fr g = some false) ∧ s' = s ∧ fr' = putF fr o.dst undefA ∧ recs' = recs
  | some f => RunOk P call ops i recs o s fr s' f ∧ fr' = putF fr o.dst f.v ∧ recs' = recOf i s f :: recs

/-! ### pairs of operations -/
theorem pairsOk_ok {ops : Array Oper} {recs : List Rec} {i : Nat} {cl : Bool} {tch wr : List Nat} (h : pairsOk ops recs i cl tch wr = true) {r : Rec} (hr : r ∈ recs) (ho : ordB ops r.i i = false) :
    (cl = false → (∀ x ∈ tch, x ∉ r.wr) ∧ ∀ x ∈ tch, x < r.lo ∨ r.hi ≤ x) ∧ (r.call = true → ∀ x ∈ wr, r.hi ≤ x) ∧ (r.call = false → ∀ x ∈ wr, x ∉ r.tch) := by
  unfold pairsOk at h
  rw [allL_iff] at h
  have h := h r hr
  rw [ho] at h
  dsimp only at h
  split at h
  · cases h
  · rename_i h1
    refine ⟨fun q => ?_, fun q => ?_, fun q => ?_⟩
    · subst q
      dsimp only at h1
      split at h1
      · rename_i h2
        exact ⟨disjL_iff.1 h2, outOf_iff.1 h1⟩
      · cases h1
    · rw [q] at h
      have h : allL (fun x => Nat.ble r.hi x) wr = true := h
      rw [allL_iff] at h
      exact fun x hx => ble_iff.1 (h x hx)
    · rw [q] at h
      exact disjL_iff.1 h
theorem hidden_ok {ops : Array Oper} {recs : List Rec} {i : Nat} {r : Rec} (hr : r ∈ recs) (ho : ordB ops r.i i = false) {b : Nat} (hb : b ∈ r.wr ∨ (r.lo ≤ b ∧ b < r.hi)) : b ∈ hiddenOf ops recs i := by
  induction recs with
  | nil => cases hr
  | cons q recs ih =>
    have e : hiddenOf ops (q :: recs) i = (match ordB ops q.i i with | true => hiddenOf ops recs i | false => appL q.wr (appL (rangeL q.lo q.hi) (hiddenOf ops recs i))) := rfl
    rw [e]
    rcases List.mem_cons.1 hr with rfl | hr
    · rw [ho]
      dsimp only
      rw [appL_eq, appL_eq, List.mem_append, List.mem_append]
      rcases hb with hb | hb
      · exact .inl hb
      · exact .inr (.inl (rangeL_mem.2 hb))
    · have := ih hr
      cases ordB ops q.i i with
      | true => exact this
      | false =>
        dsimp only
        rw [appL_eq, appL_eq, List.mem_append, List.mem_append]
        exact .inr (.inr this)

theorem hiddenB_sub {ops : Array Oper} {i : Nat} : ∀ {recs : List Rec} {b : Nat}, b ∈ hiddenOf ops recs i → b ∈ hiddenB ops recs i
  | [], b, h => by cases h
  | q :: recs, b, h => by
    have e1 : hiddenOf ops (q :: recs) i = (match ordB ops q.i i with | true => hiddenOf ops recs i | false => appL q.wr (appL (rangeL q.lo q.hi) (hiddenOf ops recs i))) := rfl
    have e2 : hiddenB ops (q :: recs) i = (match ordB ops q.i i with | true => hiddenB ops recs i | false => appL q.tch (appL q.wr (appL (rangeL q.lo q.hi) (hiddenB ops recs i)))) := rfl
    rw [e1] at h
    rw [e2]
    cases hq : ordB ops q.i i with
    | true => rw [hq] at h; exact hiddenB_sub h
    | false =>
      rw [hq] at h
      simp only [appL_eq, List.mem_append] at h ⊢
      rcases h with h | h | h
      · exact .inr (.inl h)
      · exact .inr (.inr (.inl h))
      · exact .inr (.inr (.inr (hiddenB_sub h)))
theorem hiddenB_tch {ops : Array Oper} {i : Nat} : ∀ {recs : List Rec} {r : Rec} {b : Nat}, r ∈ recs → ordB ops r.i i = false → b ∈ r.tch → b ∈ hiddenB ops recs i
  | [], _, _, h, _, _ => by cases h
  | q :: recs, r, b, h, ho, hb => by
    have e2 : hiddenB ops (q :: recs) i = (match ordB ops q.i i with | true => hiddenB ops recs i | false => appL q.tch (appL q.wr (appL (rangeL q.lo q.hi) (hiddenB ops recs i)))) := rfl
    rw [e2]
    rcases List.mem_cons.1 h with rfl | h
    · rw [ho]
      simp only [appL_eq, List.mem_append]
      exact .inl hb
    · have := hiddenB_tch h ho hb
      cases ordB ops q.i i with
      | true => exact this
      | false =>
        simp only [appL_eq, List.mem_append]
        exact .inr (.inr (.inr this))
theorem bigOk_ok {ops : Array Oper} {recs : List Rec} {i : Nat} (h : bigOk ops recs i = true) {r : Rec} (hr : r ∈ recs) (ho : ordB ops r.i i = false) : r.call = false := by
  unfold bigOk at h
  split at h
  · cases h
  · rename_i q
    have := (allL_iff _ _).1 q r hr
    rw [ho] at this
    cases hc : r.call with
    | false => rfl
    | true => rw [hc] at this; cases this
theorem ownL_mem {h : Tr AObj} {m n : Nat} {hid : List Nat} {b : Nat} : b ∈ ownL h m n hid ↔ (m ≤ b ∧ b < n) ∧ b ∉ hid ∧ h.get (pathOf b) ≠ none := by
  have go : ∀ l : List Nat, b ∈ (lrec [] (fun b _ ih => match memL b hid with | true => ih | false => match h.get (pathOf b) with | some _ => b :: ih | none => ih) l : List Nat) ↔ b ∈ l ∧ b ∉ hid ∧ h.get (pathOf b) ≠ none := by
    intro l
    induction l with
    | nil => constructor
             · intro q; cases q
             · intro q; cases q.1
    | cons x l ih =>
      have e : (lrec [] (fun b _ ih => match memL b hid with | true => ih | false => match h.get (pathOf b) with | some _ => b :: ih | none => ih) (x :: l) : List Nat) =
        (match memL x hid with | true => (lrec [] (fun b _ ih => match memL b hid with | true => ih | false => match h.get (pathOf b) with | some _ => b :: ih | none => ih) l : List Nat) | false => match h.get (pathOf x) with | some _ => x :: (lrec [] (fun b _ ih => match memL b hid with | true => ih | false => match h.get (pathOf b) with | some _ => b :: ih | none => ih) l : List Nat) | none => (lrec [] (fun b _ ih => match memL b hid with | true => ih | false => match h.get (pathOf b) with | some _ => b :: ih | none => ih) l : List Nat)) := rfl
      rw [e]
      cases hm : memL x hid with
      | true =>
        have hm := (memL_iff _ _).1 hm
        dsimp only
        rw [ih, List.mem_cons]
        constructor
        · rintro ⟨a, c⟩; exact ⟨.inr a, c⟩
        · rintro ⟨a, c⟩
          rcases a with rfl | a
          · exact absurd hm c.1
          · exact ⟨a, c⟩
      | false =>
        have hm : x ∉ hid := fun q => by rw [(memL_iff _ _).2 q] at hm; cases hm
        cases hx : h.get (pathOf x) with
        | none =>
          dsimp only
          rw [ih, List.mem_cons]
          constructor
          · rintro ⟨a, c⟩; exact ⟨.inr a, c⟩
          · rintro ⟨a, c⟩
            rcases a with rfl | a
            · exact absurd hx c.2
            · exact ⟨a, c⟩
        | some o =>
          dsimp only
          rw [List.mem_cons, ih, List.mem_cons]
          constructor
          · rintro (rfl | ⟨a, c⟩)
            · exact ⟨.inl rfl, hm, by rw [hx]; simp⟩
            · exact ⟨.inr a, c⟩
          · rintro ⟨a, c⟩
            rcases a with rfl | a
            · exact .inl rfl
            · exact .inr ⟨a, c⟩
  have e : ownL h m n hid = (lrec [] (fun b _ ih => match memL b hid with | true => ih | false => match h.get (pathOf b) with | some _ => b :: ih | none => ih) (rangeL m n) : List Nat) := rfl
  rw [e, go, rangeL_mem]
theorem underL_mem {n b : Nat} : ∀ {l : List Nat}, b ∈ underL n l ↔ b ∈ l ∧ b < n
  | [] => by
    constructor
    · intro q; cases q
    · rintro ⟨q, _⟩; cases q
  | x :: l => by
    have e : underL n (x :: l) = (match Nat.ble (x + 1) n with | true => x :: underL n l | false => underL n l) := rfl
    rw [e]
    cases q : Nat.ble (x + 1) n with
    | true =>
      have q := ble_iff.1 q
      dsimp only
      rw [List.mem_cons, List.mem_cons, underL_mem]
      constructor
      · rintro (rfl | ⟨a, c⟩)
        · exact ⟨.inl rfl, q⟩
        · exact ⟨.inr a, c⟩
      · rintro ⟨rfl | a, c⟩
        · exact .inl rfl
        · exact .inr ⟨a, c⟩
    | false =>
      have q : ¬ x + 1 ≤ n := fun k => by rw [ble_iff.2 k] at q; cases q
      dsimp only
      rw [List.mem_cons, underL_mem]
      constructor
      · rintro ⟨a, c⟩; exact ⟨.inr a, c⟩
      · rintro ⟨rfl | a, c⟩
        · omega
        · exact ⟨a, c⟩
section
variable {P : Program} {call : CallT} {ops : Array Oper}

theorem needOf_ne {s s2 sF : St} {frF : Fr} (h : needOf s s2 = .ok sF frF) : False := by
  unfold needOf at h
  split at h
  · split at h
    · cases h
    · split at h <;> cases h
  · cases h
theorem wrOk_ok {n m : Nat} {tch wr : List Nat} (h : wrOk n m tch wr = true) (hw : wr ≠ []) : m ≤ n ∧ (∀ b ∈ wr, b < n ∧ m ≤ b) ∧ ∀ b ∈ tch, m ≤ b → b ∈ wr := by
  unfold wrOk at h
  split at h
  · exact absurd rfl hw
  · split at h
    · cases h
    · rename_i h0
      split at h
      · cases h
      · rename_i h1
        rw [allL_iff] at h1 h
        refine ⟨ble_iff.1 h0, fun b hb => ?_, fun b hb hm => ?_⟩
        · have := h1 b hb
          split at this
          · rename_i q; exact ⟨ble_iff.1 q, ble_iff.1 this⟩
          · cases this
        · have := h b hb
          rw [ble_iff.2 hm] at this
          exact (memL_iff _ _).1 this
theorem nn_ok {a b c d : Nat} (h : (match Nat.beq a b with | true => Nat.ble c d | false => false) = true) : a = b ∧ c ≤ d := by
  split at h
  · exact ⟨Nat.eq_of_beq_eq_true (by assumption), ble_iff.1 h⟩
  · cases h
theorem drawOne_ok {o : Oper} {ih : Nat → List Rec → St → Fr → DRes} {i : Nat} {recs : List Rec} {s : St} {fr : Fr} {sF : St} {frF : Fr} (h : drawOne P call ops o ih i recs s fr = .ok sF frF) :
    ∃ s' fr' recs' f, OneOk P call ops i recs o s fr s' fr' recs' f ∧ ih (i + 1) recs' s' fr' = .ok sF frF := by
  unfold drawOne at h
  have hg : (∃ b, orec (some true) (fun g => wantedA ops fr g) o.guard = some b) ∧ ∀ b, orec (some true) (fun g => wantedA ops fr g) o.guard = some b →
      (b = true → ∀ g, o.guard = some g → wantedA ops fr g = some true) ∧ (b = false → ∃ g, o.guard = some g ∧ wantedA ops fr g = some false) := by
    constructor
    · cases hq : orec (some true) (fun g => wantedA ops fr g) o.guard with
      | none => rw [hq] at h; cases h
      | some b => exact ⟨b, rfl⟩
    · intro b hb
      cases hgu : o.guard with
      | none =>
        rw [hgu] at hb
        have hb : some true = some b := hb
        cases hb
        exact ⟨fun _ g q => (by cases q), fun q => (by cases q)⟩
      | some g =>
        rw [hgu] at hb
        have hb : wantedA ops fr g = some b := hb
        refine ⟨fun q g' hg' => ?_, fun q => ⟨g, rfl, ?_⟩⟩
        · cases hg'; rw [hb, q]
        · rw [hb, q]
  obtain ⟨⟨b, hb⟩, hg⟩ := hg
  have hgb := hg b hb
  rw [hb] at h
  cases b with
  | false => exact ⟨s, putF fr o.dst undefA, recs, none, ⟨hgb.2 rfl, rfl, rfl, rfl⟩, h⟩
  | true =>
    have hw := hgb.1 rfl
    dsimp only at h
    split at h
    · split at h
      · rename_i hbig
        obtain ⟨hh, n, m, y⟩ := s
        dsimp only at h
        split at h
        · cases h
        · rename_i hmn
          have hmn := ble_iff.1 hmn
          split at h
          · rename_i v s2 hst
            split at h
            · rename_i hnn
              have hnn := nn_ok hnn
              obtain ⟨h2, n2, m2, y2⟩ := s2
              have hnn1 : y2.nint = y.nint := hnn.1
              have hnn2 : n ≤ n2 := hnn.2
              have vw : ∀ b, (hideT (hiddenB ops recs i) hh).get (pathOf b) = if b ∈ hiddenB ops recs i then none else hh.get (pathOf b) := fun b => hideT_get ..
              have own : ∀ {b}, b ∈ ownL hh m n (hiddenB ops recs i) ↔ (m ≤ b ∧ b < n) ∧ b ∉ hiddenB ops recs i ∧ hh.get (pathOf b) ≠ none := fun {b} => ownL_mem
              refine ⟨⟨copyT hh (underL n (hiddenB ops recs i)) h2, n2, m, y⟩, _, _, some ⟨⟨hideT (hiddenB ops recs i) hh, n, m, y⟩, v, ⟨h2, n2, m2, y2⟩, ownL hh m n (hiddenB ops recs i), ownL hh m n (hiddenB ops recs i), true⟩,
                ⟨⟨hw, hst, hnn1, hnn2, rfl, rfl, .inl rfl, ?_, fun q => (by cases q), ?_, ?_, fun b hb => hb, fun b hb => (own.1 hb).1.2, fun b hb => (own.1 hb).1.1, hmn, ?_, ?_, rfl, rfl, rfl, ?_, ?_⟩, rfl, rfl⟩, h⟩
              · intro b o hb
                have hb : (hideT (hiddenB ops recs i) hh).get (pathOf b) = some o := hb
                rw [vw] at hb
                split at hb
                · cases hb
                · exact hb
              · intro _ b hb hm
                apply hb
                show (hideT (hiddenB ops recs i) hh).get (pathOf b) = none
                rw [vw, if_pos (hiddenB_sub hm)]
              · intro _ b hb hm
                exact (own.1 hb).2.1 (hiddenB_sub hm)
              · intro b hb h1 h3
                have hb : (hideT (hiddenB ops recs i) hh).get (pathOf b) ≠ none := hb
                rw [vw] at hb
                split at hb
                · exact absurd rfl hb
                · rename_i hnh
                  exact own.2 ⟨⟨h1, h3⟩, hnh, hb⟩
              · intro r hr ho
                refine ⟨fun q => (by cases q), fun q => ?_, fun _ x hx hm => (own.1 hx).2.1 (hiddenB_tch hr ho hm)⟩
                rw [bigOk_ok hbig hr ho] at q; cases q
              · rintro b hb
                show (copyT hh (underL n (hiddenB ops recs i)) h2).get (pathOf b) = h2.get (pathOf b)
                rw [copyT_get, if_neg]
                rw [underL_mem]
                rintro ⟨q1, q2⟩
                rcases hb with hb | hb
                · exact (own.1 hb).2.1 q1
                · have := hb.1
                  simp only at this
                  omega
              · intro b hb
                by_cases q : b ∈ hiddenB ops recs i ∧ b < n
                · left
                  show (copyT hh (underL n (hiddenB ops recs i)) h2).get (pathOf b) = hh.get (pathOf b)
                  rw [copyT_get, if_pos (underL_mem.2 q)]
                · right
                  refine ⟨?_, fun hlt => ?_⟩
                  · show (copyT hh (underL n (hiddenB ops recs i)) h2).get (pathOf b) = h2.get (pathOf b)
                    rw [copyT_get, if_neg (fun k => q (underL_mem.1 k))]
                  · have hlt : b < n := hlt
                    have hnh : b ∉ hiddenB ops recs i := fun k => q ⟨k, hlt⟩
                    have hv : (hideT (hiddenB ops recs i) hh).get (pathOf b) = hh.get (pathOf b) := by rw [vw, if_neg hnh]
                    refine ⟨hv, ?_⟩
                    by_cases hm : b < m
                    · exact .inl hm
                    · right
                      show (hideT (hiddenB ops recs i) hh).get (pathOf b) = none
                      rw [hv]
                      cases hg : hh.get (pathOf b) with
                      | none => rfl
                      | some o => exact absurd (.inl (own.2 ⟨⟨by omega, hlt⟩, hnh, by rw [hg]; simp⟩)) hb
            · exact (needOf_ne h).elim
          · cases h
          · cases h
      split at h
      · cases h
      · rename_i hp
        split at h
        · rename_i v s2 hst
          split at h
          · rename_i hnn
            have hnn := nn_ok hnn
            obtain ⟨hh, n, m, y⟩ := s
            obtain ⟨h2, n2, m2, y2⟩ := s2
            refine ⟨⟨copyT h2 (rangeL n n2) hh, n2, m, y⟩, _, _, some ⟨⟨hideT (hiddenOf ops recs i) hh, n, n, y⟩, v, ⟨h2, n2, m2, y2⟩, [], [], true⟩, ⟨⟨hw, hst, hnn.1, hnn.2, rfl, rfl, .inr ⟨rfl, rfl⟩, ?_, fun q => (by cases q), ?_, fun _ b hb => (by cases hb), fun b hb => hb, fun b hb => (by cases hb), fun b hb => (by cases hb), Nat.le_refl _, ?_, fun r hr ho => pairsOk_ok hp hr ho, rfl, rfl, rfl, ?_, ?_⟩, rfl, rfl⟩, h⟩
            · intro b o hb
              have hb : (hideT (hiddenOf ops recs i) hh).get (pathOf b) = some o := hb
              rw [hideT_get] at hb
              split at hb
              · cases hb
              · exact hb
            · intro _ b hb hm
              apply hb
              show (hideT (hiddenOf ops recs i) hh).get (pathOf b) = none
              rw [hideT_get, if_pos hm]
            · intro b _ h1 h2
              have h1 : n ≤ b := h1
              have h2 : b < n := h2
              omega
            · rintro b (hb | hb)
              · cases hb
              · show (copyT _ _ _).get (pathOf b) = _
                rw [copyT_get, if_pos (rangeL_mem.2 hb)]
                rfl
            · intro b hb
              left
              show (copyT _ _ _).get (pathOf b) = _
              rw [copyT_get, if_neg (fun q => hb (.inr (rangeL_mem.1 q)))]
              rfl
          · exact (needOf_ne h).elim
        · cases h
        · cases h
    · split at h
      · cases h
      · rename_i hp
        split at h
        · cases h
        · rename_i hwr
          split at h
          · rename_i v s2 hst
            split at h
            · rename_i hnn
              have hnn := nn_ok hnn
              obtain ⟨hh, n, m, y⟩ := s
              obtain ⟨h2, n2, m2, y2⟩ := s2
              simp only [appL_eq] at h hst hp hwr
              generalize touchOf P ⟨hh, n, m, y⟩ fr o.op = t at *
              try dsimp only at h
              try dsimp only at hst
              try dsimp only at hp
              try dsimp only at hwr
              generalize aboveL m t.2 = wr at *
              have htw : ∀ b ∈ wr, b ∈ wr ++ (t.2 ++ (t.1 ++ globsOf o.op.operands.toList)) := fun b hb => List.mem_append.2 (.inl hb)
              generalize wr ++ (t.2 ++ (t.1 ++ globsOf o.op.operands.toList)) = tch at *
              have hW := fun q => wrOk_ok hwr q
              refine ⟨⟨copyT h2 (wr ++ rangeL n n2) hh, n2, m, y⟩, _, _, some ⟨⟨copyT hh tch .leaf, n, baseOf n m wr, y⟩, v, ⟨h2, n2, m2, y2⟩, wr, tch, false⟩,
                ⟨⟨hw, hst, hnn.1, hnn.2, rfl, rfl, ?_, ?_, ?_, fun q => (by cases q), fun q => (by cases q), htw, ?_, ?_, ?_, ?_, fun r hr ho => pairsOk_ok hp hr ho, rfl, rfl, rfl, ?_, ?_⟩, rfl, rfl⟩, h⟩
              · cases ht : wr with
                | nil => exact .inr ⟨rfl, rfl⟩
                | cons => exact .inl rfl
              · intro b o' hb
                have hb : (copyT hh _ .leaf).get (pathOf b) = some o' := hb
                rw [copyT_get] at hb
                split at hb
                · exact hb
                · rw [get_leaf] at hb; cases hb
              · intro _ b hb
                have hb : (copyT hh _ .leaf).get (pathOf b) ≠ none := hb
                rw [copyT_get] at hb
                split at hb
                · assumption
                · exact absurd (get_leaf b) hb
              · intro b hb
                exact ((hW fun q => by rw [q] at hb; cases hb).2.1 b hb).1
              · intro b hb
                exact ((hW fun q => by rw [q] at hb; cases hb).2.1 b hb).2
              · show baseOf n m wr ≤ n
                by_cases q : wr = []
                · rw [q]; exact Nat.le_refl _
                · unfold baseOf
                  split
                  · exact Nat.le_refl _
                  · exact (hW q).1
              · intro b hb h1 h2
                have hb : (copyT hh _ .leaf).get (pathOf b) ≠ none := hb
                rw [copyT_get] at hb
                split at hb
                · rename_i hm
                  have h1 : baseOf n m wr ≤ b := h1
                  have h2 : b < n := h2
                  by_cases q : wr = []
                  · rw [q] at h1
                    have h1 : n ≤ b := h1
                    omega
                  · refine (hW q).2.2 b hm ?_
                    unfold baseOf at h1
                    split at h1
                    · first | exact absurd rfl q | exact absurd (by assumption) q
                    · exact h1
                · exact absurd (get_leaf b) hb
              · intro b hb
                show (copyT _ _ _).get (pathOf b) = _
                rw [copyT_get, if_pos (by rw [List.mem_append, rangeL_mem]; exact hb)]
                rfl
              · intro b hb
                left
                show (copyT _ _ _).get (pathOf b) = _
                rw [copyT_get, if_neg (fun q => hb (by rw [List.mem_append, rangeL_mem] at q; exact q))]
                rfl
            · exact (needOf_ne h).elim
          · cases h
          · cases h
/-- the run in the order of the text -/
theorem trace_of : ∀ (l : List Oper) (i : Nat) (recs : List Rec) (s : St) (fr : Fr) (sF : St) (frF : Fr), ops.toList.drop i = l → i ≤ ops.size → drawFrom P call ops l i recs s fr = .ok sF frF →
    ∃ (T : Nat → St) (F : Nat → Fr) (C : Nat → List Rec) (I : Nat → Option Info), T i = s ∧ F i = fr ∧ C i = recs ∧ T ops.size = sF ∧ F ops.size = frF ∧
      ∀ j, i ≤ j → ∀ o, ops[j]? = some o → OneOk P call ops j (C j) o (T j) (F j) (T (j + 1)) (F (j + 1)) (C (j + 1)) (I j)
  | [], i, recs, s, fr, sF, frF, hl, hi, h => by
    cases h
    have : i = ops.size := by
      have := congrArg List.length hl
      simp at this; omega
    subst this
    refine ⟨fun _ => s, fun _ => fr, fun _ => recs, fun _ => none, rfl, rfl, rfl, rfl, rfl, fun j hj o ho => ?_⟩
    have := (Array.getElem?_eq_some_iff.1 ho).1
    omega
  | o :: l, i, recs, s, fr, sF, frF, hl, hi, h => by
    have ho : ops[i]? = some o := by
      have := congrArg (·[0]?) hl
      simpa using this
    have hlt := (Array.getElem?_eq_some_iff.1 ho).1
    have h : drawOne P call ops o (drawFrom P call ops l) i recs s fr = .ok sF frF := h
    obtain ⟨s', fr', recs', f, h1, h2⟩ := drawOne_ok h
    obtain ⟨T, F, C, I, t1, t2, t3, t4, t5, t6⟩ := trace_of l (i + 1) recs' s' fr' sF frF (by
      have := congrArg (List.drop 1) hl
      simpa [List.drop_drop, Nat.add_comm] using this) (by omega) h2
    refine ⟨fun k => if k = i then s else T k, fun k => if k = i then fr else F k, fun k => if k = i then recs else C k, fun k => if k = i then f else I k, by simp, by simp, by simp, ?_, ?_, ?_⟩
    · dsimp only; rw [if_neg (by omega)]; exact t4
    · dsimp only; rw [if_neg (by omega)]; exact t5
    · intro j hj o' ho'
      dsimp only
      by_cases q : j = i
      · subst q
        rw [ho] at ho'; cases ho'
        simp only [if_true]
        rw [if_neg (by omega), if_neg (by omega), if_neg (by omega), t1, t2, t3]
        exact h1
      · rw [if_neg q, if_neg q, if_neg q, if_neg q, if_neg (by omega), if_neg (by omega), if_neg (by omega)]
        exact t6 j (by omega) o' ho'
end
end Go.Proofs.YthfkajaeikhloaaGreatDoor.Xq

/-! Regions that draw their order: what any order keeps. -/
namespace Go.Proofs.YthfkajaeikhloaaGreatDoor.Xq
open Go

/-! ### names cut off -/
def Env.cut (E : Env) (n : Nat) : Env := { E with ρ := fun b => if b < n then E.ρ b else none }
theorem Env.cut_ρ {E : Env} {n b : Nat} {p : Nat × Nat} (h : (E.cut n).ρ b = some p) : b < n ∧ E.ρ b = some p := by
  simp only [Env.cut] at h
  split at h
  · rename_i q; exact ⟨q, h⟩
  · cases h
theorem Env.cut_lt {E : Env} {n b : Nat} (h : b < n) : (E.cut n).ρ b = E.ρ b := by simp [Env.cut, h]
theorem Ext.cut (E : Env) (n : Nat) : Ext (E.cut n) E := ⟨fun b p h => (Env.cut_ρ h).2, fun _ _ h => h, rfl⟩
mutual
theorem VR.cut {E G : Env} {n : Nat} (hn : ∀ b, n ≤ b → G.ρ b = none) : ∀ {a : AV} {v u : Value}, VR E a v → VR G a u → VR (E.cut n) a v
  | .any, _, _, _, _ => trivial
  | .bool _, _, _, k, _ => k
  | .int _ _, _, _, k, _ => k
  | .sym _, _, _, k, _ => k
  | .str _ _, _, _, k, _ => k
  | .strs _ _, _, _, k, _ => k
  | .ptr b _, _, _, ⟨r, c, e, k⟩, ⟨r', c', e', _⟩ => ⟨r, c, by rw [Env.cut_lt (lt_of_some hn e')]; exact e, k⟩
  | .ptrI b _ _ _, _, _, ⟨r, c, m, e, q, k⟩, ⟨r', c', _, e', _⟩ => ⟨r, c, m, by rw [Env.cut_lt (lt_of_some hn e')]; exact e, q, k⟩
  | .optr b, _, _, ⟨r, c, e, k⟩, ⟨r', c', e', _⟩ => ⟨r, c, by rw [Env.cut_lt (lt_of_some hn e')]; exact e, k⟩
  | .nilp, _, _, k, _ => k
  | .slice b _ _ _, _, _, ⟨r, c, e, k⟩, ⟨r', c', e', _⟩ => ⟨r, c, by rw [Env.cut_lt (lt_of_some hn e')]; exact e, k⟩
  | .sliceT b _ _ _, _, _, ⟨r, c, cap, e, k⟩, ⟨r', c', _, e', _⟩ => ⟨r, c, cap, by rw [Env.cut_lt (lt_of_some hn e')]; exact e, k⟩
  | .nils, _, _, k, _ => k
  | .emp, _, _, k, _ => k
  | .map b, _, _, ⟨r, c, e, k⟩, ⟨r', c', e', _⟩ => ⟨r, c, by rw [Env.cut_lt (lt_of_some hn e')]; exact e, k⟩
  | .nilm, _, _, k, _ => k
  | .func _ _, _, _, ⟨vs, e, k⟩, ⟨us, e', k'⟩ => ⟨vs, e, VRL.cut hn k k'⟩
  | .nilf, _, _, k, _ => k
  | .yld b, _, _, ⟨r, c, e, k⟩, ⟨r', c', e', _⟩ => ⟨r, c, by rw [Env.cut_lt (lt_of_some hn e')]; exact e, k⟩
  | .iface _ _, _, _, ⟨y, e, k⟩, ⟨y', e', k'⟩ => ⟨y, e, VR.cut hn k k'⟩
  | .nili, _, _, k, _ => k
  | .agg _, _, _, ⟨vs, e, k⟩, ⟨us, e', k'⟩ => ⟨vs, e, VRL.cut hn k k'⟩
  | .tuple _, _, _, ⟨vs, e, k⟩, ⟨us, e', k'⟩ => ⟨vs, e, VRL.cut hn k k'⟩
theorem VRL.cut {E G : Env} {n : Nat} (hn : ∀ b, n ≤ b → G.ρ b = none) : ∀ {l : List AV} {vs us : List Value}, VRL E l vs → VRL G l us → VRL (E.cut n) l vs
  | [], _, _, k, _ => k
  | _ :: _, _, _, ⟨x, xs, e, k, m⟩, ⟨x', xs', e', k', m'⟩ => ⟨x, xs, e, VR.cut hn k k', VRL.cut hn m m'⟩
theorem lt_of_some {G : Env} {n b : Nat} {p : Nat × Nat} (hn : ∀ b, n ≤ b → G.ρ b = none) (h : G.ρ b = some p) : b < n := by
  rcases Nat.lt_or_ge b n with g | g
  · exact g
  · rw [hn b g] at h; cases h
end
theorem MR.cut {E G : Env} {n : Nat} (hn : ∀ b, n ≤ b → G.ρ b = none) : ∀ {l : List (AV × AV)} {es fs : List MapEntry}, MR E l es → MR G l fs → MR (E.cut n) l es
  | [], _, _, k, _ => k
  | _ :: _, _, _, ⟨e, r, q, a, b, k⟩, ⟨e', r', q', a', b', k'⟩ => ⟨e, r, q, a.cut hn a', b.cut hn b', MR.cut hn k k'⟩
theorem OR.cut {E G : Env} {n : Nat} (hn : ∀ b, n ≤ b → G.ρ b = none) {o : AObj} {r c r' c' : Nat} {w w' : World} (h : OR E o r c w) (g : OR G o r' c' w') : OR (E.cut n) o r c w := by
  cases o with
  | cells l t full =>
    obtain ⟨cs, vs, rest, h1, h2, h3, h4⟩ := h
    obtain ⟨cs', vs', rest', g1, g2, g3, g4⟩ := g
    exact ⟨cs, vs, rest, h1, h2, h3.cut hn g3, h4⟩
  | map es =>
    obtain ⟨ms, clock, h1, h2, h3⟩ := h
    obtain ⟨ms', clock', g1, g2, _⟩ := g
    exact ⟨ms, clock, h1, h2.cut hn g2, h3⟩
  | loop n fr ps ca cb jump =>
    obtain ⟨rec, h1, h2, h3⟩ := h
    obtain ⟨rec', g1, g2, g3⟩ := g
    refine ⟨rec, h1, fun t v ht => ?_, h3⟩
    obtain ⟨x, hx, hv⟩ := h2 t v ht
    obtain ⟨x', hx', hv'⟩ := g2 t v ht
    exact ⟨x, hx, hv.cut hn hv'⟩

/-- the operation k changes the block b, or makes it -/
def Chg (T : Nat → St) (I : Nat → Option Info) (k b : Nat) : Prop := ∃ f, I k = some f ∧ (b ∈ f.wr ∨ ((T k).next ≤ b ∧ b < f.out.next))
theorem lawfulRes (v : AV) (s : St) : Lawful ansRes (fun r => r = Res.ok v s) := ⟨fun m h => (by cases h), fun q a b h => (by cases h)⟩
/-- one operation, in the order of the text: what it leaves is known, and what it doesn't change stays -/
theorem one_seq {P : Program} {call : CallT} {ops : Array Oper} {T : Nat → St} {I : Nat → Option Info} {i : Nat} {recs : List Rec} {o : Oper} {fr : Fr} {f : Info} (hC : CallOk P call) (hI : I i = some f) (R : RunOk P call ops i recs o (T i) fr (T (i + 1)) f)
    {E : Env} {w : World} {a : Act} (hR : Rel P E (T i) w) (hF : FrRel E fr a.tmps) :
    ∃ E' x w', Rel P E' (T (i + 1)) w' ∧ VR E' f.v x ∧ Ext E E' ∧ (∀ b, ¬ Chg T I i b → hget (T (i + 1)) b = hget (T i) b) ∧ ∀ b, b < (T i).next → (b < (T i).base ∨ hget (T i) b = none) → hget (T (i + 1)) b = hget (T i) b := by
  have hRv : Rel P E f.view w := ⟨fun b o hb => hR.heap b o (R.viewIn b o hb), fun b b' o o' r c c' h1 h2 => hR.inj b b' o o' r c c' (R.viewIn b o h1) (R.viewIn b' o' h2), fun b hb => hR.fresh b (by rwa [R.viewNext] at hb), hR.glob, by rw [R.viewNext]; exact hR.next, by rw [R.viewSy]; exact hR.sy⟩
  obtain ⟨v, s', E', x, w', h1, h2, h3, h4⟩ := (step_ok (lawfulRes f.v f.out) hC hRv (fun y _ => evalO_ok hRv hF y) R.step).ex
  cases h4
  have vnext : f.view.next = (T i).next := R.viewNext
  have chg : ∀ b, Chg T I i b ↔ (b ∈ f.wr ∨ ((T i).next ≤ b ∧ b < f.out.next)) := fun b => by
    constructor
    · rintro ⟨f', hf', hc⟩
      rw [hI] at hf'; cases hf'; exact hc
    · intro hc; exact ⟨f, hI, hc⟩
  have outLt : ∀ {b o}, hget f.out b = some o → b < f.out.next := fun {b o} hb => by
    obtain ⟨r, c, e, _⟩ := h2.heap b o hb
    exact lt_of_some h2.fresh e
  have inLt : ∀ {b o}, hget (T i) b = some o → b < (T i).next := fun {b o} hb => by
    obtain ⟨r, c, e, _⟩ := hR.heap b o hb
    exact lt_of_some hR.fresh e
  have stay : ∀ b, ¬ Chg T I i b → hget (T (i + 1)) b = hget (T i) b := fun b hb => by
    rw [chg] at hb
    rcases R.afterO b hb with q | ⟨q1, q2⟩
    · exact q
    · by_cases hlt : b < (T i).next
      · obtain ⟨q3, q4⟩ := q2 hlt
        rw [q1, h3.low b (by rw [vnext]; exact hlt) q4, q3]
      · rw [q1]
        cases g1 : hget f.out b with
        | some o => exact absurd (.inr ⟨by omega, outLt g1⟩) hb
        | none =>
          cases g2 : hget (T i) b with
          | some o => exact absurd (inLt g2) hlt
          | none => rfl
  have low : ∀ b, b < (T i).next → (b < (T i).base ∨ hget (T i) b = none) → hget (T (i + 1)) b = hget (T i) b := fun b hb hor => by
    by_cases q : Chg T I i b
    · rw [chg] at q
      rcases q with q | q
      · rcases hor with hor | hor
        · have := R.wrBase b q; omega
        · have hv : hget f.view b = none := by
            cases g : hget f.view b with
            | none => rfl
            | some o0 => rw [R.viewIn b o0 g] at hor; cases hor
          rw [R.afterI b (.inl q), h3.low b (by rw [vnext]; exact hb) (.inr hv), hv, hor]
      · omega
    · exact stay b q
  -- an object afterwards: made or changed by the operation, or as it was
  have cases2 : ∀ b o, hget (T (i + 1)) b = some o → (Chg T I i b ∧ hget f.out b = some o) ∨ (¬ Chg T I i b ∧ hget (T i) b = some o) := fun b o hb => by
    by_cases q : Chg T I i b
    · left
      refine ⟨q, ?_⟩
      rw [← R.afterI b ((chg b).1 q)]; exact hb
    · right
      exact ⟨q, by rw [← stay b q]; exact hb⟩
  have oldρ : ∀ {b}, b < (T i).next → E'.ρ b = E.ρ b := fun {b} hb => h3.old b (by rw [vnext]; exact hb)
  -- what is changed and was there before was seen
  have seen : ∀ {b o}, b ∈ f.wr → hget f.out b = some o → ∃ o0, hget (T i) b = some o0 := fun {b o} hb ho => by
    cases g : hget f.view b with
    | some o0 => exact ⟨o0, R.viewIn b o0 g⟩
    | none =>
      rw [h3.low b (by rw [vnext]; exact R.wrLt b hb) (.inr g), g] at ho
      cases ho
  have ownChg : ∀ {b0 o0}, hget f.view b0 = some o0 → f.view.base ≤ b0 → Chg T I i b0 := fun {b0 o0} h h' => by
    rw [chg]
    exact .inl (R.owned b0 (by rw [h]; simp) h' (inLt (R.viewIn b0 o0 h)))
  have kept : ∀ {b o r c}, ¬ Chg T I i b → hget (T i) b = some o → E.ρ b = some (r, c) → r < w.heap.size → w'.heap[r]? = w.heap[r]? := fun {b o r c} hb ho hr hlt => by
    refine h3.keep r hlt fun b0 o0 c0 h0 hbase e0 => ?_
    have := hR.inj b0 b o0 o r c0 c (R.viewIn b0 o0 h0) ho e0 hr
    subst this
    exact hb (ownChg h0 hbase)
  refine ⟨E', x, w', ⟨fun b o hb => ?_, fun b b' o o' r c c' g1 g2 e1 e2 => ?_, fun b hb => h2.fresh b (by rwa [R.afterN] at hb), h2.glob, by rw [R.afterN]; exact h2.next, ?_⟩, h1, h3.ext, stay, low⟩
  · rcases cases2 b o hb with ⟨_, q⟩ | ⟨q0, q⟩
    · exact h2.heap b o q
    · obtain ⟨r, c, e, hO⟩ := hR.heap b o q
      exact ⟨r, c, h3.ext.ρ _ _ e, (hO.mono h3.ext).world (kept q0 q e hO.lt)⟩
  · -- a changed one and one as it was are not the same row
    have mix : ∀ {b b' o o' r c c'}, Chg T I i b → hget f.out b = some o → ¬ Chg T I i b' → hget (T i) b' = some o' → E'.ρ b = some (r, c) → E'.ρ b' = some (r, c') → False := fun {b b' o o' r c c'} k1 k2 k3 k4 k5 k6 => by
      have hb' := inLt k4
      rw [oldρ hb'] at k6
      rcases (chg b).1 k1 with q | q
      · obtain ⟨o0, q0⟩ := seen q k2
        rw [oldρ (inLt q0)] at k5
        have := hR.inj _ _ _ _ _ _ _ q0 k4 k5 k6
        subst this
        exact k3 k1
      · obtain ⟨r', c2, e, hO⟩ := hR.heap b' o' k4
        rw [k6] at e; cases e
        obtain ⟨b0, o0, c0, z1, z2, z3⟩ := h3.dom b o r c k2 (by rw [h3.base]; exact Nat.le_trans R.baseLe q.1) k5 hO.lt
        have := hR.inj _ _ _ _ _ _ _ (R.viewIn b0 o0 z1) k4 z3 k6
        subst this
        exact k3 (ownChg z1 z2)
    rcases cases2 b o g1 with ⟨p0, p1⟩ | ⟨p0, p1⟩ <;> rcases cases2 b' o' g2 with ⟨q0, q1⟩ | ⟨q0, q1⟩
    · exact h2.inj b b' o o' r c c' p1 q1 e1 e2
    · exact (mix p0 p1 q0 q1 e1 e2).elim
    · exact (mix q0 q1 p0 p1 e2 e1).elim
    · rw [oldρ (inLt p1)] at e1
      rw [oldρ (inLt q1)] at e2
      exact hR.inj b b' o o' r c c' p1 q1 e1 e2
  · rw [R.afterS]
    have ext := h3.ext
    refine ⟨fun j hj => h2.sy.fresh j (by rw [R.nint]; exact hj), fun j lo hi' hj => ?_, fun m hm => ?_, fun j l m' hj => ?_, fun j ls hj => ?_⟩
    · obtain ⟨m, e, g⟩ := hR.sy.ints j lo hi' hj
      exact ⟨m, ext.σ _ _ e, g⟩
    · obtain ⟨p, q, k1, k2, k3, k4⟩ := hR.sy.memo m hm
      refine ⟨p, q, ?_, ?_, ext.σ _ _ k3, k4⟩
      · cases hx : m.x <;> rw [hx] at k1
        · exact k1
        · exact ext.σ _ _ k1
      · cases hx : m.y <;> rw [hx] at k2
        · exact k2
        · exact ext.σ _ _ k2
    · rw [ext.ς]; exact hR.sy.known j l m' hj
    · rw [ext.ς]; exact hR.sy.excl j ls hj
/-- the run in the order of the text: each operation leaves as it was what it doesn't change -/
theorem seq_ok {P : Program} {call : CallT} {ops : Array Oper} {T : Nat → St} {F : Nat → Fr} {C : Nat → List Rec} {I : Nat → Option Info} (hone : ∀ j o, ops[j]? = some o → OneOk P call ops j (C j) o (T j) (F j) (T (j + 1)) (F (j + 1)) (C (j + 1)) (I j))
    (hC : CallOk P call) {n : Nat} (hd : dstsOk n ops = true) {E0 : Env} {w0 : World} {a0 : Act} (hR0 : Rel P E0 (T 0) w0) (hF0 : FrRel E0 (F 0) a0.tmps) (hn : a0.tmps.size = n) : ∀ i, i ≤ ops.size →
    (∃ (E : Env) (a : Act) (w : World), Rel P E (T i) w ∧ FrRel E (F i) a.tmps ∧ a.tmps.size = n) ∧ ∀ k, k < i → (∀ b, ¬ Chg T I k b → hget (T (k + 1)) b = hget (T k) b) ∧ ∀ b, b < (T k).next → (b < (T k).base ∨ hget (T k) b = none) → hget (T (k + 1)) b = hget (T k) b
  | 0, _ => ⟨⟨E0, a0, w0, hR0, hF0, hn⟩, fun k hk => absurd hk (Nat.not_lt_zero k)⟩
  | i + 1, hi => by
    obtain ⟨⟨E, a, w, hR, hF, hna⟩, hst⟩ := seq_ok hone hC hd hR0 hF0 hn i (by omega)
    obtain ⟨o, ho⟩ : ∃ o, ops[i]? = some o := ⟨ops[i], by simp⟩
    have one := hone i o ho
    cases hI : I i with
    | none =>
      rw [hI] at one
      obtain ⟨_, e1, e2, _⟩ := one
      refine ⟨⟨E, a.put o.dst undef, w, by rw [e1]; exact hR, by rw [e2]; exact FrRel.put hF o.dst (VR.undef E) fun d hdd => by rw [hna]; exact dstsOk_get hd ho hdd, by rw [put_size, hna]⟩, fun k hk => ?_⟩
      by_cases q : k = i
      · subst q; rw [e1]; exact ⟨fun _ _ => rfl, fun _ _ _ => rfl⟩
      · exact hst k (by omega)
    | some f =>
      rw [hI] at one
      obtain ⟨R, e2, _⟩ := one
      obtain ⟨E', x, w', g1, g2, g3, g4⟩ := one_seq hC hI R hR hF
      refine ⟨⟨E', a.put o.dst x, w', g1, by rw [e2]; exact FrRel.put (hF.mono g3) o.dst g2 fun d hdd => by rw [hna]; exact dstsOk_get hd ho hdd, by rw [put_size, hna]⟩, fun k hk => ?_⟩
      by_cases q : k = i
      · subst q; exact g4
      · exact hst k (by omega)

/-! ### the run in the order of the text -/
structure Tra (P : Program) (call : CallT) (ops : Array Oper) (T : Nat → St) (F : Nat → Fr) (C : Nat → List Rec) (I : Nat → Option Info) : Prop where
  one : ∀ j o, ops[j]? = some o → OneOk P call ops j (C j) o (T j) (F j) (T (j + 1)) (F (j + 1)) (C (j + 1)) (I j)
  start : C 0 = []
  slots : tmpsOk ops = true
  back : backOk ops = true
  stay : ∀ k, k < ops.size → ∀ b, ¬ Chg T I k b → hget (T (k + 1)) b = hget (T k) b
  low1 : ∀ k, k < ops.size → ∀ b, b < (T k).next → (b < (T k).base ∨ hget (T k) b = none) → hget (T (k + 1)) b = hget (T k) b
section
variable {P : Program} {call : CallT} {ops : Array Oper} {T : Nat → St} {F : Nat → Fr} {C : Nat → List Rec} {I : Nat → Option Info}

theorem op_at {j : Nat} (h : j < ops.size) : ∃ o, ops[j]? = some o := ⟨ops[j], by simp [h]⟩
theorem Tra.run (t : Tra P call ops T F C I) {j : Nat} {o : Oper} (ho : ops[j]? = some o) {f : Info} (hf : I j = some f) : RunOk P call ops j (C j) o (T j) (F j) (T (j + 1)) f ∧ F (j + 1) = putF (F j) o.dst f.v ∧ C (j + 1) = recOf j (T j) f :: C j := by
  have := t.one j o ho
  rw [hf] at this
  exact this
theorem Tra.skip (t : Tra P call ops T F C I) {j : Nat} {o : Oper} (ho : ops[j]? = some o) (hf : I j = none) : (∃ g, o.guard = some g ∧ wantedA ops (F j) g = some false) ∧ T (j + 1) = T j ∧ F (j + 1) = putF (F j) o.dst undefA ∧ C (j + 1) = C j := by
  have := t.one j o ho
  rw [hf] at this
  exact this
theorem Tra.recs (t : Tra P call ops T F C I) {j i : Nat} (hi : i ≤ ops.size) (hji : j < i) {f : Info} (hf : I j = some f) : recOf j (T j) f ∈ C i := by
  induction i with
  | zero => omega
  | succ i ih =>
    obtain ⟨o, ho⟩ := op_at (ops := ops) (j := i) (by omega)
    by_cases q : j = i
    · subst q
      rw [(t.run ho hf).2.2]
      exact List.mem_cons_self ..
    · have := ih (by omega) (by omega)
      cases hI : I i with
      | none => rw [(t.skip ho hI).2.2.2]; exact this
      | some g => rw [(t.run ho hI).2.2]; exact List.mem_cons_of_mem _ this
/-- the operation i sees the block b -/
def Vis (I : Nat → Option Info) (i b : Nat) : Prop := ∃ f, I i = some f ∧ hget f.view b ≠ none
theorem Tra.next_out (t : Tra P call ops T F C I) {j : Nat} (hj : j < ops.size) {f : Info} (hf : I j = some f) : (T (j + 1)).next = f.out.next := by
  obtain ⟨o, ho⟩ := op_at hj
  exact (t.run ho hf).1.afterN
theorem Tra.base (t : Tra P call ops T F C I) {i : Nat} (hi : i ≤ ops.size) : (T i).base = (T 0).base ∧ (T i).sy = (T 0).sy := by
  induction i with
  | zero => exact ⟨rfl, rfl⟩
  | succ i ih =>
    obtain ⟨o, ho⟩ := op_at (ops := ops) (j := i) (by omega)
    have ih := ih (by omega)
    cases hI : I i with
    | none => rw [(t.skip ho hI).2.1]; exact ih
    | some f =>
      have R := (t.run ho hI).1
      exact ⟨R.afterB.trans ih.1, R.afterS.trans ih.2⟩
theorem Tra.mono1 (t : Tra P call ops T F C I) {j : Nat} (hj : j < ops.size) : (T j).next ≤ (T (j + 1)).next := by
  obtain ⟨o, ho⟩ := op_at hj
  cases hI : I j with
  | none => rw [(t.skip ho hI).2.1]; exact Nat.le_refl _
  | some f => rw [t.next_out hj hI]; exact (t.run ho hI).1.nextLe
theorem Tra.mono (t : Tra P call ops T F C I) {j i : Nat} (h : j ≤ i) (hi : i ≤ ops.size) : (T j).next ≤ (T i).next := by
  induction i with
  | zero => have : j = 0 := by omega
            subst this; exact Nat.le_refl _
  | succ i ih =>
    by_cases q : j = i + 1
    · subst q; exact Nat.le_refl _
    · exact Nat.le_trans (ih (by omega) (by omega)) (t.mono1 (by omega))
/-- what isn't changed stays -/
theorem Tra.same1 (t : Tra P call ops T F C I) {k : Nat} (hk : k < ops.size) {b : Nat} (h : ¬ Chg T I k b) : hget (T (k + 1)) b = hget (T k) b := t.stay k hk b h
theorem Tra.low (t : Tra P call ops T F C I) {b : Nat} (hb : b < (T 0).next) (hor : b < (T 0).base ∨ hget (T 0) b = none) : ∀ {i : Nat}, i ≤ ops.size → hget (T i) b = hget (T 0) b
  | 0, _ => rfl
  | i + 1, hi => by
    have ih := t.low hb hor (i := i) (by omega)
    refine (t.low1 i (by omega) b (Nat.lt_of_lt_of_le hb (t.mono (Nat.zero_le _) (by omega))) ?_).trans ih
    rcases hor with q | q
    · exact .inl (by rw [(t.base (by omega)).1]; exact q)
    · exact .inr (by rw [ih]; exact q)
theorem Tra.same (t : Tra P call ops T F C I) {b : Nat} : ∀ {m m' : Nat}, m ≤ m' → m' ≤ ops.size → (∀ k, m ≤ k → k < m' → ¬ Chg T I k b) → hget (T m') b = hget (T m) b := by
  intro m m' h hm hc
  induction m' with
  | zero => have : m = 0 := by omega
            subst this; rfl
  | succ i ih =>
    by_cases q : m = i + 1
    · subst q; rfl
    · rw [t.same1 (by omega) (hc i (by omega) (by omega))]
      exact ih (by omega) (by omega) fun k h1 h2 => hc k h1 (by omega)
theorem Tra.chg_out (t : Tra P call ops T F C I) {k : Nat} (hk : k < ops.size) {b : Nat} {f : Info} (hI : I k = some f) (h : Chg T I k b) : hget (T (k + 1)) b = hget f.out b := by
  obtain ⟨o, ho⟩ := op_at hk
  obtain ⟨f', hI', h⟩ := h
  rw [hI] at hI'; cases hI'
  exact (t.run ho hI).1.afterI b h
theorem dstOf_some {k : Nat} {o : Oper} (ho : ops[k]? = some o) : dstOf ops k = o.dst := by unfold dstOf; rw [ho]
theorem Tra.slot1 (t : Tra P call ops T F C I) {k : Nat} (hk : k < ops.size) {d : Nat} (h : dstOf ops k ≠ some d) : (F (k + 1)).get (pathOf d) = (F k).get (pathOf d) := by
  obtain ⟨o, ho⟩ := op_at hk
  rw [dstOf_some ho] at h
  have put : ∀ v, (putF (F k) o.dst v).get (pathOf d) = (F k).get (pathOf d) := by
    intro v
    cases hd : o.dst with
    | none => rfl
    | some e =>
      show (Tr.set (some v) (pathOf e) (F k)).get (pathOf d) = _
      rw [Tr.get_set_of, if_neg]
      rintro rfl
      exact h hd
  cases hI : I k with
  | none => rw [(t.skip ho hI).2.2.1]; exact put _
  | some f => rw [(t.run ho hI).2.1]; exact put _
theorem Tra.slot (t : Tra P call ops T F C I) {d : Nat} : ∀ {m m' : Nat}, m ≤ m' → m' ≤ ops.size → (∀ k, m ≤ k → k < m' → dstOf ops k ≠ some d) → (F m').get (pathOf d) = (F m).get (pathOf d) := by
  intro m m' h hm hc
  induction m' with
  | zero => have : m = 0 := by omega
            subst this; rfl
  | succ i ih =>
    by_cases q : m = i + 1
    · subst q; rfl
    · rw [t.slot1 (by omega) (hc i (by omega) (by omega))]
      exact ih (by omega) (by omega) fun k h1 h2 => hc k h1 (by omega)

/-! ### operations that aren't ordered -/
/-- an earlier operation changes what a later one sees: they are ordered -/
theorem Tra.p1 (t : Tra P call ops T F C I) {j i : Nat} (hi : i < ops.size) (hji : j < i) (ho : ordB ops j i = false) {b : Nat} (hc : Chg T I j b) (hv : Vis I i b) : False := by
  obtain ⟨f, hf, hc⟩ := hc
  obtain ⟨g, hg, hv⟩ := hv
  obtain ⟨o, hoi⟩ := op_at hi
  have hr := t.recs (by omega) hji hf
  have R := (t.run hoi hg).1
  cases hcall : g.call with
  | true => exact R.viewHid hcall b hv (hidden_ok hr ho hc)
  | false =>
    have hp := (R.pairs _ hr ho).1 hcall
    have hb := R.viewTch hcall b hv
    rcases hc with hc | hc
    · exact hp.1 b hb hc
    · have := hp.2 b hb
      simp only [recOf] at this
      omega
/-- a later operation changes what an earlier one sees: they are ordered -/
theorem Tra.p2 (t : Tra P call ops T F C I) {i k : Nat} (hk : k < ops.size) (hik : i < k) (ho : ordB ops i k = false) {b : Nat} (hb : b < (T i).next) (hv : Vis I i b) (hc : Chg T I k b) : False := by
  obtain ⟨f, hf, hv⟩ := hv
  obtain ⟨g, hg, hc⟩ := hc
  obtain ⟨o, hok⟩ := op_at hk
  obtain ⟨oi, hoi⟩ := op_at (ops := ops) (j := i) (by omega)
  have hr := t.recs (by omega) hik hf
  have R := (t.run hok hg).1
  have Ri := (t.run hoi hf).1
  have m1 := t.mono1 (j := i) (by omega)
  have m2 := t.mono (j := i + 1) (i := k) (by omega) (by omega)
  have e := t.next_out (by omega) hf
  rcases hc with hc | hc
  · have hp := (R.pairs _ hr ho).2
    cases hcall : f.call with
    | true =>
      have := hp.1 hcall b hc
      simp only [recOf] at this
      omega
    | false => exact hp.2 hcall b hc (Ri.viewTch hcall b hv)
  · omega
/-- two operations change one block: they are ordered -/
theorem Tra.p3 (t : Tra P call ops T F C I) {j i : Nat} (hi : i < ops.size) (hji : j < i) (ho : ordB ops j i = false) {b : Nat} (hc : Chg T I j b) (hd : Chg T I i b) : False := by
  obtain ⟨f, hf, hc⟩ := hc
  obtain ⟨g, hg, hd⟩ := hd
  obtain ⟨o, hoi⟩ := op_at hi
  obtain ⟨oj, hoj⟩ := op_at (ops := ops) (j := j) (by omega)
  have hr := t.recs (by omega) hji hf
  have R := (t.run hoi hg).1
  have Rj := (t.run hoj hf).1
  have m1 := t.mono1 (j := j) (by omega)
  have m2 := t.mono (j := j + 1) (i := i) (by omega) (by omega)
  have e := t.next_out (by omega) hf
  rcases hd with hd | hd
  · cases hcall : g.call with
    | true => exact R.callWr hcall b hd (hidden_ok hr ho hc)
    | false =>
      have hp := (R.pairs _ hr ho).1 hcall
      have hb := R.wrTch b hd
      rcases hc with hc | hc
      · exact hp.1 b hb hc
      · have := hp.2 b hb
        simp only [recOf] at this
        omega
  · rcases hc with hc | hc
    · have := Rj.wrLt b hc
      omega
    · omega
end
end Go.Proofs.YthfkajaeikhloaaGreatDoor.Xq

/-! Regions that draw their order: the invariant. -/
namespace Go.Proofs.YthfkajaeikhloaaGreatDoor.Xq
open Go

section
variable {P : Program} {call : CallT} {ops : Array Oper} {T : Nat → St} {F : Nat → Fr} {C : Nat → List Rec} {I : Nat → Option Info} {S : Nat → Prop}

/-- of the operations that change b, those before m are carried out -/
def Sync (ops : Array Oper) (T : Nat → St) (I : Nat → Option Info) (S : Nat → Prop) (b m : Nat) : Prop := m ≤ ops.size ∧ ∀ k, k < ops.size → Chg T I k b → (S k ↔ k < m)
def SyncT (ops : Array Oper) (S : Nat → Prop) (d m : Nat) : Prop := m ≤ ops.size ∧ ∀ k, k < ops.size → dstOf ops k = some d → (S k ↔ k < m)
def Also (S : Nat → Prop) (i : Nat) : Nat → Prop := fun k => S k ∨ k = i

theorem Tra.sync_eq (t : Tra P call ops T F C I) {b m m' : Nat} (h : Sync ops T I S b m) (h' : Sync ops T I S b m') : hget (T m) b = hget (T m') b := by
  have go : ∀ {m m' : Nat}, m ≤ m' → Sync ops T I S b m → Sync ops T I S b m' → hget (T m) b = hget (T m') b := by
    intro m m' hle h h'
    refine (t.same hle h'.1 fun k h1 h2 hc => ?_).symm
    have g1 := h.2 k (by have := h'.1; omega) hc
    have g2 := h'.2 k (by have := h'.1; omega) hc
    have := g1.1 (g2.2 h2)
    omega
  rcases Nat.le_total m m' with g | g
  · exact go g h h'
  · exact (go g h' h).symm
theorem Tra.syncT_eq (t : Tra P call ops T F C I) {d m m' : Nat} (h : SyncT ops S d m) (h' : SyncT ops S d m') : (F m).get (pathOf d) = (F m').get (pathOf d) := by
  have go : ∀ {m m' : Nat}, m ≤ m' → SyncT ops S d m → SyncT ops S d m' → (F m).get (pathOf d) = (F m').get (pathOf d) := by
    intro m m' hle h h'
    refine (t.slot hle h'.1 fun k h1 h2 hc => ?_).symm
    have g1 := h.2 k (by have := h'.1; omega) hc
    have g2 := h'.2 k (by have := h'.1; omega) hc
    have := g1.1 (g2.2 h2)
    omega
  rcases Nat.le_total m m' with g | g
  · exact go g h h'
  · exact (go g h' h).symm
/-- what an operation sees is as it was in the order of the text -/
theorem Tra.see (t : Tra P call ops T F C I) (hS : Closed ops S) {i : Nat} (hi : i < ops.size) (hni : ¬ S i) (hpre : ∀ m, Dir ops m i → S m) {b : Nat} (hb : b < (T i).next) (hv : Vis I i b) : Sync ops T I S b i := by
  refine ⟨by omega, fun k hk hc => ?_⟩
  rcases Nat.lt_trichotomy k i with g | g | g
  · refine ⟨fun _ => g, fun _ => ?_⟩
    cases ho : ordB ops k i with
    | true => exact ordB_ok ho hS hpre
    | false => exact (t.p1 hi g ho hc hv).elim
  · subst g
    exact ⟨fun q => (hni q).elim, fun q => absurd q (Nat.lt_irrefl _)⟩
  · refine ⟨fun q => ?_, fun q => by omega⟩
    cases ho : ordB ops i k with
    | true => exact (hni (ordB_ok ho hS fun m hm => hS k q m hm)).elim
    | false => exact (t.p2 hk g ho hb hv hc).elim
theorem Tra.seeT (t : Tra P call ops T F C I) (hS : Closed ops S) {i : Nat} (hni : ¬ S i) (hpre : ∀ m, Dir ops m i → S m) {o : Oper} (ho : ops[i]? = some o) {d : Nat} (hd : d ∈ readsOf ops o) : SyncT ops S d i := by
  have hi := (Array.getElem?_eq_some_iff.1 ho).1
  refine ⟨by omega, fun k hk hc => ?_⟩
  obtain ⟨ok, hok⟩ := op_at hk
  rw [dstOf_some hok] at hc
  rcases Nat.lt_trichotomy k i with g | g | g
  · refine ⟨fun _ => g, fun _ => ?_⟩
    cases hq : ordB ops k i with
    | true => exact ordB_ok hq hS hpre
    | false => exact (((tmpsOk_ok t.slots g hok ho hq).1 d hc).1 hd).elim
  · subst g
    exact ⟨fun q => (hni q).elim, fun q => absurd q (Nat.lt_irrefl _)⟩
  · refine ⟨fun q => ?_, fun q => by omega⟩
    cases hq : ordB ops i k with
    | true => exact (hni (ordB_ok hq hS fun m hm => hS k q m hm)).elim
    | false => exact ((tmpsOk_ok t.slots g ho hok hq).2 d hc hd).elim
theorem Tra.chgSync (t : Tra P call ops T F C I) (hS : Closed ops S) {i : Nat} (hi : i < ops.size) (hni : ¬ S i) (hpre : ∀ m, Dir ops m i → S m) {b : Nat} (hc : Chg T I i b) : Sync ops T I (Also S i) b (i + 1) := by
  refine ⟨by omega, fun k hk hck => ?_⟩
  rcases Nat.lt_trichotomy k i with g | g | g
  · refine ⟨fun _ => by omega, fun _ => .inl ?_⟩
    cases ho : ordB ops k i with
    | true => exact ordB_ok ho hS hpre
    | false => exact (t.p3 hi g ho hck hc).elim
  · subst g
    exact ⟨fun q => by omega, fun q => .inr rfl⟩
  · refine ⟨fun q => ?_, fun q => by omega⟩
    rcases q with q | q
    · cases ho : ordB ops i k with
      | true => exact (hni (ordB_ok ho hS fun m hm => hS k q m hm)).elim
      | false => exact (t.p3 hk g ho hc hck).elim
    · omega
theorem Tra.dstSync (t : Tra P call ops T F C I) (hS : Closed ops S) {i : Nat} (hni : ¬ S i) (hpre : ∀ m, Dir ops m i → S m) {o : Oper} (ho : ops[i]? = some o) {d : Nat} (hd : o.dst = some d) : SyncT ops (Also S i) d (i + 1) := by
  have hi := (Array.getElem?_eq_some_iff.1 ho).1
  refine ⟨by omega, fun k hk hc => ?_⟩
  obtain ⟨ok, hok⟩ := op_at hk
  rw [dstOf_some hok] at hc
  rcases Nat.lt_trichotomy k i with g | g | g
  · refine ⟨fun _ => by omega, fun _ => .inl ?_⟩
    cases hq : ordB ops k i with
    | true => exact ordB_ok hq hS hpre
    | false => exact (((tmpsOk_ok t.slots g hok ho hq).1 d hc).2 hd).elim
  · subst g
    exact ⟨fun q => by omega, fun q => .inr rfl⟩
  · refine ⟨fun q => ?_, fun q => by omega⟩
    rcases q with q | q
    · cases hq : ordB ops i k with
      | true => exact (hni (ordB_ok hq hS fun m hm => hS k q m hm)).elim
      | false => exact (((tmpsOk_ok t.slots g ho hok hq).1 d hd).2 hc).elim
    · omega
theorem Sync.also {i b m : Nat} (h : Sync ops T I S b m) (hc : ¬ Chg T I i b) : Sync ops T I (Also S i) b m :=
  ⟨h.1, fun k hk hck => by
    have := h.2 k hk hck
    refine ⟨fun q => ?_, fun q => .inl (this.2 q)⟩
    rcases q with q | q
    · exact this.1 q
    · subst q; exact (hc hck).elim⟩
theorem SyncT.also {i d m : Nat} (h : SyncT ops S d m) (hc : dstOf ops i ≠ some d) : SyncT ops (Also S i) d m :=
  ⟨h.1, fun k hk hck => by
    have := h.2 k hk hck
    refine ⟨fun q => ?_, fun q => .inl (this.2 q)⟩
    rcases q with q | q
    · exact this.1 q
    · subst q; exact (hc hck).elim⟩

/-! ### the invariant -/
structure Inv (P : Program) (ops : Array Oper) (T : Nat → St) (F : Nat → Fr) (I : Nat → Option Info) (n : Nat) (ds : List Deferred) (E0 : Env) (w0 : World) (S : Nat → Prop) (E : Env) (a : Act) (w : World) : Prop where
  ext : Ext E0 E
  old : ∀ b, b < (T 0).next → E.ρ b = E0.ρ b
  dom : ∀ b p, E.ρ b = some p → b < (T 0).next ∨ ∃ k, k < ops.size ∧ S k ∧ (T k).next ≤ b ∧ b < (T (k + 1)).next
  sy : SyOk E (T 0).sy
  heap : ∀ b, ∃ m, Sync ops T I S b m ∧ ∀ o, hget (T m) b = some o → ∃ r c, E.ρ b = some (r, c) ∧ OR E o r c w
  inj : ∀ b b' m m' o o' r c c', Sync ops T I S b m → Sync ops T I S b' m' → hget (T m) b = some o → hget (T m') b' = some o' → E.ρ b = some (r, c) → E.ρ b' = some (r, c') → b = b'
  slots : ∀ d, ∃ m, SyncT ops S d m ∧ ∀ v, (F m).get (pathOf d) = some v → ∃ x, a.tmps[d]? = some x ∧ VR E v x
  size : a.tmps.size = n
  defers : a.defers = ds
  os : w.os = w0.os
  tape : w.tape = w0.tape
  output : w.output = w0.output
  wsize : w0.heap.size ≤ w.heap.size
  keep : ∀ r, r < w0.heap.size → (∀ b o c, hget (T 0) b = some o → (T 0).base ≤ b → E0.ρ b ≠ some (r, c)) → w.heap[r]? = w0.heap[r]?
  own : ∀ b m o r c, Sync ops T I S b m → hget (T m) b = some o → (T 0).base ≤ b → E.ρ b = some (r, c) → r < w0.heap.size → ∃ b0 o0 c0, hget (T 0) b0 = some o0 ∧ (T 0).base ≤ b0 ∧ E0.ρ b0 = some (r, c0)
variable {n : Nat} {ds : List Deferred} {E0 E : Env} {w0 w : World} {a : Act}
theorem Inv.at (h : Inv P ops T F I n ds E0 w0 S E a w) (t : Tra P call ops T F C I) {b m : Nat} {o : AObj} (hs : Sync ops T I S b m) (ho : hget (T m) b = some o) : ∃ r c, E.ρ b = some (r, c) ∧ OR E o r c w := by
  obtain ⟨m', hs', h'⟩ := h.heap b
  exact h' o (by rw [t.sync_eq hs' hs]; exact ho)
theorem Inv.slotAt (h : Inv P ops T F I n ds E0 w0 S E a w) (t : Tra P call ops T F C I) {d m : Nat} {v : AV} (hs : SyncT ops S d m) (hv : (F m).get (pathOf d) = some v) : ∃ x, a.tmps[d]? = some x ∧ VR E v x := by
  obtain ⟨m', hs', h'⟩ := h.slots d
  exact h' v (by rw [t.syncT_eq hs' hs]; exact hv)
theorem Inv.start (t : Tra P call ops T F C I) (hR : Rel P E0 (T 0) w0) (hf : FrRel E0 (F 0) a.tmps) (hn : a.tmps.size = n) (hd : a.defers = ds) : Inv P ops T F I n ds E0 w0 (fun _ => False) E0 a w0 := by
  have s0 : ∀ b, Sync ops T I (fun _ => False) b 0 := fun b => ⟨Nat.zero_le _, fun k _ _ => ⟨fun q => q.elim, fun q => absurd q (Nat.not_lt_zero _)⟩⟩
  refine ⟨Ext.refl _, fun _ _ => rfl, fun b p h => ?_, hR.sy, fun b => ⟨0, s0 b, fun o ho => hR.heap b o ho⟩, ?_, fun d => ⟨0, ⟨Nat.zero_le _, fun k _ _ => ⟨fun q => q.elim, fun q => absurd q (Nat.not_lt_zero _)⟩⟩, fun v hv => hf d v hv⟩, hn, hd, rfl, rfl, rfl, Nat.le_refl _, fun _ _ _ => rfl, ?_⟩
  · left
    exact lt_of_some hR.fresh h
  · intro b b' m m' o o' r c c' h1 h2 g1 g2 e1 e2
    rw [t.sync_eq h1 (s0 b)] at g1
    rw [t.sync_eq h2 (s0 b')] at g2
    exact hR.inj b b' o o' r c c' g1 g2 e1 e2
  · intro b m o r c h1 g1 hb e _
    rw [t.sync_eq h1 (s0 b)] at g1
    exact ⟨b, o, c, g1, hb, e⟩
/-- all is known of the state before i, when those before i have been carried out -/
theorem Inv.scope (h : Inv P ops T F I n ds E0 w0 S E a w) (t : Tra P call ops T F C I) (hR0 : Rel P E0 (T 0) w0) {i : Nat} (hi : i ≤ ops.size) (hS : ∀ k, k < ops.size → (S k ↔ k < i)) : Rel P E (T i) w ∧ FrRel E (F i) a.tmps := by
  have sy : ∀ b, Sync ops T I S b i := fun b => ⟨hi, fun k hk _ => hS k hk⟩
  have m0 := t.mono (Nat.zero_le i) hi
  refine ⟨⟨fun b o ho => h.at t (sy b) ho, fun b b' o o' r c c' h1 h2 e1 e2 => h.inj b b' i i o o' r c c' (sy b) (sy b') h1 h2 e1 e2, ?_, ?_, Nat.le_trans hR0.next m0, ?_⟩, fun d v hv => h.slotAt t ⟨hi, fun k hk _ => hS k hk⟩ hv⟩
  · intro b hb
    cases hq : E.ρ b with
    | none => rfl
    | some p =>
      rcases h.dom b p hq with g | ⟨k, hk, hSk, g1, g2⟩
      · omega
      · have := (hS k hk).1 hSk
        have := t.mono (j := k + 1) (i := i) (by omega) hi
        omega
  · intro g r c hg hr
    rw [h.old g (by have := hR0.next; omega)] at hr
    exact hR0.glob g r c hg hr
  · rw [(t.base hi).2]; exact h.sy
/-- what an operation sees, in any order -/
theorem Inv.view (h : Inv P ops T F I n ds E0 w0 S E a w) (t : Tra P call ops T F C I) (hR0 : Rel P E0 (T 0) w0) (hS : Closed ops S) {i : Nat} (hni : ¬ S i) (hpre : ∀ m, Dir ops m i → S m) {o : Oper} (ho : ops[i]? = some o)
    {f : Info} (hI : I i = some f) {G : Env} {wg : World} {ag : Act} (hG : Rel P G (T i) wg) (hF : FrRel G (F i) ag.tmps) :
    Rel P (E.cut (T i).next) f.view w ∧ (∀ x ∈ o.op.operands.toList, VR (E.cut (T i).next) (evalO P f.view (F i) x) (a.eval x)) ∧
    ∀ b o', hget f.view b = some o' → b < (T i).next ∧ Sync ops T I S b i ∧ hget (T i) b = some o' := by
  have hi := (Array.getElem?_eq_some_iff.1 ho).1
  have R := (t.run ho hI).1
  have vis : ∀ b o', hget f.view b = some o' → b < (T i).next ∧ Sync ops T I S b i ∧ hget (T i) b = some o' := fun b o' hb => by
    have hb' := R.viewIn b o' hb
    obtain ⟨r, c, e, _⟩ := hG.heap b o' hb'
    have hlt := lt_of_some hG.fresh e
    exact ⟨hlt, t.see hS hi hni hpre hlt ⟨f, hI, by rw [hb]; simp⟩, hb'⟩
  have m0 := t.mono (Nat.zero_le i) (by omega)
  have hRel : Rel P (E.cut (T i).next) f.view w := by
    refine ⟨fun b o' hb => ?_, fun b b' o1 o2 r c c' h1 h2 e1 e2 => ?_, fun b hb => ?_, fun g r c hg hr => ?_, ?_, ?_⟩
    · obtain ⟨hlt, hs, hb'⟩ := vis b o' hb
      obtain ⟨r, c, e, hO⟩ := h.at t hs hb'
      obtain ⟨r', c', e', hO'⟩ := hG.heap b o' hb'
      exact ⟨r, c, by rw [Env.cut_lt hlt]; exact e, hO.cut hG.fresh hO'⟩
    · obtain ⟨_, hs1, g1⟩ := vis b o1 h1
      obtain ⟨_, hs2, g2⟩ := vis b' o2 h2
      exact h.inj b b' i i o1 o2 r c c' hs1 hs2 g1 g2 (Env.cut_ρ e1).2 (Env.cut_ρ e2).2
    · rw [R.viewNext] at hb
      simp only [Env.cut]
      rw [if_neg (by omega)]
    · have hr := (Env.cut_ρ hr).2
      rw [h.old g (by have := hR0.next; omega)] at hr
      exact hR0.glob g r c hg hr
    · rw [R.viewNext]; exact Nat.le_trans hR0.next m0
    · rw [R.viewSy, (t.base (by omega)).2]
      exact ⟨h.sy.fresh, h.sy.ints, fun m hm => by
        obtain ⟨p, q, h1, h2, h3⟩ := h.sy.memo m hm
        refine ⟨p, q, ?_, ?_, h3⟩
        · cases hx : m.x <;> rw [hx] at h1 <;> exact h1
        · cases hx : m.y <;> rw [hx] at h2 <;> exact h2, h.sy.known, h.sy.excl⟩
  refine ⟨hRel, fun x hx => ?_, vis⟩
  have other : ∀ y : Operand, (∀ d, y ≠ .tmp d) → VR (E.cut (T i).next) (evalO P f.view (F i) y) (a.eval y) := by
    intro y hy
    have e : evalO P f.view (F i) y = evalO P f.view .leaf y := by cases y <;> first | rfl | exact absurd rfl (hy _)
    rw [e]
    exact evalO_ok hRel (fun d v hv => by rw [get_leaf] at hv; cases hv) y
  cases x with
  | tmp d =>
    show VR _ (orec .any (fun v => v) ((F i).get (pathOf d))) (a.tmps.getD d undef)
    cases hv : (F i).get (pathOf d) with
    | none => show VR (E.cut (T i).next) .any _; trivial
    | some v =>
      have hrd : d ∈ readsOf ops o := by
        unfold readsOf
        rw [appL_eq, List.mem_append]
        left
        have : ∀ l : List Operand, Operand.tmp d ∈ l → d ∈ tmpsOf l := by
          intro l
          induction l with
          | nil => intro q; cases q
          | cons y l ih =>
            intro q
            rcases List.mem_cons.1 q with q | q
            · subst q; exact List.mem_cons_self ..
            · have := ih q
              cases y <;> first | exact List.mem_cons_of_mem _ this | exact this
        exact this _ hx
      obtain ⟨y, hy, hvy⟩ := h.slotAt t (t.seeT hS hni hpre ho hrd) hv
      obtain ⟨y', _, hvy'⟩ := hF d v hv
      have : a.tmps.getD d undef = y := by simp [Array.getD_eq_getD_getElem?, hy]
      rw [this]
      exact hvy.cut hG.fresh hvy'
  | const v => exact other _ (fun d q => by cases q)
  | global g => exact other _ (fun d q => by cases q)
  | func g => exact other _ (fun d q => by cases q)

/-- the names after an operation -/
def Env.join (E E' : Env) (lo hi : Nat) : Env := { ρ := fun b => if lo ≤ b ∧ b < hi then E'.ρ b else E.ρ b, σ := E'.σ, ς := E.ς }
theorem Inv.run (h : Inv P ops T F I n ds E0 w0 S E a w) (t : Tra P call ops T F C I) (hR0 : Rel P E0 (T 0) w0) (hS : Closed ops S) {i : Nat} (hni : ¬ S i) (hpre : ∀ m, Dir ops m i → S m) {o : Oper} (ho : ops[i]? = some o)
    {f : Info} (hI : I i = some f) (hd : dstsOk n ops = true) (vis : ∀ b o', hget f.view b = some o' → b < (T i).next ∧ Sync ops T I S b i ∧ hget (T i) b = some o')
    {E' : Env} {x : Value} {w' : World} (hv : VR E' f.v x) (hR' : Rel P E' f.out w') (hSt : Step (E.cut (T i).next) f.view w E' f.out w') :
    Inv P ops T F I n ds E0 w0 (Also S i) (E.join E' (T i).next (T (i + 1)).next) (a.put o.dst x) w' := by
  have hi := (Array.getElem?_eq_some_iff.1 ho).1
  have R := (t.run ho hI).1
  have m0 := t.mono (Nat.zero_le i) (by omega)
  have m1 := t.mono1 hi
  have eout := t.next_out hi hI
  have ext1 : Ext E (E.join E' (T i).next (T (i + 1)).next) := by
    refine ⟨fun b p e => ?_, fun j m e => hSt.ext.σ j m e, rfl⟩
    show (if _ then _ else _) = _
    rw [if_neg]
    · exact e
    · rintro ⟨g1, g2⟩
      rcases h.dom b p e with g | ⟨k, hk, hSk, g3, g4⟩
      · omega
      · rcases Nat.lt_trichotomy k i with q | q | q
        · have := t.mono (j := k + 1) (i := i) (by omega) (by omega); omega
        · subst q; exact hni hSk
        · have := t.mono (j := i + 1) (i := k) (by omega) (by omega); omega
  have ext2 : Ext E' (E.join E' (T i).next (T (i + 1)).next) := by
    refine ⟨fun b p e => ?_, fun _ _ e => e, ?_⟩
    · show (if _ then _ else _) = _
      have hlt := lt_of_some hR'.fresh e
      by_cases g : (T i).next ≤ b
      · rw [if_pos ⟨g, by rw [eout]; exact hlt⟩]; exact e
      · rw [if_neg (fun q => g q.1)]
        rw [hSt.old b (by rw [R.viewNext]; omega)] at e
        exact (Env.cut_ρ e).2
    · exact hSt.ext.ς.symm
  -- what an operation owns it changes
  have ownChg : ∀ b0 o0, hget f.view b0 = some o0 → f.view.base ≤ b0 → Chg T I i b0 ∧ (T 0).base ≤ b0 := fun b0 o0 hb0 hbase => by
    have hw := R.owned b0 (by rw [hb0]; simp) hbase (vis b0 o0 hb0).1
    exact ⟨⟨f, hI, .inl hw⟩, by rw [← (t.base (i := i) (by omega)).1]; exact R.wrBase b0 hw⟩
  have chgBase : ∀ b, Chg T I i b → f.out.base ≤ b := by
    rintro b ⟨f', hf', hc⟩
    rw [hI] at hf'; cases hf'
    rw [hSt.base]
    rcases hc with hc | hc
    · rcases R.viewBase with q | ⟨q, qw⟩
      · rw [q]; exact R.wrBase b hc
      · rw [qw] at hc; cases hc
    · exact Nat.le_trans R.baseLe hc.1
  have keepBlock : ∀ b m o' r c, Sync ops T I S b m → hget (T m) b = some o' → ¬ Chg T I i b → E.ρ b = some (r, c) → r < w.heap.size → w'.heap[r]? = w.heap[r]? := by
    intro b m o' r c hs hb hc e hlt
    refine hSt.keep r hlt fun b0 o0 c0 hb0 hbase e0 => ?_
    obtain ⟨_, hs0, g0⟩ := vis b0 o0 hb0
    have := h.inj b0 b i m o0 o' r c0 c hs0 hs g0 hb (Env.cut_ρ e0).2 e
    subst this
    exact hc (ownChg b0 o0 hb0 hbase).1
  -- a block that is alive afterwards
  have live : ∀ b m o', Sync ops T I (Also S i) b m → hget (T m) b = some o' →
      (Chg T I i b ∧ hget f.out b = some o') ∨ (¬ Chg T I i b ∧ ∃ m', Sync ops T I S b m' ∧ hget (T m') b = some o') := by
    intro b m o' hs hb
    by_cases hc : Chg T I i b
    · left
      refine ⟨hc, ?_⟩
      rw [← t.chg_out hi hI hc, t.sync_eq (t.chgSync hS hi hni hpre hc) hs]
      exact hb
    · right
      obtain ⟨m', hs', _⟩ := h.heap b
      exact ⟨hc, m', hs', by rw [t.sync_eq (hs'.also hc) hs]; exact hb⟩
  refine ⟨h.ext.trans ext1, fun b hb => ?_, fun b p e => ?_, ?_, fun b => ?_, ?_, fun d => ?_, by rw [put_size]; exact h.size, by rw [put_defers]; exact h.defers, hSt.os.trans h.os, hSt.tape.trans h.tape, hSt.output.trans h.output,
    Nat.le_trans h.wsize hSt.size, fun r hr hk => ?_, ?_⟩
  · show (if _ then _ else _) = _
    rw [if_neg (by omega)]
    exact h.old b hb
  · have e : (if (T i).next ≤ b ∧ b < (T (i + 1)).next then E'.ρ b else E.ρ b) = some p := e
    split at e
    · rename_i g
      exact .inr ⟨i, hi, .inr rfl, g.1, g.2⟩
    · rcases h.dom b p e with g | ⟨k, hk, hSk, g⟩
      · exact .inl g
      · exact .inr ⟨k, hk, .inl hSk, g⟩
  · refine ⟨fun j hj => ?_, fun j lo hi' hj => ?_, fun m hm => ?_, fun j l m' hj => ?_, fun j ls hj => ?_⟩
    · refine hR'.sy.fresh j ?_
      rw [R.nint, (t.base (i := i) (by omega)).2]; exact hj
    · obtain ⟨m, e, g⟩ := h.sy.ints j lo hi' hj
      exact ⟨m, ext1.σ _ _ e, g⟩
    · obtain ⟨p, q, h1, h2, h3, h4⟩ := h.sy.memo m hm
      refine ⟨p, q, ?_, ?_, ext1.σ _ _ h3, h4⟩
      · cases hx : m.x <;> rw [hx] at h1
        · exact h1
        · exact ext1.σ _ _ h1
      · cases hx : m.y <;> rw [hx] at h2
        · exact h2
        · exact ext1.σ _ _ h2
    · exact h.sy.known j l m' hj
    · exact h.sy.excl j ls hj
  · by_cases hc : Chg T I i b
    · refine ⟨i + 1, t.chgSync hS hi hni hpre hc, fun o' ho' => ?_⟩
      rw [t.chg_out hi hI hc] at ho'
      obtain ⟨r, c, e, hO⟩ := hR'.heap b o' ho'
      exact ⟨r, c, ext2.ρ _ _ e, hO.mono ext2⟩
    · obtain ⟨m, hs, hm⟩ := h.heap b
      refine ⟨m, hs.also hc, fun o' ho' => ?_⟩
      obtain ⟨r, c, e, hO⟩ := hm o' ho'
      exact ⟨r, c, ext1.ρ _ _ e, (hO.mono ext1).world (keepBlock b m o' r c hs ho' hc e hO.lt)⟩
  · intro b b' m m' o1 o2 r c c' hs1 hs2 g1 g2 e1 e2
    have mixed : ∀ {b b' : Nat} {o1 o2 : AObj} {m' : Nat} {c c' : Nat}, Chg T I i b → hget f.out b = some o1 → ¬ Chg T I i b' → Sync ops T I S b' m' → hget (T m') b' = some o2 →
        (E.join E' (T i).next (T (i + 1)).next).ρ b = some (r, c) → (E.join E' (T i).next (T (i + 1)).next).ρ b' = some (r, c') → False := by
      intro b b' o1 o2 m' c c' k1 k2 k3 k4 k5 e1 e2
      obtain ⟨r1, c1, q1, _⟩ := hR'.heap b o1 k2
      have := ext2.ρ _ _ q1
      rw [e1] at this; cases this
      obtain ⟨r2, c2, q2, hO2⟩ := h.at t k4 k5
      have := ext1.ρ _ _ q2
      rw [e2] at this; cases this
      obtain ⟨b0, o0, c0, y1, y2, y3⟩ := hSt.dom b o1 r c k2 (chgBase b k1) q1 hO2.lt
      obtain ⟨_, hs0, g0⟩ := vis b0 o0 y1
      have := h.inj b0 b' i m' o0 o2 r c0 c' hs0 k4 g0 k5 (Env.cut_ρ y3).2 q2
      subst this
      exact k3 (ownChg b0 o0 y1 y2).1
    rcases live b m o1 hs1 g1 with ⟨k1, k2⟩ | ⟨k1, m1', k2, k3⟩
    · rcases live b' m' o2 hs2 g2 with ⟨l1, l2⟩ | ⟨l1, m2', l2, l3⟩
      · obtain ⟨r1, c1, q1, _⟩ := hR'.heap b o1 k2
        have := ext2.ρ _ _ q1
        rw [e1] at this; cases this
        obtain ⟨r2, c2, q2, _⟩ := hR'.heap b' o2 l2
        have := ext2.ρ _ _ q2
        rw [e2] at this; cases this
        exact hR'.inj b b' o1 o2 r c c' k2 l2 q1 q2
      · exact (mixed k1 k2 l1 l2 l3 e1 e2).elim
    · rcases live b' m' o2 hs2 g2 with ⟨l1, l2⟩ | ⟨l1, m2', l2, l3⟩
      · exact (mixed l1 l2 k1 k2 k3 e2 e1).elim
      · obtain ⟨r1, c1, q1, _⟩ := h.at t k2 k3
        have := ext1.ρ _ _ q1
        rw [e1] at this; cases this
        obtain ⟨r2, c2, q2, _⟩ := h.at t l2 l3
        have := ext1.ρ _ _ q2
        rw [e2] at this; cases this
        exact h.inj b b' m1' m2' o1 o2 r c c' k2 l2 k3 l3 q1 q2
  · by_cases hc : dstOf ops i = some d
    · rw [dstOf_some ho] at hc
      refine ⟨i + 1, t.dstSync hS hni hpre ho hc, fun v hv' => ?_⟩
      rw [(t.run ho hI).2.1, hc] at hv'
      have hv' : (Tr.set (some f.v) (pathOf d) (F i)).get (pathOf d) = some v := hv'
      rw [Tr.get_set_of, if_pos rfl] at hv'
      cases hv'
      have hlt : d < a.tmps.size := by rw [h.size]; exact dstsOk_get hd ho hc
      exact ⟨x, by rw [hc]; simp [Act.put, hlt], hv.mono ext2⟩
    · obtain ⟨m, hs, hm⟩ := h.slots d
      refine ⟨m, hs.also hc, fun v hv' => ?_⟩
      obtain ⟨y, hy, hvy⟩ := hm v hv'
      rw [dstOf_some ho] at hc
      refine ⟨y, ?_, hvy.mono ext1⟩
      cases hq : o.dst with
      | none => exact hy
      | some e =>
        simp only [Act.put]
        rw [Array.getElem?_setIfInBounds_ne (fun q => hc (by rw [hq, q]))]
        exact hy
  · rw [hSt.keep r (Nat.lt_of_lt_of_le hr h.wsize) fun b0 o0 c0 hb0 hbase e0 => ?_]
    · exact h.keep r hr hk
    · obtain ⟨_, hs0, g0⟩ := vis b0 o0 hb0
      obtain ⟨b1, o1, c1, y1, y2, y3⟩ := h.own b0 i o0 r c0 hs0 g0 (ownChg b0 o0 hb0 hbase).2 (Env.cut_ρ e0).2 hr
      exact hk b1 o1 c1 y1 y2 y3
  · intro b m o' r c hs hb hbase e hr
    rcases live b m o' hs hb with ⟨k1, k2⟩ | ⟨k1, m', k2, k3⟩
    · obtain ⟨r1, c1, q1, _⟩ := hR'.heap b o' k2
      have := ext2.ρ _ _ q1
      rw [e] at this; cases this
      obtain ⟨b0, o0, c0, y1, y2, y3⟩ := hSt.dom b o' r c k2 (chgBase b k1) q1 (Nat.lt_of_lt_of_le hr h.wsize)
      obtain ⟨_, hs0, g0⟩ := vis b0 o0 y1
      exact h.own b0 i o0 r c0 hs0 g0 (ownChg b0 o0 y1 y2).2 (Env.cut_ρ y3).2 hr
    · obtain ⟨r1, c1, q1, _⟩ := h.at t k2 k3
      have := ext1.ρ _ _ q1
      rw [e] at this; cases this
      exact h.own b m' o' r c k2 k3 hbase q1 hr
/-- an operation that isn't carried out -/
theorem Inv.pass (h : Inv P ops T F I n ds E0 w0 S E a w) (t : Tra P call ops T F C I) (hS : Closed ops S) {i : Nat} (hni : ¬ S i) (hpre : ∀ m, Dir ops m i → S m) {o : Oper} (ho : ops[i]? = some o) (hI : I i = none) (hd : dstsOk n ops = true) :
    Inv P ops T F I n ds E0 w0 (Also S i) E (a.put o.dst undef) w := by
  have hc : ∀ b, ¬ Chg T I i b := by
    rintro b ⟨f, hf, _⟩
    rw [hI] at hf; cases hf
  have back : ∀ {b m : Nat} {o' : AObj}, Sync ops T I (Also S i) b m → hget (T m) b = some o' → ∃ m', Sync ops T I S b m' ∧ hget (T m') b = some o' := by
    intro b m o' hs hb
    obtain ⟨m', hs', _⟩ := h.heap b
    exact ⟨m', hs', by rw [t.sync_eq (hs'.also (hc b)) hs]; exact hb⟩
  refine ⟨h.ext, h.old, fun b p e => ?_, h.sy, fun b => ?_, ?_, fun d => ?_, by rw [put_size]; exact h.size, by rw [put_defers]; exact h.defers, h.os, h.tape, h.output, h.wsize, h.keep, ?_⟩
  · rcases h.dom b p e with g | ⟨k, hk, hSk, g⟩
    · exact .inl g
    · exact .inr ⟨k, hk, .inl hSk, g⟩
  · obtain ⟨m, hs, hm⟩ := h.heap b
    exact ⟨m, hs.also (hc b), hm⟩
  · intro b b' m m' o1 o2 r c c' h1 h2 g1 g2 e1 e2
    obtain ⟨m1, k1, k2⟩ := back h1 g1
    obtain ⟨m2, l1, l2⟩ := back h2 g2
    exact h.inj b b' m1 m2 o1 o2 r c c' k1 l1 k2 l2 e1 e2
  · by_cases hq : dstOf ops i = some d
    · rw [dstOf_some ho] at hq
      refine ⟨i + 1, t.dstSync hS hni hpre ho hq, fun v hv' => ?_⟩
      rw [(t.skip ho hI).2.2.1, hq] at hv'
      have hv' : (Tr.set (some undefA) (pathOf d) (F i)).get (pathOf d) = some v := hv'
      rw [Tr.get_set_of, if_pos rfl] at hv'
      cases hv'
      have hlt : d < a.tmps.size := by rw [h.size]; exact dstsOk_get hd ho hq
      exact ⟨undef, by rw [hq]; simp [Act.put, hlt], VR.undef _⟩
    · obtain ⟨m, hs, hm⟩ := h.slots d
      refine ⟨m, hs.also hq, fun v hv' => ?_⟩
      obtain ⟨y, hy, hvy⟩ := hm v hv'
      rw [dstOf_some ho] at hq
      refine ⟨y, ?_, hvy⟩
      cases hqq : o.dst with
      | none => exact hy
      | some e =>
        simp only [Act.put]
        rw [Array.getElem?_setIfInBounds_ne (fun q => hq (by rw [hqq, q]))]
        exact hy
  · intro b m o' r c hs hb hbase e hr
    obtain ⟨m1, k1, k2⟩ := back hs hb
    exact h.own b m1 o' r c k1 k2 hbase e hr
end
end Go.Proofs.YthfkajaeikhloaaGreatDoor.Xq

/-! Regions that draw their order are sound; so calls are. -/
namespace Go.Proofs.YthfkajaeikhloaaGreatDoor.Xq
open Go

section
variable {P : Program} {call : CallT} {ops : Array Oper} {T : Nat → St} {F : Nat → Fr} {C : Nat → List Rec} {I : Nat → Option Info} {S : Nat → Prop}
variable {n : Nat} {ds : List Deferred} {E0 E : Env} {w0 w : World} {a : Act}

theorem guard_read {o : Oper} {g : Nat × Bool} (hg : o.guard = some g) {d : Nat} (hd : dstOf ops g.1 = some d) : d ∈ readsOf ops o := by
  unfold readsOf
  rw [appL_eq, List.mem_append]
  right
  rw [hg]
  obtain ⟨j, b⟩ := g
  unfold dstOf at hd
  dsimp only at hd ⊢
  cases hj : ops[j]? with
  | none => rw [hj] at hd; cases hd
  | some o' =>
    rw [hj] at hd
    dsimp only at hd ⊢
    rw [hd]
    exact List.mem_cons_self ..
theorem Inv.wanted (h : Inv P ops T F I n ds E0 w0 S E a w) (t : Tra P call ops T F C I) (hS : Closed ops S) {i : Nat} (hni : ¬ S i) (hpre : ∀ m, Dir ops m i → S m) {o : Oper} (ho : ops[i]? = some o) {g : Nat × Bool} (hg : o.guard = some g) {r : Bool}
    (hw : wantedA ops (F i) g = some r) : Region.wanted o (yielded ops a.tmps) = r :=
  wantedA_ok (E := E) hg (fun d v hd hv => h.slotAt t (t.seeT hS hni hpre ho (guard_read hg hd)) hv) hw
/-- an operation that is carried out -/
theorem Inv.op (h : Inv P ops T F I n ds E0 w0 S E a w) (t : Tra P call ops T F C I) (hC : CallOk P call) (hR0 : Rel P E0 (T 0) w0) (hS : Closed ops S) {i : Nat} (hni : ¬ S i) (hpre : ∀ m, Dir ops m i → S m) {o : Oper} (ho : ops[i]? = some o)
    {f : Info} (hI : I i = some f) (hd : dstsOk n ops = true) {G : Env} {wg : World} {ag : Act} (hG : Rel P G (T i) wg) (hF : FrRel G (F i) ag.tmps) :
    (∀ c, o.op ≠ .defer c) ∧ Region.wanted o (yielded ops a.tmps) = true ∧ StepRes P (E.cut (T i).next) f.view w ((execOp a.eval o).run P w) (fun v' s' => v' = f.v ∧ s' = f.out) ∧
    ∀ E' x w', VR E' f.v x → Rel P E' f.out w' → Step (E.cut (T i).next) f.view w E' f.out w' → ∃ E'', Inv P ops T F I n ds E0 w0 (Also S i) E'' (a.put o.dst x) w' := by
  have R := (t.run ho hI).1
  obtain ⟨v1, v2, v3⟩ := h.view t hR0 hS hni hpre ho hI hG hF
  refine ⟨noDefer (lawfulRes f.v f.out) R.step, ?_, ?_, fun E' x w' g1 g2 g3 => ⟨_, h.run t hR0 hS hni hpre ho hI hd v3 g1 g2 g3⟩⟩
  · cases hg : o.guard with
    | none => unfold Region.wanted; rw [hg]
    | some g => exact h.wanted t hS hni hpre ho hg (R.wanted g hg)
  · have := step_ok (lawfulRes f.v f.out) hC v1 v2 R.step
    exact this.mono fun v' s' q => by cases q; exact ⟨rfl, rfl⟩
theorem closed_lt (hb : backOk ops = true) (i : Nat) : Closed ops (fun k => k < i) := fun k hk j hd => Nat.lt_trans (backOk_ok hb hd) hk
theorem also_lt (i : Nat) : Also (fun k => k < i) i = fun k => k < i + 1 := by
  funext k
  apply propext
  show (k < i ∨ k = i) ↔ k < i + 1
  omega
/-- the run in the order of the text can be made -/
theorem ghost (t : Tra P call ops T F C I) (hC : CallOk P call) (hR0 : Rel P E0 (T 0) w0) (hf : FrRel E0 (F 0) a.tmps) (hn : a.tmps.size = n) (hdf : a.defers = ds) (hd : dstsOk n ops = true) : ∀ i, i ≤ ops.size →
    ∃ E a w, Inv P ops T F I n ds E0 w0 (fun k => k < i) E a w
  | 0, _ => ⟨E0, a, w0, by
      have : (fun k => k < 0) = fun _ : Nat => False := by funext k; apply propext; exact ⟨fun q => absurd q (Nat.not_lt_zero _), fun q => q.elim⟩
      rw [this]
      exact Inv.start t hR0 hf hn hdf⟩
  | i + 1, hi => by
    obtain ⟨E, a1, w, h⟩ := ghost t hC hR0 hf hn hdf hd i (by omega)
    obtain ⟨o, ho⟩ := op_at (ops := ops) (j := i) (by omega)
    have hS := closed_lt t.back i
    have hni : ¬ i < i := Nat.lt_irrefl _
    have hpre : ∀ m, Dir ops m i → m < i := fun m hm => backOk_ok t.back hm
    cases hI : I i with
    | none =>
      have := h.pass t hS hni hpre ho hI hd
      rw [also_lt] at this
      exact ⟨_, _, _, this⟩
    | some f =>
      obtain ⟨s1, s2⟩ := h.scope t hR0 (i := i) (by omega) fun k _ => Iff.rfl
      obtain ⟨_, _, g1, g2⟩ := h.op t hC hR0 hS hni hpre ho hI hd s1 s2
      obtain ⟨v, s', E', x, w', k1, k2, k3, rfl, rfl⟩ := g1.ex
      obtain ⟨E'', h'⟩ := g2 E' x w' k1 k2 k3
      rw [also_lt] at h'
      exact ⟨_, _, _, h'⟩
/-- the operations that have been carried out -/
def Lst (l : Array Bool) : Nat → Prop := fun k => l.getD k false = true
theorem lst_set {l : Array Bool} {i : Nat} (hi : i < l.size) : Lst (l.setIfInBounds i true) = Also (Lst l) i := by
  funext k
  apply propext
  unfold Lst Also
  simp only [Array.getD_eq_getD_getElem?]
  by_cases q : i = k
  · subst q
    simp [hi]
  · rw [Array.getElem?_setIfInBounds_ne q]
    refine ⟨fun h => .inl h, fun h => ?_⟩
    rcases h with h | h
    · exact h
    · exact absurd h.symm q
theorem count_set_true : ∀ (l : List Bool) (i : Nat), l[i]? = some false → (l.set i true).count false + 1 = l.count false
  | [], i, h => by simp at h
  | b :: l, 0, h => by
    simp at h; subst h
    simp
  | b :: l, i + 1, h => by
    have := count_set_true l i (by simpa using h)
    cases b <;> simp <;> omega
theorem any_ok {x : Option Nat} {m : Nat} (t : Tra P call ops T F C I) (hC : CallOk P call) (hR0 : Rel P E0 (T 0) w0) (hd : dstsOk n ops = true) (hgh : ∀ i, i ≤ ops.size → ∃ E a w, Inv P ops T F I n ds E0 w0 (fun k => k < i) E a w)
    {K : Ex → St → Fr → Prop} (hK : K .normal (T ops.size) (F ops.size)) : ∀ (fuel : Nat) (l : Array Bool) (E : Env) (a : Act) (w : World), l.size = ops.size → l.toList.count false = fuel → Closed ops (Lst l) → Inv P ops T F I n ds E0 w0 (Lst l) E a w →
    wpAnyIn (FW x) m P .any ops (Post P E0 (T 0) w0 n ds K) fuel l a w := by
  have ready_iff : ∀ (l : Array Bool) (i : Nat), i ∈ Region.ready .any ops l ↔ i < ops.size ∧ l.getD i true = false ∧ ∃ o, ops[i]? = some o ∧ ∀ e ∈ o.after.toList, Region.binds .any e = true → Lst l e.on := by
    intro l i
    unfold Region.ready
    rw [List.mem_filter, List.mem_range]
    constructor
    · rintro ⟨h1, h2⟩
      rw [Bool.and_eq_true] at h2
      obtain ⟨h2, h3⟩ := h2
      refine ⟨h1, by simpa using h2, ?_⟩
      obtain ⟨o, ho⟩ := op_at h1
      refine ⟨o, ho, fun e he hb => ?_⟩
      rw [ho] at h3
      simp only [Option.map_some, Option.getD_some] at h3
      rw [Array.all_eq_true'] at h3
      have := h3 e (by simpa using he)
      rw [hb] at this
      simpa [Lst] using this
    · rintro ⟨h1, h2, o, ho, h3⟩
      refine ⟨h1, ?_⟩
      rw [Bool.and_eq_true]
      refine ⟨by simp [h2], ?_⟩
      rw [ho]
      simp only [Option.map_some, Option.getD_some]
      rw [Array.all_eq_true']
      intro e he
      cases hb : Region.binds .any e with
      | false => simp
      | true => have := h3 e (by simpa using he) hb; simpa [Lst] using this
  have listed_of : ∀ (l : Array Bool), l.size = ops.size → l.toList.count false = 0 → ∀ k, k < ops.size → Lst l k := by
    intro l hl hc k hk
    have := List.count_eq_zero.1 hc
    unfold Lst
    have hlt : k < l.size := by omega
    rw [Array.getD_eq_getD_getElem?, Array.getElem?_eq_getElem hlt]
    cases hb : l[k] with
    | true => rfl
    | false => exact (this (by rw [← hb]; simp)).elim
  have none_ready : ∀ (l : Array Bool), l.size = ops.size → l.toList.count false ≠ 0 → Region.ready .any ops l ≠ [] := by
    intro l hl hc hr
    have all : ∀ k, k < ops.size → Lst l k := by
      intro k
      induction k using Nat.strongRecOn with
      | _ k ih =>
        intro hk
        have hlt : k < l.size := by omega
        cases hb : l[k] with
        | true => unfold Lst; rw [Array.getD_eq_getD_getElem?, Array.getElem?_eq_getElem hlt, hb]; rfl
        | false =>
          exfalso
          obtain ⟨o, ho⟩ := op_at hk
          have : k ∈ Region.ready .any ops l := (ready_iff l k).2 ⟨hk, by rw [Array.getD_eq_getD_getElem?, Array.getElem?_eq_getElem hlt, hb]; rfl, o, ho, fun e he hb => by
            have hlt := backOk_ok t.back (j := e.on) (i := k) ⟨o, ho, e, he, hb, rfl⟩
            exact ih e.on hlt (by omega)⟩
          rw [hr] at this; cases this
    apply hc
    rw [List.count_eq_zero]
    intro hm
    obtain ⟨k, hk, e⟩ := List.getElem_of_mem hm
    have hk' : k < l.size := by simpa using hk
    have := all k (by omega)
    unfold Lst at this
    rw [Array.getD_eq_getD_getElem?, Array.getElem?_eq_getElem hk'] at this
    simp at e
    rw [e] at this
    cases this
  intro fuel
  induction fuel with
  | zero =>
    intro l E a w hl hc hS h
    have all := listed_of l hl hc
    refine ⟨?_, ?_⟩
    · apply List.eq_nil_iff_forall_not_mem.2
      intro i hi
      obtain ⟨h1, h2, _⟩ := (ready_iff l i).1 hi
      have := all i h1
      unfold Lst at this
      have hlt : i < l.size := by omega
      rw [Array.getD_eq_getD_getElem?, Array.getElem?_eq_getElem hlt] at this h2
      simp at this h2
      rw [this] at h2; cases h2
    · have hA : ∀ k, k < ops.size → (Lst l k ↔ k < ops.size) := fun k hk => ⟨fun _ => hk, fun _ => all k hk⟩
      obtain ⟨s1, s2⟩ := h.scope t hR0 (Nat.le_refl _) hA
      refine ⟨.normal, T ops.size, F ops.size, E, rfl, s1, ?_, s2, h.size, h.defers, hK⟩
      exact ⟨h.ext, (t.base (Nat.le_refl _)).1, t.mono (Nat.zero_le _) (Nat.le_refl _), h.old, h.os, h.tape, h.output, h.wsize, h.keep, fun b o r c hb hbase e hr => by
        rw [(t.base (Nat.le_refl _)).1] at hbase
        exact h.own b ops.size o r c ⟨Nat.le_refl _, fun k hk _ => hA k hk⟩ hb hbase e hr, fun b hb hor => t.low hb hor (Nat.le_refl _)⟩
  | succ fuel ih =>
    intro l E a w hl hc hS h
    refine ⟨fun q => (none_ready l hl (by omega) q).elim, fun i hi => ?_⟩
    obtain ⟨h1, h2, o, ho, h3⟩ := (ready_iff l i).1 hi
    have hlt : i < l.size := by omega
    have hli : l[i] = false := by
      rw [Array.getD_eq_getD_getElem?, Array.getElem?_eq_getElem hlt] at h2
      simpa using h2
    have hni : ¬ Lst l i := by
      unfold Lst
      rw [Array.getD_eq_getD_getElem?, Array.getElem?_eq_getElem hlt, hli]
      simp
    have hpre : ∀ m, Dir ops m i → Lst l m := by
      rintro m ⟨o', ho', e, he, hb, rfl⟩
      rw [ho] at ho'; cases ho'
      exact h3 e he hb
    have hl' : (l.setIfInBounds i true).size = ops.size := by simpa using hl
    have hc' : (l.setIfInBounds i true).toList.count false = fuel := by
      rw [Array.toList_setIfInBounds]
      have := count_set_true l.toList i (by simp [hlt, hli])
      omega
    have hS' : Closed ops (Lst (l.setIfInBounds i true)) := by
      rw [lst_set hlt]
      intro k hk j hj
      rcases hk with hk | hk
      · exact .inl (hS k hk j hj)
      · subst hk; exact .inl (hpre j hj)
    have next : ∀ E' a' w', Inv P ops T F I n ds E0 w0 (Also (Lst l) i) E' a' w' → wpAnyIn (FW x) m P .any ops (Post P E0 (T 0) w0 n ds K) fuel (l.setIfInBounds i true) a' w' := fun E' a' w' h' =>
      ih (l.setIfInBounds i true) E' a' w' hl' hc' hS' (by rw [lst_set hlt]; exact h')
    unfold wpOpIn
    rw [ho]
    dsimp only
    cases hI : I i with
    | none =>
      obtain ⟨⟨g, hg, hw⟩, _⟩ := t.skip ho hI
      have := h.wanted t hS hni hpre ho hg hw
      rw [if_neg (by rw [this]; decide)]
      exact ⟨fun _ _ => trivial, next _ _ _ (h.pass t hS hni hpre ho hI hd)⟩
    | some f =>
      obtain ⟨Eg, ag, wg, hg⟩ := hgh i (by omega)
      obtain ⟨s1, s2⟩ := hg.scope t hR0 (i := i) (by omega) fun k _ => Iff.rfl
      obtain ⟨gd, g0, g1, g2⟩ := h.op t hC hR0 hS hni hpre ho hI hd s1 s2
      rw [if_pos g0]
      refine (g1.wp gd fun v s' E' x w' k1 k2 k3 k4 => ?_)
      obtain ⟨rfl, rfl⟩ := k4
      obtain ⟨E'', h'⟩ := g2 E' x w' k1 k2 k3
      exact next _ _ _ h'
end

section
variable {P : Program} {call : CallT}
theorem drawReg_ok (hm : P.follows .mixedOrders = true) (hC : CallOk P call) : DrawOk P call := by
  intro R A Pr hA x m n id ops k s fr E a w hd hR hf hn h
  unfold drawReg at h
  split at h
  · exact (hA.fail _ h).elim
  · rename_i hslots
    split at h
    · exact (hA.fail _ h).elim
    · rename_i hback
      generalize 40 = N at h
      revert s
      induction N with
      | zero => intro s hR h; exact (hA.fail _ h).elim
      | succ N ih =>
        intro s hR h
        have h : Pr (drawAgain P call A ops k (nrec (β := St → Fr → R) (fun _ _ => A.fail "too many cases") (fun _ again => drawAgain P call A ops k again) N) s fr) := h
        unfold drawAgain at h
        split at h
        · rename_i sF frF hgo
          obtain ⟨T, F, C, I, t1, t2, t3, t4, t5, t6⟩ := trace_of ops.toList 0 [] s fr sF frF rfl (Nat.zero_le _) hgo
          subst t1; subst t2; subst t4; subst t5
          have hR0 : Rel P E (T 0) { w with drawn := w.drawn + 1 } := hR.world rfl
          have hst := (seq_ok (fun j o ho => t6 j (Nat.zero_le _) o ho) hC hd hR0 hf hn ops.size (Nat.le_refl _)).2
          have t : Tra P call ops T F C I := ⟨fun j o ho => t6 j (Nat.zero_le _) o ho, t3, hslots, hback, fun k hk => (hst k hk).1, fun k hk => (hst k hk).2⟩
          have hgh := ghost (ds := a.defers) t hC hR0 hf hn rfl hd
          have s0 : Lst (Array.replicate ops.size false) = fun _ => False := by
            funext j
            apply propext
            unfold Lst
            rw [Array.getD_eq_getD_getElem?, Array.getElem?_replicate]
            split <;> simp
          have := any_ok (x := x) (m := m) t hC hR0 hd hgh (K := fun e s fr => Pr (k e s fr)) h ops.size (Array.replicate ops.size false) E a { w with drawn := w.drawn + 1 } (by simp) (by simp) (by rw [s0]; exact fun _ q => q.elim)
            (by rw [s0]; exact Inv.start t hR0 hf hn rfl)
          exact wpIn_mono (wpIn_region_any hm this) fun e a' w' hp => Post.from (Step.world (E := E) (s := T 0) (w := w) (w' := { w with drawn := w.drawn + 1 }) rfl rfl rfl rfl) hp fun _ _ _ q => q
        · exact (hA.fail _ h).elim
        · rename_i i m hgo
          split at h
          · rename_i lo hi hiv
            split at h
            · exact (hA.fail _ h).elim
            · split at h
              · exact (hA.fail _ h).elim
              · obtain ⟨h1, h2⟩ := hA.fork _ _ _ h
                obtain ⟨v, e, g1, g2⟩ := hR.sy.ints i lo hi hiv
                by_cases q : v ≤ m
                · have r := Refn.ivSet s i lo m
                  refine wpIn_mono (ih _ (hR.refn r (hR.sy.ivSet e g1 q)) h1) fun e a w hp => Post.from (Step.refn r) hp fun _ _ _ q => q
                · have r := Refn.ivSet s i (m + 1) hi
                  refine wpIn_mono (ih _ (hR.refn r (hR.sy.ivSet e (by omega) g2)) h2) fun e a w hp => Post.from (Step.refn r) hp fun _ _ _ q => q
          · exact (hA.fail _ h).elim
        · rename_i i l m hgo
          split at h
          · rename_i ls hls
            obtain ⟨h1, h2⟩ := hA.fork _ _ _ h
            by_cases q : (E.ς i).data.toList.length = l ∧ num (E.ς i).data.toList 0 = m
            · have r := Refn.sfSet s i (.known l m)
              refine wpIn_mono (ih _ (hR.refn r (hR.sy.known' q)) h1) fun e a w hp => Post.from (Step.refn r) hp fun _ _ _ q => q
            · have r := Refn.sfSet s i (.excl ((l, m) :: ls))
              refine wpIn_mono (ih _ (hR.refn r (hR.sy.excl' q hls)) h2) fun e a w hp => Post.from (Step.refn r) hp fun _ _ _ q => q
          · exact (hA.fail _ h).elim
/-- calls are sound -/
theorem callF_sound (hm : P.follows .mixedOrders = true) {sm : Sm} (hsm : SmOk P sm) (fuel : Nat) : CallOk P (callF P sm fuel) := callF_ok hsm (fun call hC => drawReg_ok hm hC) fuel
end
end Go.Proofs.YthfkajaeikhloaaGreatDoor.Xq

/-! From a run of the executor to a law. -/
namespace Go.Proofs.YthfkajaeikhloaaGreatDoor.Xq
open Go

/-- variables: number, type of the row, cells -/
noncomputable def initHeap (gl : List (Nat × Nat × List AV)) : Tr AObj := lrec .leaf (fun g _ ih => ih.set (some (.cells g.2.2 g.2.1 true)) (pathOf g.1)) gl
noncomputable def initS (gl : List (Nat × Nat × List AV)) (next : Nat) (sy : Sy) : St := ⟨initHeap gl, next, next, sy⟩
theorem initHeap_get {gl : List (Nat × Nat × List AV)} {b : Nat} {o : AObj} (h : (initHeap gl).get (pathOf b) = some o) : ∃ g ∈ gl, g.1 = b ∧ o = .cells g.2.2 g.2.1 true := by
  induction gl with
  | nil => have : (Tr.get (pathOf b) (.leaf : Tr AObj)) = some o := h; rw [get_leaf] at this; cases this
  | cons g gl ih =>
    have h : (Tr.set (some (.cells g.2.2 g.2.1 true)) (pathOf g.1) (initHeap gl)).get (pathOf b) = some o := h
    rw [Tr.get_set_of] at h
    split at h
    · rename_i q
      cases h
      exact ⟨g, List.mem_cons_self .., q, rfl⟩
    · obtain ⟨g', hg', q⟩ := ih h
      exact ⟨g', List.mem_cons_of_mem _ hg', q⟩
/-- the names of the variables -/
noncomputable def env0 (P : Program) (w : World) (σ : Nat → Option Int) (ς : Nat → ByteArray) : Env where
  ρ := fun b => if b < P.globals.size then (match w.heap[b]? with | some (.cells cs _ _) => some (b, cs.size) | _ => none) else none
  σ := σ
  ς := ς
theorem init_rel {P : Program} {w : World} {σ : Nat → Option Int} {ς : Nat → ByteArray} {gl : List (Nat × Nat × List AV)} {next : Nat} {sy : Sy} (hn : P.globals.size ≤ next)
    (hg : ∀ g ∈ gl, g.1 < P.globals.size ∧ ∃ cs, w.heap[g.1]? = some (.cells cs g.2.1 (0, 0)) ∧ VRL (env0 P w σ ς) g.2.2 cs.toList) (hy : SyOk (env0 P w σ ς) sy) :
    Rel P (env0 P w σ ς) (initS gl next sy) w where
  heap := fun b o h => by
    obtain ⟨g, hgl, rfl, rfl⟩ := initHeap_get h
    obtain ⟨hlt, cs, hw, hv⟩ := hg g hgl
    refine ⟨g.1, cs.size, ?_, cs, cs.toList, [], hw, by simp, hv, fun _ => rfl, rfl⟩
    simp only [env0]
    rw [if_pos hlt, hw]
  inj := fun b b' o o' r c c' _ _ h1 h2 => by
    have go : ∀ {b : Nat} {c : Nat}, (env0 P w σ ς).ρ b = some (r, c) → r = b := fun {b c} h => by
      simp only [env0] at h
      split at h
      · split at h
        · cases h; rfl
        · cases h
      · cases h
    rw [← go h1, ← go h2]
  fresh := fun b hb => by
    have hb : next ≤ b := hb
    simp only [env0]
    rw [if_neg (by omega)]
  glob := fun g r c hgs h => by
    simp only [env0] at h
    rw [if_pos hgs] at h
    split at h
    · cases h; rfl
    · cases h
  next := hn
  sy := hy
noncomputable def isTrue (v : AV) (_ : St) : Bool := match v with | .bool true => true | _ => false
theorem isTrue_ok {v : AV} {s : St} (h : isTrue v s = true) : v = .bool true := by
  unfold isTrue at h
  split at h
  · rfl
  · cases h
theorem lawfulB : Lawful ansB (fun b => b = true) :=
  ⟨fun m h => (by cases h), fun q a b h => by
    cases a with
    | true => exact ⟨rfl, h⟩
    | false => cases h⟩
theorem Step.below {E E' : Env} {s s' : St} {w w' : World} (h : Step E s w E' s' w') (hn : ∀ b o r c, hget s b = some o → E.ρ b = some (r, c) → b < s.base) : RowKit.Below w.heap.size w w' :=
  ⟨h.os, h.tape, h.output, h.size, fun k hk => h.keep k hk fun b o c hb hbase e => by
    have := hn b o k c hb e
    omega⟩
/-- a run of the executor that comes out true: the function returns true and changes nothing that was there -/
theorem law_of_run {P : Program} (hm : P.follows .mixedOrders = true) {sm : Sm} (hsm : SmOk P sm) {fuel f : Nat} {args : List AV} {vs : Array Value} {w : World} {σ : Nat → Option Int} {ς : Nat → ByteArray}
    {gl : List (Nat × Nat × List AV)} {next : Nat} {sy : Sy} (hn : P.globals.size ≤ next)
    (hg : ∀ g ∈ gl, g.1 < P.globals.size ∧ ∃ cs, w.heap[g.1]? = some (.cells cs g.2.1 (0, 0)) ∧ VRL (env0 P w σ ς) g.2.2 cs.toList) (hy : SyOk (env0 P w σ ς) sy)
    (hv : VRL (env0 P w σ ς) args vs.toList) (h : callF P sm fuel Bool ansB f args (initS gl next sy) isTrue = true) (hb : (bodyOf P f).isSome = true) :
    Calls P f vs w fun e w' => e = .returned (.bool true) ∧ RowKit.Below w.heap.size w w' := by
  have hR := init_rel (next := next) hn hg hy
  refine Calls.mono ((callF_sound hm hsm fuel Bool ansB (fun b => b = true) lawfulB _ _ w f args vs isTrue hR hv h).calls hb) fun e w' ⟨v, s', E', x, he, h1, h2, h3, h4⟩ => ?_
  have := isTrue_ok h4
  subst this
  have h1 : x = .bool true := h1
  subst h1
  refine ⟨he, h3.below fun b o r c hb _ => ?_⟩
  obtain ⟨g, hgl, rfl, _⟩ := initHeap_get hb
  exact Nat.lt_of_lt_of_le (hg g hgl).1 hn

/-! ### atoms: two numbers, a string's length, a string -/
noncomputable def sy2 : Sy := ⟨3, ((Tr.leaf.set (some (-9223372036854775808, 9223372036854775807)) (pathOf 0)).set (some (-9223372036854775808, 9223372036854775807)) (pathOf 1)).set (some (0, 9223372036854775807)) (pathOf 2), [], Tr.leaf.set (some (.excl [])) (pathOf 0)⟩
def σ2 (i k : Int) (n : Nat) : Nat → Option Int := fun j => if j = 0 then some i else if j = 1 then some k else if j = 2 then some n else none
theorem sy2_ok {E : Env} {i k : Int} {n : Nat} (hi : (Lit.int .i64 i).wf = true) (hk : (Lit.int .i64 k).wf = true) (hn : n ≤ 9223372036854775807) (he : E.σ = σ2 i k n) : SyOk E sy2 := by
  have range : ∀ {x : Int}, (Lit.int .i64 x).wf = true → -9223372036854775808 ≤ x ∧ x ≤ 9223372036854775807 := fun {x} h => by
    simpa [Lit.wf, IntKind.min, IntKind.max, IntKind.signed, IntKind.bits] using h
  refine ⟨fun j hj => ?_, fun j lo hi' h => ?_, fun m hm => (by cases hm), fun j l m h => ?_, fun j ls h => ?_⟩
  · have hj : 3 ≤ j := hj
    rw [he]; unfold σ2
    rw [if_neg (by omega), if_neg (by omega), if_neg (by omega)]
  · have h : Tr.get (pathOf j) (Tr.set (some ((0 : Int), (9223372036854775807 : Int))) (pathOf 2) (Tr.set (some (-9223372036854775808, 9223372036854775807)) (pathOf 1) (Tr.set (some (-9223372036854775808, 9223372036854775807)) (pathOf 0) .leaf))) = some (lo, hi') := h
    rw [Tr.get_set_of, Tr.get_set_of, Tr.get_set_of, get_leaf] at h
    rw [he]; unfold σ2
    by_cases q2 : 2 = j
    · subst q2
      simp at h
      obtain ⟨rfl, rfl⟩ := h
      exact ⟨n, by simp, by omega, by omega⟩
    · rw [if_neg q2] at h
      by_cases q1 : 1 = j
      · subst q1
        simp at h
        obtain ⟨rfl, rfl⟩ := h
        exact ⟨k, by simp, (range hk).1, (range hk).2⟩
      · rw [if_neg q1] at h
        by_cases q0 : 0 = j
        · subst q0
          simp at h
          obtain ⟨rfl, rfl⟩ := h
          exact ⟨i, by simp, (range hi).1, (range hi).2⟩
        · rw [if_neg q0] at h; cases h
  · have h : Tr.get (pathOf j) (Tr.set (some (SF.excl [])) (pathOf 0) .leaf) = some (.known l m) := h
    rw [Tr.get_set_of, get_leaf] at h
    split at h <;> cases h
  · have h : Tr.get (pathOf j) (Tr.set (some (SF.excl [])) (pathOf 0) .leaf) = some (.excl ls) := h
    rw [Tr.get_set_of, get_leaf] at h
    split at h
    · cases h; intro x hx; cases hx
    · cases h
end Go.Proofs.YthfkajaeikhloaaGreatDoor.Xq
