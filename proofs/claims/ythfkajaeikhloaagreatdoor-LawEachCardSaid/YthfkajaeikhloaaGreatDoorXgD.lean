/- The executor of this claim, and its proof: a part. -/
import Derived.Test.YthfkajaeikhloaaGreatDoorXgC
import Derived.Lib.Bytealg
import Derived.Sort.KeysCollected
import Derived.Sort.Walk0
import Derived.Laws.AppendOwn
import Derived.OpenShut
import Derived.MakeChecks
set_option autoImplicit false
set_option linter.unusedVariables false
/-! What is known of functions beforehand, from runs of their own. -/
namespace Go.Proofs.YthfkajaeikhloaaGreatDoor.Xq
open Go
section
variable {P : Program}
theorem avEq_ok {a b : AV} (h : avEq a b = true) {E E' : Env} {v : Value} (k : VR E a v) : VR E' b v := by
  cases a <;> cases b <;> first | (simp [avEq] at h; done) | skip
  all_goals simp only [avEq] at h
  case bool.bool a b => cases a <;> cases b <;> first | exact k | cases h
  case int.int kd a kd' b =>
    split at h
    · rename_i q
      obtain rfl := kIdx_eq q
      obtain rfl := ieq_true h
      exact k
    · cases h
  case str.str l n l' n' =>
    unfold strEq at h
    split at h
    · rename_i q
      obtain rfl := Nat.eq_of_beq_eq_true q
      obtain rfl := Nat.eq_of_beq_eq_true h
      exact k
    · cases h
  all_goals exact k
theorem avsEq_ok : ∀ {l m : List AV}, avsEq l m = true → ∀ {E E' : Env} {vs : List Value}, VRL E l vs → VRL E' m vs
  | [], [], _, _, _, _, k => k
  | [], _ :: _, h, _, _, _, _ => by cases h
  | _ :: _, [], h, _, _, _, _ => by cases h
  | a :: l, b :: m, h, E, E', vs, k => by
    have h : (match avEq a b with | true => avsEq l m | false => false) = true := h
    split at h
    · rename_i q
      obtain ⟨x, xs, rfl, h1, h2⟩ := k
      exact VRL.cons (avEq_ok q h1) (avsEq_ok h h2)
    · cases h
/-- E' names block b, from 1000 on, as b - 1000 + n -/
def Sh (E E' : Env) (n : Nat) : Prop := ∀ b r c, 1000 ≤ b → E.ρ b = some (r, c) → E'.ρ (shiftN n b) = some (r, c)
theorem renB_ok {n b : Nat} {f : Nat → AV} {E' : Env} {v : Value} (h : 1000 ≤ b → VR E' (f (shiftN n b)) v) : VR E' (renB n b f) v := by
  unfold renB
  split
  · rename_i q; exact h (Nat.le_of_ble_eq_true q)
  · trivial
theorem renS_ok {E E' : Env} {n : Nat} (hs : Sh E E' n) {a : AV} {v : Value} (h : VR E a v) : VR E' (renS n a) v := by
  cases a
  case ptr b off =>
    show VR E' (renB n b fun b => .ptr b off) v
    exact renB_ok fun q => by obtain ⟨r, c, e, k⟩ := h; exact ⟨r, c, hs _ _ _ q e, k⟩
  case slice b off len cap =>
    show VR E' (renB n b fun b => .slice b off len cap) v
    exact renB_ok fun q => by obtain ⟨r, c, e, k⟩ := h; exact ⟨r, c, hs _ _ _ q e, k⟩
  case sliceT b off len es =>
    show VR E' (renB n b fun b => .sliceT b off len es) v
    exact renB_ok fun q => by obtain ⟨r, c, cap, e, k⟩ := h; exact ⟨r, c, cap, hs _ _ _ q e, k⟩
  case map b =>
    show VR E' (renB n b fun b => .map b) v
    exact renB_ok fun q => by obtain ⟨r, c, e, k⟩ := h; exact ⟨r, c, hs _ _ _ q e, k⟩
  all_goals first | exact h | exact trivial
theorem VRL.ren {E E' : Env} {f : AV → AV} (hf : ∀ {a v}, VR E a v → VR E' (f a) v) : ∀ {l : List AV} {vs : List Value}, VRL E l vs → VRL E' (mapL f l) vs
  | [], _, k => k
  | a :: l, vs, ⟨x, xs, e, h1, h2⟩ => by subst e; exact VRL.cons (hf h1) (VRL.ren hf h2)
theorem renC_ok {E E' : Env} {n : Nat} (hs : Sh E E' n) {a : AV} {v : Value} (h : VR E a v) : VR E' (renC n a) v := by
  cases a
  case func f cap => obtain ⟨vs, e, k⟩ := h; exact ⟨vs, e, VRL.ren (renS_ok hs) k⟩
  case iface t x => obtain ⟨y, e, k⟩ := h; exact ⟨y, e, renS_ok hs k⟩
  all_goals exact renS_ok hs h
theorem renD_ok {E E' : Env} {n : Nat} (hs : Sh E E' n) {a : AV} {v : Value} (h : VR E a v) : VR E' (renD n a) v := by
  cases a
  case agg l => obtain ⟨vs, e, k⟩ := h; exact ⟨vs, e, VRL.ren (renC_ok hs) k⟩
  all_goals exact renC_ok hs h
theorem renV_ok {E E' : Env} {n : Nat} (hs : Sh E E' n) {a : AV} {v : Value} (h : VR E a v) : VR E' (renV n a) v := by
  cases a
  case tuple l => obtain ⟨vs, e, k⟩ := h; exact ⟨vs, e, VRL.ren (renD_ok hs) k⟩
  all_goals exact renD_ok hs h
theorem MR.ren {E E' : Env} {n : Nat} (hs : Sh E E' n) : ∀ {l : List (AV × AV)} {es : List MapEntry}, MR E l es → MR E' (mapL (fun p => (renD n p.1, renD n p.2)) l) es
  | [], _, k => k
  | _ :: _, _, ⟨e, r, q, a, b, k⟩ => ⟨e, r, q, renD_ok hs a, renD_ok hs b, MR.ren hs k⟩
theorem renO_ok {E E' : Env} {n : Nat} (hs : Sh E E' n) {o o' : AObj} {r tot : Nat} {w : World} (k : OR E o r tot w) (ho : renO n o = some o') : OR E' o' r tot w := by
  cases o with
  | cells l t full => cases ho; obtain ⟨cs, vs, rest, a, b, c, d⟩ := k; exact ⟨cs, vs, rest, a, b, VRL.ren (renD_ok hs) c, d⟩
  | map es => cases ho; obtain ⟨ms, clock, a, b, st⟩ := k; exact ⟨ms, clock, a, MR.ren hs b, st⟩
  | loop n fr ps ca cb jump => cases ho
theorem entHeap_get {n : Nat} {h : Tr AObj} {l : List (Nat × AObj)} {b : Nat} {o : AObj} (k : (entHeap n h l).get (pathOf b) = some o) :
    (∃ x ∈ l, shiftN n x.1 = b ∧ renO n x.2 = some o) ∨ h.get (pathOf b) = some o := by
  induction l with
  | nil => exact .inr k
  | cons x l ih =>
    have k : (Tr.set (renO n x.2) (pathOf (shiftN n x.1)) (entHeap n h l)).get (pathOf b) = some o := k
    rw [Tr.get_set_of] at k
    split at k
    · rename_i q
      exact .inl ⟨x, List.mem_cons_self .., q, k⟩
    · rcases ih k with ⟨y, hy, q⟩ | q
      · exact .inl ⟨y, List.mem_cons_of_mem _ hy, q⟩
      · exact .inr q

noncomputable def sy00 : Sy := ⟨0, .leaf, [], .leaf⟩
noncomputable def glT (gl : List (Nat × List AV)) (t : Nat → Nat) : List (Nat × Nat × List AV) := mapL (fun g => (g.1, t g.1, g.2)) gl
/-- what is known of a function: the entry stands for what a call of it does, wherever the listed variables are as they were -/
def EntOk (P : Program) (f : Nat) (e : Ent) : Prop :=
  (∃ fn, bodyOf P f = some fn) ∧ ∀ (E : Env) (t : Nat → Nat) (w : World) (vs : Array Value), Rel P E (initS (glT e.gl t) 1000 sy00) w → VRL E e.args vs.toList →
    Calls P f vs w fun ex w' => ∃ E' s1 x, ex = .returned x ∧ VR E' e.val x ∧ Rel P E' s1 w' ∧ Step E (initS (glT e.gl t) 1000 sy00) w E' s1 w' ∧ s1.next = e.top ∧ ∀ x ∈ e.objs, 1000 ≤ x.1 ∧ hget s1 x.1 = some x.2
noncomputable def tyS (s : St) (g : Nat) : Nat := match hget s g with | some (.cells _ t _) => t | _ => 0
theorem entOk_use {f : Nat} {e : Ent} (hgl : ∀ g ∈ e.gl, g.1 < P.globals.size) (hsz : P.globals.size ≤ 1000) (he : EntOk P f e) {E : Env} {s : St} {w : World} {args : List AV} {vs : Array Value}
    (hR : Rel P E s w) (hv : VRL E args vs.toList) (ha : avsEq args e.args = true) (hg : glOk e.gl s = true) :
    Calls P f vs w fun ex w' => ∃ E' x, ex = .returned x ∧ VR E' (renV s.next e.val) x ∧ Rel P E' (entSt e s) w' ∧ Step E s w E' (entSt e s) w' := by
  have hg := (allL_iff _ _).1 hg
  let E0 : Env := ⟨fun b => if b < P.globals.size then E.ρ b else none, fun _ => none, fun _ => ByteArray.empty⟩
  have gmem : ∀ {b : Nat} {o : AObj}, hget (initS (glT e.gl (tyS s)) 1000 sy00) b = some o → ∃ g ∈ e.gl, g.1 = b ∧ o = .cells g.2 (tyS s b) true := fun {b o} hb => by
    obtain ⟨g, hgm, e1, e2⟩ := initHeap_get hb
    unfold glT at hgm
    rw [mapL_eq] at hgm
    obtain ⟨g', hg', rfl⟩ := List.mem_map.1 hgm
    subst e1
    exact ⟨g', hg', rfl, e2⟩
  have gold : ∀ {g : Nat × List AV}, g ∈ e.gl → ∃ l t, hget s g.1 = some (.cells l t true) ∧ avsEq l g.2 = true ∧ tyS s g.1 = t := fun {g} hm => by
    have := hg g hm
    split at this
    · rename_i l t q
      exact ⟨l, t, q, this, by unfold tyS; rw [q]⟩
    · cases this
  have hR0 : Rel P E0 (initS (glT e.gl (tyS s)) 1000 sy00) w := by
    refine ⟨fun b o hb => ?_, fun b b' o o' r c c' hb hb' h1 h2 => ?_, fun b hb => ?_, fun g r c hgs h => ?_, hsz, ?_⟩
    · obtain ⟨g, hm, rfl, rfl⟩ := gmem hb
      obtain ⟨l, t, h1, h2, rfl⟩ := gold hm
      obtain ⟨r, c, h3, cs, us, rest, h4, h5, h6, h7, h8⟩ := hR.heap _ _ h1
      refine ⟨r, c, ?_, cs, us, rest, h4, h5, avsEq_ok h2 h6, h7, h8⟩
      show (if g.1 < P.globals.size then E.ρ g.1 else none) = _
      rw [if_pos (hgl g hm), h3]
    · obtain ⟨g, hm, rfl, rfl⟩ := gmem hb
      obtain ⟨g', hm', rfl, rfl⟩ := gmem hb'
      obtain ⟨l, t, k1, _⟩ := gold hm
      obtain ⟨l', t', k1', _⟩ := gold hm'
      have h1 : (if g.1 < P.globals.size then E.ρ g.1 else none) = some (r, c) := h1
      have h2 : (if g'.1 < P.globals.size then E.ρ g'.1 else none) = some (r, c') := h2
      rw [if_pos (hgl g hm)] at h1
      rw [if_pos (hgl g' hm')] at h2
      exact hR.inj _ _ _ _ _ _ _ k1 k1' h1 h2
    · have hb : 1000 ≤ b := hb
      show (if b < P.globals.size then E.ρ b else none) = none
      rw [if_neg (by omega)]
    · have h : (if g < P.globals.size then E.ρ g else none) = some (r, c) := h
      rw [if_pos hgs] at h
      exact hR.glob g r c hgs h
    · refine ⟨fun _ _ => rfl, fun i lo hi h => ?_, fun m hm => (by cases hm), fun i l n h => ?_, fun i ls h => ?_⟩
      · have h : Tr.get (pathOf i) (.leaf : Tr (Int × Int)) = some (lo, hi) := h
        rw [get_leaf] at h; cases h
      · have h : Tr.get (pathOf i) (.leaf : Tr SF) = some (.known l n) := h
        rw [get_leaf] at h; cases h
      · have h : Tr.get (pathOf i) (.leaf : Tr SF) = some (.excl ls) := h
        rw [get_leaf] at h; cases h
  refine Calls.mono (he.2 E0 (tyS s) w vs hR0 (avsEq_ok ha hv)) fun ex w' ⟨E1, s1, x, hx, hvx, hR1, st, htop, hobj⟩ => ?_
  have noown : ∀ {b : Nat} {o : AObj}, hget (initS (glT e.gl (tyS s)) 1000 sy00) b = some o → ¬ 1000 ≤ b := fun {b o} hb hle => by
    obtain ⟨g, hm, rfl, _⟩ := gmem hb
    have := hgl g hm
    omega
  have kept : ∀ r, r < w.heap.size → w'.heap[r]? = w.heap[r]? := fun r hr => st.keep r hr fun b o c hb hbase => absurd hbase (noown hb)
  have b1 : s1.base = 1000 := st.base
  have high : ∀ {b : Nat} {o : AObj} {r c : Nat}, hget s1 b = some o → 1000 ≤ b → E1.ρ b = some (r, c) → w.heap.size ≤ r := fun {b o r c} hb hle hρ => by
    apply Nat.le_of_not_lt
    intro hlt
    obtain ⟨b0, o0, c0, q1, q2, _⟩ := st.dom b o r c hb (by rw [b1]; exact hle) hρ hlt
    exact noown q1 q2
  have n1 : 1000 ≤ s1.next := st.next
  let E' : Env := ⟨fun b => if b < s.next then E.ρ b else E1.ρ (b - s.next + 1000), E.σ, E.ς⟩
  have sh : Sh E1 E' s.next := fun b r c hb hρ => by
    show (if shiftN s.next b < s.next then E.ρ (shiftN s.next b) else E1.ρ (shiftN s.next b - s.next + 1000)) = some (r, c)
    unfold shiftN
    rw [if_neg (by omega), show b - 1000 + s.next - s.next + 1000 = b by omega]
    exact hρ
  have dec : ∀ {b : Nat} {r : Nat × Nat}, E.ρ b = some r → b < s.next := fun {b r} q => by
    apply Nat.lt_of_not_le
    intro hle
    rw [hR.fresh b hle] at q; cases q
  have keepρ : ∀ {b : Nat}, b < s.next → E'.ρ b = E.ρ b := fun {b} hb => by
    show (if b < s.next then E.ρ b else E1.ρ (b - s.next + 1000)) = _
    rw [if_pos hb]
  have ext : Ext E E' := ⟨fun b q h => (keepρ (dec h)).trans h, fun i n h => h, rfl⟩
  have find : ∀ {b : Nat} {o : AObj}, hget (entSt e s) b = some o → (∃ x ∈ e.objs, shiftN s.next x.1 = b ∧ renO s.next x.2 = some o) ∨ hget s b = some o := fun {b o} hb => entHeap_get hb
  -- a new block: its row
  have newρ : ∀ {x : Nat × AObj}, x ∈ e.objs → ∃ r c, E1.ρ x.1 = some (r, c) ∧ E'.ρ (shiftN s.next x.1) = some (r, c) ∧ OR E1 x.2 r c w' ∧ w.heap.size ≤ r ∧ hget s1 x.1 = some x.2 := fun {x} hm => by
    obtain ⟨h1, h2⟩ := hobj x hm
    obtain ⟨r, c, h3, h4⟩ := hR1.heap _ _ h2
    exact ⟨r, c, h3, sh _ _ _ h1 h3, h4, high h2 h1 h3, h2⟩
  refine ⟨E', x, hx, renV_ok sh hvx, ⟨fun b o hb => ?_, fun b b' o o' r c c' hb hb' h1 h2 => ?_, fun b hb => ?_, fun g r c hgs h => ?_, ?_, ?_⟩, ⟨ext, rfl, ?_, fun b hb => keepρ hb, st.os, st.tape, st.output, st.size, fun r hr _ => kept r hr, fun b o r c hb hbase hρ hr => ?_, fun b hb _ => ?_⟩⟩
  · rcases find hb with ⟨y, hy, rfl, ho⟩ | q
    · obtain ⟨r, c, _, h2, h3, _⟩ := newρ hy
      exact ⟨r, c, h2, renO_ok sh h3 ho⟩
    · obtain ⟨r, c, h1, h2⟩ := hR.heap _ _ q
      exact ⟨r, c, (keepρ (dec h1)).trans h1, (h2.world (kept r h2.lt)).mono ext⟩
  · rcases find hb with ⟨y, hy, rfl, ho⟩ | q <;> rcases find hb' with ⟨y', hy', rfl, ho'⟩ | q'
    · obtain ⟨r1, c1, k1, k2, k3, k4, k5⟩ := newρ hy
      obtain ⟨r2, c2, m1, m2, m3, m4, m5⟩ := newρ hy'
      rw [k2] at h1; cases h1
      rw [m2] at h2; cases h2
      rw [hR1.inj _ _ _ _ _ _ _ k5 m5 k1 m1]
    · obtain ⟨r1, c1, k1, k2, k3, k4, k5⟩ := newρ hy
      obtain ⟨r2, c2, m1, m2⟩ := hR.heap _ _ q'
      rw [k2] at h1; cases h1
      rw [keepρ (dec m1), m1] at h2; cases h2
      have := m2.lt
      omega
    · obtain ⟨r1, c1, k1, k2, k3, k4, k5⟩ := newρ hy'
      obtain ⟨r2, c2, m1, m2⟩ := hR.heap _ _ q
      rw [k2] at h2; cases h2
      rw [keepρ (dec m1), m1] at h1; cases h1
      have := m2.lt
      omega
    · obtain ⟨r1, c1, k1, k2⟩ := hR.heap _ _ q
      obtain ⟨r2, c2, m1, m2⟩ := hR.heap _ _ q'
      rw [keepρ (dec k1)] at h1
      rw [keepρ (dec m1)] at h2
      exact hR.inj _ _ _ _ _ _ _ q q' h1 h2
  · have hb : s.next + (e.top - 1000) ≤ b := hb
    show (if b < s.next then E.ρ b else E1.ρ (b - s.next + 1000)) = none
    rw [if_neg (by omega)]
    exact hR1.fresh _ (by omega)
  · have := hR.next
    rw [keepρ (by omega)] at h
    exact hR.glob g r c hgs h
  · exact Nat.le_trans hR.next (Nat.le_add_right _ _)
  · exact ⟨hR.sy.fresh, hR.sy.ints, hR.sy.memo, hR.sy.known, hR.sy.excl⟩
  · exact Nat.le_add_right _ _
  · rcases find hb with ⟨y, hy, rfl, ho⟩ | q
    · obtain ⟨r1, c1, k1, k2, k3, k4, k5⟩ := newρ hy
      rw [k2] at hρ; cases hρ
      omega
    · obtain ⟨r1, c1, k1, k2⟩ := hR.heap _ _ q
      exact ⟨b, o, c, q, hbase, by rw [← keepρ (dec k1)]; exact hρ⟩
  · -- names before the next one are as they were
    have go : ∀ l : List (Nat × AObj), (entHeap s.next s.heap l).get (pathOf b) = s.heap.get (pathOf b) := by
      intro l
      induction l with
      | nil => rfl
      | cons x l ih =>
        show (Tr.set (renO s.next x.2) (pathOf (shiftN s.next x.1)) (entHeap s.next s.heap l)).get (pathOf b) = _
        rw [Tr.get_set_of, if_neg, ih]
        unfold shiftN
        omega
    exact go e.objs
/-- a function without a body: what it gives, in these words -/
def ExtOk (P : Program) (f : Nat) (g : List AV → Option AV) : Prop :=
  ∀ (E : Env) (args : List AV) (vs : Array Value) (v : AV) (w : World), VRL E args vs.toList → g args = some v → ∃ x, (callFunc f vs).run P w = .ok (.value x) w ∧ VR E v x
/-! functions over slices whose contents are known -/
noncomputable def argOf (b : Nat) (p : PSl) : AV := match p.tail with | true => .sliceT b p.off p.len p.cap | false => .slice b p.off p.len p.cap
noncomputable def argsFrom : Nat → List PSl → List AV
  | _, [] => []
  | b, p :: ps => argOf b p :: argsFrom (b + 1) ps
noncomputable def heapP : Nat → List PSl → Tr AObj
  | _, [] => .leaf
  | b, p :: ps => (heapP (b + 1) ps).set (some (.cells p.l p.t p.full)) (pathOf b)
noncomputable def initP (ps : List PSl) : St := ⟨heapP 1000 ps, 1000 + ps.length, 1000 + ps.length, sy00⟩
def HEntOk (P : Program) (f : Nat) (e : HEnt) : Prop :=
  (∃ fn, bodyOf P f = some fn) ∧ ∀ (E : Env) (w : World) (vs : Array Value), Rel P E (initP e.args) w → VRL E (argsFrom 1000 e.args) vs.toList →
    Calls P f vs w fun ex w' => ∃ E' s1 x, ex = .returned x ∧ VR E' e.val x ∧ Rel P E' s1 w' ∧ Step E (initP e.args) w E' s1 w'
def Ground : AV → Prop
  | .bool _ => True
  | .int _ _ => True
  | .str _ _ => True
  | _ => False
theorem Ground.vr {v : AV} (g : Ground v) {E E' : Env} {x : Value} (h : VR E v x) : VR E' v x := by
  cases v <;> first | exact h | exact g.elim
theorem beqB_eq {a b : Bool} (h : beqB a b = true) : a = b := by cases a <;> cases b <;> first | rfl | cases h
theorem objIs_ok {s : St} {b : Nat} {p : PSl} (h : objIs s b p = true) : ∃ l, hget s b = some (.cells l p.t p.full) ∧ avsEq l p.l = true := by
  unfold objIs at h
  split at h
  · rename_i l t full q
    split at h
    · rename_i q1
      split at h
      · rename_i q2
        rw [beqB_eq q1, Nat.eq_of_beq_eq_true q2] at q
        exact ⟨l, q, h⟩
      · cases h
    · cases h
  · cases h
theorem slIs_ok {s : St} {p : PSl} {v : AV} {b : Nat} (h : slIs s p v = some b) : v = argOf b p ∧ objIs s b p = true := by
  unfold slIs at h
  unfold argOf
  split at h
  · split at h
    · cases h
    · rename_i ht
      split at h
      · rename_i q1 q2 q3
        split at h
        · rename_i q
          cases h
          rw [ht, Nat.eq_of_beq_eq_true q1, Nat.eq_of_beq_eq_true q2, Nat.eq_of_beq_eq_true q3]
          exact ⟨rfl, q⟩
        · cases h
      · cases h
  · split at h
    · cases h
    · rename_i ht
      split at h
      · rename_i q1 q2 q3
        split at h
        · rename_i q
          cases h
          rw [ht, Nat.eq_of_beq_eq_true q1, Nat.eq_of_beq_eq_true q2, Nat.eq_of_beq_eq_true q3]
          exact ⟨rfl, q⟩
        · cases h
      · cases h
  · cases h
theorem memN_ok {b : Nat} : ∀ {l : List Nat}, memB b l = false → b ∉ l
  | [], _ => List.not_mem_nil
  | x :: l, h => by
    have h : (match Nat.beq b x with | true => true | false => memB b l) = false := h
    split at h
    · cases h
    · rename_i q
      intro hm
      rcases List.mem_cons.1 hm with rfl | hm
      · rw [Nat.beq_refl] at q; cases q
      · exact memN_ok h hm
/-- the slices are there, each with its block -/
def Sls (s : St) : List PSl → List AV → List Nat → Prop
  | [], vs, bs => vs = [] ∧ bs = []
  | p :: ps, vs, bs => ∃ v us b cs, vs = v :: us ∧ bs = b :: cs ∧ v = argOf b p ∧ objIs s b p = true ∧ b ∉ cs ∧ Sls s ps us cs
theorem slsIs_ok {s : St} : ∀ {ps : List PSl} {vs : List AV} {bs : List Nat}, slsIs s ps vs = some bs → Sls s ps vs bs
  | [], [], bs, h => by cases h; exact ⟨rfl, rfl⟩
  | [], _ :: _, bs, h => by cases h
  | p :: ps, [], bs, h => by cases h
  | p :: ps, v :: vs, bs, h => by
    have h : (match slIs s p v with
      | none => none
      | some b => match slsIs s ps vs with
        | none => none
        | some bs => match memB b bs with | true => none | false => some (b :: bs)) = some bs := h
    split at h
    · cases h
    · rename_i b hb
      split at h
      · cases h
      · rename_i cs hcs
        split at h
        · cases h
        · rename_i hm
          cases h
          obtain ⟨h1, h2⟩ := slIs_ok hb
          exact ⟨v, vs, b, cs, rfl, rfl, h1, h2, memN_ok hm, slsIs_ok hcs⟩
/-- the block of the name 1000 + j -/
theorem Sls.get {s : St} : ∀ {ps : List PSl} {vs : List AV} {bs : List Nat}, Sls s ps vs bs → ∀ {j : Nat} {p : PSl}, ps[j]? = some p → ∃ b, bs[j]? = some b ∧ objIs s b p = true
  | [], _, _, _, j, p, h => by cases h
  | q :: ps, vs, bs, ⟨v, us, b, cs, e1, e2, e3, e4, e5, e6⟩, j, p, h => by
    subst e2
    cases j with
    | zero => cases h; exact ⟨b, rfl, e4⟩
    | succ j => exact Sls.get e6 h
theorem Sls.nodup {s : St} : ∀ {ps : List PSl} {vs : List AV} {bs : List Nat}, Sls s ps vs bs → bs.Nodup
  | [], _, _, ⟨_, e⟩ => by subst e; exact List.nodup_nil
  | q :: ps, vs, bs, ⟨v, us, b, cs, e1, e2, e3, e4, e5, e6⟩ => by subst e2; exact List.nodup_cons.2 ⟨e5, Sls.nodup e6⟩
theorem Sls.length {s : St} : ∀ {ps : List PSl} {vs : List AV} {bs : List Nat}, Sls s ps vs bs → bs.length = ps.length
  | [], _, _, ⟨_, e⟩ => by subst e; rfl
  | q :: ps, vs, bs, ⟨v, us, b, cs, e1, e2, e3, e4, e5, e6⟩ => by subst e2; simp [Sls.length e6]
theorem Sls.vrl {s : St} {E E0 : Env} (n : Nat) : ∀ {ps : List PSl} {vs : List AV} {bs : List Nat} {xs : List Value}, Sls s ps vs bs → VRL E vs xs → (∀ j b, bs[j]? = some b → E0.ρ (n + j) = E.ρ b) → VRL E0 (argsFrom n ps) xs
  | [], _, _, xs, ⟨e, _⟩, h, _ => by subst e; exact h
  | p :: ps, vs, bs, xs, ⟨v, us, b, cs, e1, e2, e3, e4, e5, e6⟩, h, hρ => by
    subst e1; subst e2; subst e3
    obtain ⟨y, ys, rfl, h1, h2⟩ := h
    have h0 : E0.ρ n = E.ρ b := hρ 0 b rfl
    refine VRL.cons ?_ (Sls.vrl (n + 1) e6 h2 fun j c hc => by rw [show n + 1 + j = n + (j + 1) by omega]; exact hρ (j + 1) c hc)
    unfold argOf at h1 ⊢
    split at h1
    · obtain ⟨r, c, cap, g1, g2⟩ := h1
      exact ⟨r, c, cap, h0.trans g1, g2⟩
    · obtain ⟨r, c, g1, g2⟩ := h1
      exact ⟨r, c, h0.trans g1, g2⟩
theorem heapP_get : ∀ {ps : List PSl} {n b : Nat} {o : AObj}, (heapP n ps).get (pathOf b) = some o → ∃ j p, ps[j]? = some p ∧ b = n + j ∧ o = .cells p.l p.t p.full
  | [], n, b, o, h => by
    have h : (Tr.get (pathOf b) (.leaf : Tr AObj)) = some o := h
    rw [get_leaf] at h; cases h
  | p :: ps, n, b, o, h => by
    have h : (Tr.set (some (.cells p.l p.t p.full)) (pathOf n) (heapP (n + 1) ps)).get (pathOf b) = some o := h
    rw [Tr.get_set_of] at h
    split at h
    · rename_i q
      cases h
      exact ⟨0, p, rfl, by omega, rfl⟩
    · obtain ⟨j, q, h1, h2, h3⟩ := heapP_get h
      exact ⟨j + 1, q, h1, by omega, h3⟩
theorem hEnt_use {f : Nat} {e : HEnt} (hsz : P.globals.size ≤ 1000) (hg : Ground e.val) (he : HEntOk P f e) {E : Env} {s : St} {w : World} {args : List AV} {vs : Array Value} {bs : List Nat}
    (hR : Rel P E s w) (hv : VRL E args vs.toList) (hs : Sls s e.args args bs) :
    Calls P f vs w fun ex w' => ∃ E' x, ex = .returned x ∧ VR E' e.val x ∧ Rel P E' s w' ∧ Step E s w E' s w' := by
  let E0 : Env := ⟨fun b => if 1000 ≤ b then (bs[b - 1000]?).bind E.ρ else none, fun _ => none, fun _ => ByteArray.empty⟩
  have ρ0 : ∀ j, E0.ρ (1000 + j) = (bs[j]?).bind E.ρ := fun j => by
    show (if 1000 ≤ 1000 + j then (bs[1000 + j - 1000]?).bind E.ρ else none) = _
    rw [if_pos (by omega), show 1000 + j - 1000 = j by omega]
  have row : ∀ {b : Nat} {o : AObj}, hget (initP e.args) b = some o → ∃ j p c l, e.args[j]? = some p ∧ b = 1000 + j ∧ o = .cells p.l p.t p.full ∧ bs[j]? = some c ∧ hget s c = some (.cells l p.t p.full) ∧ avsEq l p.l = true := fun {b o} hb => by
    obtain ⟨j, p, h1, h2, h3⟩ := heapP_get hb
    obtain ⟨c, h4, h5⟩ := hs.get h1
    obtain ⟨l, h6, h7⟩ := objIs_ok h5
    exact ⟨j, p, c, l, h1, h2, h3, h4, h6, h7⟩
  have hR0 : Rel P E0 (initP e.args) w := by
    refine ⟨fun b o hb => ?_, fun b b' o o' r c c' hb hb' h1 h2 => ?_, fun b hb => ?_, fun g r c hgs h => ?_, Nat.le_trans hsz (Nat.le_add_right _ _), ?_⟩
    · obtain ⟨j, p, c, l, h1, rfl, rfl, h4, h5, h6⟩ := row hb
      obtain ⟨r, tot, g1, cs, us, rest, g2, g3, g4, g5, g6⟩ := hR.heap _ _ h5
      refine ⟨r, tot, by rw [ρ0, h4]; exact g1, cs, us, rest, g2, g3, avsEq_ok h6 g4, g5, g6⟩
    · obtain ⟨j, p, d, l, q1, rfl, rfl, q4, q5, q6⟩ := row hb
      obtain ⟨j', p', d', l', k1, rfl, rfl, k4, k5, k6⟩ := row hb'
      rw [ρ0, q4] at h1
      rw [ρ0, k4] at h2
      have := hR.inj _ _ _ _ _ _ _ q5 k5 h1 h2
      subst this
      have hj : j < bs.length := (List.getElem?_eq_some_iff.1 q4).1
      have : j = j' := (List.getElem?_inj hj hs.nodup).1 (q4.trans k4.symm)
      omega
    · have hb : 1000 + e.args.length ≤ b := hb
      show (if 1000 ≤ b then (bs[b - 1000]?).bind E.ρ else none) = none
      rw [if_pos (by omega), List.getElem?_eq_none (by rw [hs.length]; omega)]
      rfl
    · have h : (if 1000 ≤ g then (bs[g - 1000]?).bind E.ρ else none) = some (r, c) := h
      rw [if_neg (by omega)] at h; cases h
    · refine ⟨fun _ _ => rfl, fun i lo hi h => ?_, fun m hm => (by cases hm), fun i l n h => ?_, fun i ls h => ?_⟩
      · have h : Tr.get (pathOf i) (.leaf : Tr (Int × Int)) = some (lo, hi) := h
        rw [get_leaf] at h; cases h
      · have h : Tr.get (pathOf i) (.leaf : Tr SF) = some (.known l n) := h
        rw [get_leaf] at h; cases h
      · have h : Tr.get (pathOf i) (.leaf : Tr SF) = some (.excl ls) := h
        rw [get_leaf] at h; cases h
  refine Calls.mono (he.2 E0 w vs hR0 (hs.vrl 1000 hv fun j b hb => by rw [ρ0, hb]; rfl)) fun ex w' ⟨E1, s1, x, hx, hvx, hR1, st⟩ => ?_
  have kept : ∀ r, r < w.heap.size → w'.heap[r]? = w.heap[r]? := fun r hr => st.keep r hr fun b o c hb hbase _ => by
    obtain ⟨j, p, c, l, h1, rfl, _⟩ := row hb
    have hbase : 1000 + e.args.length ≤ 1000 + j := hbase
    have := (List.getElem?_eq_some_iff.1 h1).1
    omega
  refine ⟨E, x, hx, hg.vr hvx, ⟨fun b o hb => ?_, hR.inj, hR.fresh, hR.glob, hR.next, hR.sy⟩, ⟨Ext.refl E, rfl, Nat.le_refl _, fun _ _ => rfl, st.os, st.tape, st.output, st.size, fun r hr _ => kept r hr, fun b o r c hb hbase hρ _ => ⟨b, o, c, hb, hbase, hρ⟩, fun _ _ _ => rfl⟩⟩
  obtain ⟨r, c, h1, h2⟩ := hR.heap _ _ hb
  exact ⟨r, c, h1, h2.world (kept r h2.lt)⟩
/-- what is known of a function in whatever state -/
def WsOk (P : Program) (f : Nat) (g : St → List AV → Option (AV × St)) : Prop :=
  ∀ (E : Env) (s : St) (w : World) (args : List AV) (vs : Array Value) (v : AV) (s' : St), Rel P E s w → VRL E args vs.toList → g s args = some (v, s') → CallRes P E s w f vs fun u s1 => u = v ∧ s1 = s'
/-- a function that answers some bool, and changes nothing that was there -/
def BoolOk (P : Program) (f : Nat) (g : St → List AV → Bool) : Prop := ∀ (E : Env) (s : St) (w : World) (args : List AV) (vs : Array Value), Rel P E s w → VRL E args vs.toList → g s args = true →
  (∃ fn, bodyOf P f = some fn) ∧ Calls P f vs w fun e w' => ∃ b, e = .returned (.bool b) ∧ Rel P E s w' ∧ Step E s w E s w'
theorem rel_below {E : Env} {s : St} {w w' : World} (hR : Rel P E s w) (h : RowKit.Below w.heap.size w w') : Rel P E s w' ∧ Step E s w E s w' :=
  ⟨⟨fun b o hb => by
      obtain ⟨r, c, e, hO⟩ := hR.heap b o hb
      exact ⟨r, c, e, hO.world (h.block r hO.lt)⟩, hR.inj, hR.fresh, hR.glob, hR.next, hR.sy⟩,
    ⟨Ext.refl E, rfl, Nat.le_refl _, fun _ _ => rfl, h.os, h.tape, h.output, h.size, fun r hr _ => h.block r hr, fun b o r c hb hbase hρ _ => ⟨b, o, c, hb, hbase, hρ⟩, fun _ _ _ => rfl⟩⟩
/-- of an unknown string -/
theorem strsX_ok {f : Nat} (hb : (bodyOf P f).isSome = true) (h : ∀ (a : ByteArray) (w : World), a.size ≤ 1000000 → Calls P f #[.string a] w fun e w' => (∃ b, e = .returned (.bool b)) ∧ RowKit.Below w.heap.size w w') : BoolOk P f strsX := by
  intro E s w args vs hR hv hg
  refine ⟨Option.isSome_iff_exists.1 hb, ?_⟩
  unfold strsX at hg
  split at hg
  · rename_i i j
    obtain ⟨x, xs, e, ⟨rfl, hj⟩, hxs⟩ := hv
    have hxs : xs = [] := hxs
    subst hxs
    have evs : vs = #[.string (E.ς i)] := by rw [← Array.toArray_toList (xs := vs), e]
    subst evs
    split at hg
    · rename_i lo hi hiv
      obtain ⟨n, hn, _, h2⟩ := hR.sy.ints j _ _ hiv
      rw [hj] at hn; cases hn
      have hlt : hi < 1000000 := by
        rw [ilt_iff] at hg
        exact of_decide_eq_true hg
      exact Calls.mono (h (E.ς i) w (by omega)) fun e w' ⟨⟨b, he⟩, hbel⟩ => ⟨b, he, rel_below hR hbel⟩
    · cases hg
  · cases hg
/-- (*sync.Once).Do is such a function -/
def OnceOk (P : Program) (f : Nat) : Prop := ∀ (call : CallT), CallOk P call → ∀ (R : Type) (A : Ans R) (Pr : R → Prop), Lawful A Pr → ∀ (E : Env) (s : St) (w : World) (args : List AV) (vs : Array Value) (k : KV R), Rel P E s w → VRL E args vs.toList →
    Pr (onceA P call R A args s k) → CallRes P E s w f vs fun v s' => Pr (k v s')
/-- all entries hold: the table does -/
theorem smOk_of {sm : Sm} (hsz : P.globals.size ≤ 1000) (h : ∀ f l, sm.fs.get (pathOf f) = some l → ∀ e ∈ l, (∀ g ∈ e.gl, g.1 < P.globals.size) ∧ EntOk P f e)
    (hx : ∀ f g, sm.xs.get (pathOf f) = some g → ExtOk P f g) (hh : ∀ f l, sm.hs.get (pathOf f) = some l → ∀ e ∈ l, Ground e.val ∧ HEntOk P f e)
    (hw : ∀ f g, sm.ws.get (pathOf f) = some g → WsOk P f g) (ho : ∀ f, isOnce sm f = true → OnceOk P f) (hbo : ∀ f g, sm.bs.get (pathOf f) = some g → BoolOk P f g) : SmOk P sm := by
  refine ⟨fun E s w f args vs v s' hR hv hf => ?_, fun call hC R A Pr hA E s w f args vs k hR hv h => ho f h call hC R A Pr hA E s w args vs k hR hv, fun E s w f args vs hR hv h => by
    unfold isBool at h
    cases hg : sm.bs.get (pathOf f) with
    | none => rw [hg] at h; cases h
    | some g => rw [hg] at h; exact hbo f g hg E s w args vs hR hv h⟩
  unfold smFind at hf
  cases hl : sm.fs.get (pathOf f) with
  | none =>
    rw [hl] at hf
    have hf : (orec (orec (orec none (fun g => g s args) (sm.ws.get (pathOf f))) (fun l => hFind s args l) (sm.hs.get (pathOf f))) (fun g => orec none (fun v => some (v, s)) (g args)) (sm.xs.get (pathOf f)) : Option (AV × St)) = some (v, s') := hf
    cases hg : sm.xs.get (pathOf f) with
    | none =>
      rw [hg] at hf
      have hf : (orec (orec none (fun g => g s args) (sm.ws.get (pathOf f))) (fun l => hFind s args l) (sm.hs.get (pathOf f)) : Option (AV × St)) = some (v, s') := hf
      cases hq : sm.hs.get (pathOf f) with
      | none =>
        rw [hq] at hf
        have hf : (orec none (fun g => g s args) (sm.ws.get (pathOf f)) : Option (AV × St)) = some (v, s') := hf
        cases hz : sm.ws.get (pathOf f) with
        | none => rw [hz] at hf; cases hf
        | some g =>
          rw [hz] at hf
          exact hw f g hz E s w args vs v s' hR hv hf
      | some l =>
        rw [hq] at hf
        have go : ∀ m : List HEnt, (∀ e ∈ m, Ground e.val ∧ HEntOk P f e) → hFind s args m = some (v, s') → ∃ e bs, (Ground e.val ∧ HEntOk P f e) ∧ slsIs s e.args args = some bs ∧ v = e.val ∧ s' = s := by
          intro m
          induction m with
          | nil => intro _ q; cases q
          | cons e m ih =>
            intro hm q
            have q : (match slsIs s e.args args with | some _ => some (e.val, s) | none => hFind s args m) = some (v, s') := q
            split at q
            · rename_i bs q1
              cases q
              exact ⟨e, bs, hm e (List.mem_cons_self ..), q1, rfl, rfl⟩
            · exact ih (fun e he => hm e (List.mem_cons_of_mem _ he)) q
        obtain ⟨e, bs, h1, h2, rfl, rfl⟩ := go l (hh f l hq) hf
        exact .inl ⟨h1.2.1, Calls.mono (hEnt_use hsz h1.1 h1.2 hR hv (slsIs_ok h2)) fun ex w' ⟨E', x, g1, g2, g3, g4⟩ => ⟨_, _, E', x, g1, g2, g3, g4, rfl, rfl⟩⟩
    | some g =>
      rw [hg] at hf
      have hf : (orec none (fun v => some (v, s)) (g args) : Option (AV × St)) = some (v, s') := hf
      cases hv' : g args with
      | none => rw [hv'] at hf; cases hf
      | some u =>
        rw [hv'] at hf
        cases hf
        obtain ⟨x, h1, h2⟩ := hx f g hg E args vs _ w hv hv'
        exact .inr (.inl ⟨_, x, h1, h2, rfl, rfl⟩)
  | some l =>
    rw [hl] at hf
    have go : ∀ m : List Ent, (∀ e ∈ m, (∀ g ∈ e.gl, g.1 < P.globals.size) ∧ EntOk P f e) → (lrec none (fun e _ ih => match avsEq args e.args with
      | true => (match glOk e.gl s with | true => some (renV s.next e.val, entSt e s) | false => none)
      | false => ih) m : Option (AV × St)) = some (v, s') → ∃ e, ((∀ g ∈ e.gl, g.1 < P.globals.size) ∧ EntOk P f e) ∧ avsEq args e.args = true ∧ glOk e.gl s = true ∧ v = renV s.next e.val ∧ s' = entSt e s := by
      intro m
      induction m with
      | nil => intro _ q; cases q
      | cons e m ih =>
        intro hm q
        have q : (match avsEq args e.args with
          | true => (match glOk e.gl s with | true => some (renV s.next e.val, entSt e s) | false => none)
          | false => (lrec none (fun e _ ih => match avsEq args e.args with
            | true => (match glOk e.gl s with | true => some (renV s.next e.val, entSt e s) | false => none)
            | false => ih) m : Option (AV × St))) = some (v, s') := q
        split at q
        · rename_i q1
          split at q
          · rename_i q2
            cases q
            exact ⟨e, hm e (List.mem_cons_self ..), q1, q2, rfl, rfl⟩
          · cases q
        · exact ih (fun e he => hm e (List.mem_cons_of_mem _ he)) q
    obtain ⟨e, h1, h2, h3, rfl, rfl⟩ := go l (h f l hl) hf
    exact .inl ⟨h1.2.1, Calls.mono (entOk_use h1.1 hsz h1.2 hR hv h2 h3) fun ex w' ⟨E', x, g1, g2, g3, g4⟩ => ⟨_, _, E', x, g1, g2, g3, g4, rfl, rfl⟩⟩
/-! a table by its list -/
noncomputable def trL {α : Type} (l : List (Nat × α)) : Tr α := lrec .leaf (fun x _ ih => ih.set (some x.2) (pathOf x.1)) l
theorem trL_get {α : Type} {l : List (Nat × α)} {f : Nat} {es : α} (h : (trL l).get (pathOf f) = some es) : (f, es) ∈ l := by
  induction l with
  | nil =>
    have h : (Tr.get (pathOf f) (.leaf : Tr α)) = some es := h
    rw [get_leaf] at h; cases h
  | cons x l ih =>
    have h : (Tr.set (some x.2) (pathOf x.1) (trL l)).get (pathOf f) = some es := h
    rw [Tr.get_set_of] at h
    split at h
    · rename_i q
      cases h; subst q
      exact List.mem_cons_self ..
    · exact List.mem_cons_of_mem _ (ih h)
/-- an entry that holds, and whose variables are some -/
def EntAt (P : Program) (f : Nat) (e : Ent) : Prop := (∀ g ∈ e.gl, g.1 < P.globals.size) ∧ EntOk P f e
/-- an entry over slices, that holds -/
def HEntAt (P : Program) (f : Nat) (e : HEnt) : Prop := Ground e.val ∧ HEntOk P f e
theorem smOk_list {l : List (Nat × List Ent)} {xl : List (Nat × (List AV → Option AV))} {hl : List (Nat × List HEnt)} (hsz : Nat.ble P.globals.size 1000 = true) (h : ∀ x ∈ l, ∀ e ∈ x.2, EntAt P x.1 e) (hx : ∀ x ∈ xl, ExtOk P x.1 x.2)
    (hh : ∀ x ∈ hl, ∀ e ∈ x.2, HEntAt P x.1 e) {wl : List (Nat × (St → List AV → Option (AV × St)))} {once : Option Nat} (hw : ∀ x ∈ wl, WsOk P x.1 x.2) (ho : ∀ f, once = some f → OnceOk P f) {bl : List (Nat × (St → List AV → Bool))} (hbo : ∀ x ∈ bl, BoolOk P x.1 x.2) : SmOk P ⟨trL l, trL xl, trL hl, trL wl, once, trL bl⟩ :=
  smOk_of (Nat.le_of_ble_eq_true hsz) (fun f es hf e he => h (f, es) (trL_get hf) e he) (fun f g hg => hx (f, g) (trL_get hg)) (fun f es hf e he => hh (f, es) (trL_get hf) e he) (fun f g hg => hw (f, g) (trL_get hg)) (fun f hf => by
    unfold isOnce at hf
    cases once with
    | none => cases hf
    | some g => exact ho f (by rw [Nat.eq_of_beq_eq_true hf])) fun f g hg => hbo (f, g) (trL_get hg)
/-! bytes counted and found -/
theorem beq256 (x : UInt8) (c : Nat) : Nat.beq x.toNat (Nat.mod c 256) = (x == c.toUInt8) := by
  have h : (c.toUInt8).toNat = c % 256 := UInt8.toNat_ofNat'
  have h' : Nat.mod c 256 = (c.toUInt8).toNat := h.symm
  rw [h']
  cases q : (x == c.toUInt8) with
  | true =>
    have : x = c.toUInt8 := by simpa using q
    subst this
    exact Nat.beq_refl _
  | false =>
    have : x ≠ c.toUInt8 := by simpa using q
    cases e : Nat.beq x.toNat (c.toUInt8).toNat with
    | true => exact absurd (UInt8.toNat_inj.1 (Nat.eq_of_beq_eq_true e)) this
    | false => rfl
theorem cntB_ok (c : Nat) : ∀ (m : Nat) (l : List UInt8), l.length = m → cntB c m (num l 0) = l.count c.toUInt8
  | 0, l, h => by
    obtain rfl := List.length_eq_zero_iff.1 h
    rfl
  | m + 1, l, h => by
    obtain ⟨l', x, rfl⟩ : ∃ l' x, l = l' ++ [x] := ⟨l.dropLast, l.getLast (by intro q; subst q; cases h), (List.dropLast_concat_getLast _).symm⟩
    have hl : l'.length = m := by simpa using h
    have ih := cntB_ok c m l' hl
    have hx := x.toNat_lt
    have e : num (l' ++ [x]) 0 = num l' 0 * 256 + x.toNat := by rw [num_app, num_cons, num_nil]; simp
    rw [e]
    have e1 : (num l' 0 * 256 + x.toNat) % 256 = x.toNat := by omega
    have e2 : (num l' 0 * 256 + x.toNat) / 256 = num l' 0 := by omega
    have step : cntB c (m + 1) (num l' 0 * 256 + x.toNat) = (match Nat.beq (Nat.mod (num l' 0 * 256 + x.toNat) 256) (Nat.mod c 256) with | true => Nat.add (cntB c m (Nat.div (num l' 0 * 256 + x.toNat) 256)) 1 | false => cntB c m (Nat.div (num l' 0 * 256 + x.toNat) 256)) := rfl
    rw [step]
    have e1 : Nat.mod (num l' 0 * 256 + x.toNat) 256 = x.toNat := e1
    have e2 : Nat.div (num l' 0 * 256 + x.toNat) 256 = num l' 0 := e2
    rw [e1, e2, beq256, ih, List.count_append, List.count_singleton]
    cases (x == c.toUInt8) <;> rfl
theorem idxB_ok (c : Nat) (l : List UInt8) : idxB c l.length (num l 0) = Lib.indexByte l c.toUInt8 := by
  have go : ∀ (m i : Nat), i + m = l.length → (nrec (β := Nat → Int) (fun _ => .negSucc 0) (fun _ ih i => match Nat.beq (Nat.mod (Nat.div (num l 0) (Nat.pow 256 (Nat.sub (Nat.sub l.length 1) i))) 256) (Nat.mod c 256) with | true => .ofNat i | false => ih (Nat.add i 1)) m i : Int) =
      if (Lib.indexByte (l.drop i) c.toUInt8 == -1) = true then -1 else i + Lib.indexByte (l.drop i) c.toUInt8 := by
    intro m
    induction m with
    | zero =>
      intro i hi
      have : l.drop i = [] := List.drop_eq_nil_of_le (by omega)
      rw [this]
      rfl
    | succ m ih =>
      intro i hi
      have hlt : i < l.length := by omega
      have step : (nrec (β := Nat → Int) (fun _ => .negSucc 0) (fun _ ih i => match Nat.beq (Nat.mod (Nat.div (num l 0) (Nat.pow 256 (Nat.sub (Nat.sub l.length 1) i))) 256) (Nat.mod c 256) with | true => .ofNat i | false => ih (Nat.add i 1)) (m + 1) i : Int) =
        (match Nat.beq (Nat.mod (Nat.div (num l 0) (Nat.pow 256 (Nat.sub (Nat.sub l.length 1) i))) 256) (Nat.mod c 256) with | true => .ofNat i | false => (nrec (β := Nat → Int) (fun _ => .negSucc 0) (fun _ ih i => match Nat.beq (Nat.mod (Nat.div (num l 0) (Nat.pow 256 (Nat.sub (Nat.sub l.length 1) i))) 256) (Nat.mod c 256) with | true => .ofNat i | false => ih (Nat.add i 1)) m (i + 1) : Int)) := rfl
      rw [step]
      have hb : Nat.mod (Nat.div (num l 0) (Nat.pow 256 (Nat.sub (Nat.sub l.length 1) i))) 256 = (l[i]).toNat := (num_get l i hlt).symm
      rw [hb, beq256, List.drop_eq_getElem_cons hlt, ih (i + 1) (by omega)]
      have key : Lib.indexByte (l[i] :: l.drop (i + 1)) c.toUInt8 = if (l[i] == c.toUInt8) = true then 0 else if (Lib.indexByte (l.drop (i + 1)) c.toUInt8 == -1) = true then -1 else Lib.indexByte (l.drop (i + 1)) c.toUInt8 + 1 := rfl
      rw [key]
      have := Lib.indexByte_ge (l.drop (i + 1)) c.toUInt8
      generalize Lib.indexByte (l.drop (i + 1)) c.toUInt8 = r at *
      cases (l[i] == c.toUInt8) with
      | true => simp
      | false =>
        simp only [Bool.false_eq_true, if_false]
        by_cases q : r = -1
        · simp [q]
        · have q1 : (r == -1) = false := by simpa using q
          have q2 : (r + 1 == -1) = false := by
            have : ¬ r + 1 = -1 := by omega
            simpa using this
          simp only [q1, q2, Bool.false_eq_true, if_false]
          push_cast
          omega
  have h : idxB c l.length (num l 0) = if (Lib.indexByte (l.drop 0) c.toUInt8 == -1) = true then -1 else ((0 : Nat) : Int) + Lib.indexByte (l.drop 0) c.toUInt8 := go l.length 0 (by omega)
  rw [h, List.drop_zero]
  by_cases q : Lib.indexByte l c.toUInt8 = -1
  · simp [q]
  · have q1 : (Lib.indexByte l c.toUInt8 == -1) = false := by simpa using q
    simp [q1]
theorem vrl2 {E : Env} {l n c : Nat} {vs : Array Value} (h : VRL E [.str l n, .int .u8 (.ofNat c)] vs.toList) : ∃ s : ByteArray, vs = #[.string s, .int .u8 (.ofNat c)] ∧ s.data.toList.length = l ∧ num s.data.toList 0 = n := by
  obtain ⟨x, xs, e, ⟨s, rfl, h1, h2⟩, ⟨y, ys, rfl, h3, h4⟩⟩ := h
  have h3 : y = .int .u8 (.ofNat c) := h3
  have h4 : ys = [] := h4
  subst h3; subst h4
  exact ⟨s, by rw [← Array.toArray_toList (xs := vs), e], h1, h2⟩
theorem ext_count {f : Nat} {fn : Func} (hf : P.funcs[f]? = some fn) (hname : (fn.name == "runtime.NumGoroutine") = false) (hb : fn.body.isNone = true) (hn : Extern.findNext fn = none) (he : Extern.find fn = some Extern.BytealgCount.count) : ExtOk P f cntX := by
  intro E args vs v w hv hg
  unfold cntX at hg
  split at hg
  · rename_i l n c
    cases hg
    obtain ⟨s, rfl, rfl, rfl⟩ := vrl2 hv
    refine ⟨_, by rw [run_callFunc_extern hf hname hb hn he, Lib.run_countString]; rfl, ?_⟩
    show _ = _
    rw [cntB_ok c _ _ rfl]
    rfl
  · cases hg
theorem ext_index {f : Nat} {fn : Func} (hf : P.funcs[f]? = some fn) (hname : (fn.name == "runtime.NumGoroutine") = false) (hb : fn.body.isNone = true) (hn : Extern.findNext fn = none) (he : Extern.find fn = some Extern.BytealgIndexByte.indexByte) : ExtOk P f idxX := by
  intro E args vs v w hv hg
  unfold idxX at hg
  split at hg
  · rename_i l n c
    cases hg
    obtain ⟨s, rfl, rfl, rfl⟩ := vrl2 hv
    refine ⟨_, by rw [run_callFunc_extern hf hname hb hn he, run_indexByte_string]; rfl, ?_⟩
    show _ = _
    rw [idxB_ok, Lib.firstIdx_eq]
    rfl
  · cases hg
/-! an entry by a run -/
abbrev Out := Option (AV × List (Option AObj) × Nat)
noncomputable def ansO : Ans Out := ⟨fun _ => none, fun _ _ _ => none⟩
theorem lawfulO {o : AV × List (Option AObj) × Nat} : Lawful ansO (fun b => b = some o) :=
  ⟨fun m h => (by cases h), fun q a b h => (by cases h)⟩
noncomputable def outK (names : List Nat) (v : AV) (s : St) : Out := some (v, mapL (fun b => hget s b) names, s.next)
noncomputable def entNames (e : Ent) : List Nat := mapL (fun x => x.1) e.objs
theorem entOk_run (hm : P.follows .mixedOrders = true) {sm : Sm} (hsm : SmOk P sm) {fuel f : Nat} {e : Ent} (hgl : allL (fun g => Nat.ble (g.1 + 1) P.globals.size) e.gl = true) (hn : allL (fun b => Nat.ble 1000 b) (entNames e) = true)
    (h : ∀ t : Nat → Nat, callF P sm fuel Out ansO f e.args (initS (glT e.gl t) 1000 sy00) (outK (entNames e)) = some (e.val, mapL (fun x => some x.2) e.objs, e.top))
    (hb : (bodyOf P f).isSome = true) : EntAt P f e := by
  refine ⟨fun g hg => Nat.le_of_ble_eq_true ((allL_iff _ _).1 hgl g hg), Option.isSome_iff_exists.1 hb, fun E t w vs hR hv => ?_⟩
  refine Calls.mono ((callF_sound hm hsm fuel Out ansO _ lawfulO _ _ w f e.args vs (outK (entNames e)) hR hv (h t)).calls hb) fun ex w' ⟨v, s1, E', x, h1, h2, h3, h4, h5⟩ => ?_
  unfold outK at h5
  simp only [Option.some.injEq, Prod.mk.injEq] at h5
  obtain ⟨rfl, h6, h7⟩ := h5
  refine ⟨E', s1, x, h1, h2, h3, h4, h7, fun y hy => ⟨?_, ?_⟩⟩
  · have hn := (allL_iff _ _).1 hn
    unfold entNames at hn
    rw [mapL_eq] at hn
    exact Nat.le_of_ble_eq_true (hn y.1 (List.mem_map_of_mem hy))
  · unfold entNames at h6
    rw [mapL_eq, mapL_eq, mapL_eq, List.map_map] at h6
    exact (List.map_inj_left.1 h6) y hy
noncomputable def outV (v : AV) (_ : St) : Out := some (v, [], 0)
theorem hEnt_run (hm : P.follows .mixedOrders = true) {sm : Sm} (hsm : SmOk P sm) {fuel f : Nat} {e : HEnt} (hg : Ground e.val)
    (h : callF P sm fuel Out ansO f (argsFrom 1000 e.args) (initP e.args) outV = some (e.val, [], 0))
    (hb : (bodyOf P f).isSome = true) : HEntAt P f e := by
  refine ⟨hg, Option.isSome_iff_exists.1 hb, fun E w vs hR hv => ?_⟩
  refine Calls.mono ((callF_sound hm hsm fuel Out ansO _ lawfulO _ _ w f _ vs outV hR hv h).calls hb) fun ex w' ⟨v, s1, E', x, h1, h2, h3, h4, h5⟩ => ?_
  unfold outV at h5
  simp only [Option.some.injEq, Prod.mk.injEq] at h5
  obtain ⟨rfl, _, _⟩ := h5
  exact ⟨E', s1, x, h1, h2, h3, h4⟩
end
end Go.Proofs.YthfkajaeikhloaaGreatDoor.Xq

/-! The atoms at a case: two numbers between bounds, a string that is known or is none of some. -/
namespace Go.Proofs.YthfkajaeikhloaaGreatDoor.Xq
open Go
noncomputable def syC (lo hi lo' hi' : Int) (f : SF) : Sy := ⟨3, ((Tr.leaf.set (some (lo, hi)) (pathOf 0)).set (some (lo', hi')) (pathOf 1)).set (some (0, 9223372036854775807)) (pathOf 2), [], Tr.leaf.set (some f) (pathOf 0)⟩
def SfOk (s : ByteArray) : SF → Prop
  | .known l n => s.data.toList.length = l ∧ num s.data.toList 0 = n
  | .excl ls => ∀ x ∈ ls, ¬ (s.data.toList.length = x.1 ∧ num s.data.toList 0 = x.2)
theorem syC_ok {E : Env} {i k lo hi lo' hi' : Int} {n : Nat} {f : SF} (h0 : lo ≤ i ∧ i ≤ hi) (h1 : lo' ≤ k ∧ k ≤ hi') (hn : n ≤ 9223372036854775807) (hf : SfOk (E.ς 0) f) (he : E.σ = σ2 i k n) : SyOk E (syC lo hi lo' hi' f) := by
  refine ⟨fun j hj => ?_, fun j a b h => ?_, fun m hm => (by cases hm), fun j l m h => ?_, fun j ls h => ?_⟩
  · have hj : 3 ≤ j := hj
    rw [he]; unfold σ2
    rw [if_neg (by omega), if_neg (by omega), if_neg (by omega)]
  · have h : Tr.get (pathOf j) (Tr.set (some ((0 : Int), (9223372036854775807 : Int))) (pathOf 2) (Tr.set (some (lo', hi')) (pathOf 1) (Tr.set (some (lo, hi)) (pathOf 0) .leaf))) = some (a, b) := h
    rw [Tr.get_set_of, Tr.get_set_of, Tr.get_set_of, get_leaf] at h
    rw [he]; unfold σ2
    by_cases q2 : 2 = j
    · subst q2
      simp at h
      obtain ⟨rfl, rfl⟩ := h
      exact ⟨n, by simp, by omega, by omega⟩
    · rw [if_neg q2] at h
      by_cases q1 : 1 = j
      · subst q1
        simp at h
        obtain ⟨rfl, rfl⟩ := h
        exact ⟨k, by simp, h1.1, h1.2⟩
      · rw [if_neg q1] at h
        by_cases q0 : 0 = j
        · subst q0
          simp at h
          obtain ⟨rfl, rfl⟩ := h
          exact ⟨i, by simp, h0.1, h0.2⟩
        · rw [if_neg q0] at h; cases h
  · have h : Tr.get (pathOf j) (Tr.set (some f) (pathOf 0) .leaf) = some (.known l m) := h
    rw [Tr.get_set_of, get_leaf] at h
    split at h
    · rename_i q; subst q; cases h; exact hf
    · cases h
  · have h : Tr.get (pathOf j) (Tr.set (some f) (pathOf 0) .leaf) = some (.excl ls) := h
    rw [Tr.get_set_of, get_leaf] at h
    split at h
    · rename_i q; subst q; cases h; exact hf
    · cases h
/-- a remainder that is known -/
noncomputable def syR (m c : Int) : Sy := ⟨4, (((Tr.leaf.set (some (-9223372036854775808, 9223372036854775807)) (pathOf 0)).set (some (-9223372036854775808, 9223372036854775807)) (pathOf 1)).set (some (0, 9223372036854775807)) (pathOf 2)).set (some (c, c)) (pathOf 3), [⟨.rem, .at 0, .lit m, 3⟩], Tr.leaf.set (some (.excl [])) (pathOf 0)⟩
def σR (i k : Int) (n : Nat) (r : Int) : Nat → Option Int := fun j => if j = 3 then some r else σ2 i k n j
theorem syR_ok {E : Env} {i k m c : Int} {n : Nat} (h0 : -9223372036854775808 ≤ i ∧ i ≤ 9223372036854775807) (h1 : -9223372036854775808 ≤ k ∧ k ≤ 9223372036854775807) (hn : n ≤ 9223372036854775807) (hm : m ≠ 0) (hc : i.tmod m = c) (he : E.σ = σR i k n c) : SyOk E (syR m c) := by
  refine ⟨fun j hj => ?_, fun j a b h => ?_, fun q hq => ?_, fun j l q h => ?_, fun j ls h => ?_⟩
  · have hj : 4 ≤ j := hj
    rw [he]; unfold σR σ2
    rw [if_neg (by omega), if_neg (by omega), if_neg (by omega), if_neg (by omega)]
  · have h : Tr.get (pathOf j) (Tr.set (some (c, c)) (pathOf 3) (Tr.set (some ((0 : Int), (9223372036854775807 : Int))) (pathOf 2) (Tr.set (some (-9223372036854775808, 9223372036854775807)) (pathOf 1) (Tr.set (some (-9223372036854775808, 9223372036854775807)) (pathOf 0) .leaf)))) = some (a, b) := h
    rw [Tr.get_set_of, Tr.get_set_of, Tr.get_set_of, Tr.get_set_of, get_leaf] at h
    rw [he]; unfold σR σ2
    by_cases q3 : 3 = j
    · subst q3
      simp at h
      obtain ⟨rfl, rfl⟩ := h
      exact ⟨c, by simp, by omega, by omega⟩
    · rw [if_neg q3] at h
      by_cases q2 : 2 = j
      · subst q2
        simp at h
        obtain ⟨rfl, rfl⟩ := h
        exact ⟨n, by simp, by omega, by omega⟩
      · rw [if_neg q2] at h
        by_cases q1 : 1 = j
        · subst q1
          simp at h
          obtain ⟨rfl, rfl⟩ := h
          exact ⟨k, by simp, h1.1, h1.2⟩
        · rw [if_neg q1] at h
          by_cases q0 : 0 = j
          · subst q0
            simp at h
            obtain ⟨rfl, rfl⟩ := h
            exact ⟨i, by simp, h0.1, h0.2⟩
          · rw [if_neg q0] at h; cases h
  · rcases List.mem_singleton.1 hq with rfl
    refine ⟨i, m, ?_, rfl, ?_, fun _ => hm⟩
    · show E.σ 0 = some i
      rw [he]; rfl
    · show E.σ 3 = some (i.tmod m)
      rw [he, hc]; rfl
  · have h : Tr.get (pathOf j) (Tr.set (some (SF.excl [])) (pathOf 0) .leaf) = some (.known l q) := h
    rw [Tr.get_set_of, get_leaf] at h
    split at h <;> cases h
  · have h : Tr.get (pathOf j) (Tr.set (some (SF.excl [])) (pathOf 0) .leaf) = some (.excl ls) := h
    rw [Tr.get_set_of, get_leaf] at h
    split at h
    · cases h; intro x hx; cases hx
    · cases h
theorem range64 {x : Int} (h : (Lit.int .i64 x).wf = true) : -9223372036854775808 ≤ x ∧ x ≤ 9223372036854775807 := by
  simpa [Lit.wf, IntKind.min, IntKind.max, IntKind.signed, IntKind.bits] using h
end Go.Proofs.YthfkajaeikhloaaGreatDoor.Xq

/-! sync.Once, by what is known of its Do. -/
namespace Go.Proofs.YthfkajaeikhloaaGreatDoor.Xq
open Go
section
variable {P : Program} {E : Env} {s : St} {w : World}
/-- one cell is written -/
theorem putCell (hR : Rel P E s w) {b r c : Nat} {l : List AV} {t : Nat} {full : Bool} (hb : hget s b = some (.cells l t full)) (hbase : s.base ≤ b) (hr : E.ρ b = some (r, c)) {off : Nat} {a : AV} {v : Value} (hv : VR E a v) (hoff : off < l.length) :
    Rel P E (hset s b (some (.cells (putL [a] l off) t full))) (w.setCell ⟨r, off, none⟩ v) ∧ Step E s w E (hset s b (some (.cells (putL [a] l off) t full))) (w.setCell ⟨r, off, none⟩ v) := by
  obtain ⟨cs, vs, rest, hw, hcs, hl, hf, hc⟩ := cells_of hR hb hr
  have hvl := hl.length
  have hnew : (w.setCell ⟨r, off, none⟩ v).heap[r]? = some (.cells (cs.setIfInBounds off v) t (0, 0)) := by
    simp [World.setCell, Array.getElem?_modify, hw]
  refine set_ok hR hb hbase hr ⟨_, vs.take off ++ [v] ++ vs.drop (off + 1), rest, hnew, ?_, ?_, hf, ?_⟩ (fun k hk => RowKit.Below.heap_setCell _ _ _ _ hk) rfl rfl rfl (by simp [World.setCell])
  · rw [Array.toList_setIfInBounds, hcs, List.set_append_left _ _ (by omega), List.set_eq_take_append_cons_drop, if_pos (by omega)]
    simp
  · rw [putL_eq [a] l off (by simp; omega)]
    exact ((hl.take off).app (VRL.cons hv VRL.nil)).app (hl.drop (off + 1))
  · simpa using hc
theorem cellAt (hR : Rel P E s w) {b r c : Nat} {l : List AV} {t : Nat} {full : Bool} (hb : hget s b = some (.cells l t full)) (hr : E.ρ b = some (r, c)) {off : Nat} {a : AV} (ha : nth l off = some a) :
    ∃ v, w.cell? ⟨r, off, none⟩ = some v ∧ VR E a v ∧ w.frozen? ⟨r, off, none⟩ = false := by
  obtain ⟨cs, vs, rest, hw, hcs, hl, hf, hc⟩ := cells_of hR hb hr
  rw [nth_eq] at ha
  obtain ⟨x, hx, hv⟩ := hl.get ha
  refine ⟨x, ?_, hv, by simp [World.frozen?, hw]⟩
  rw [cell_of_row w r off cs t (0, 0) hw, ← Array.getElem?_toList, hcs, List.getElem?_append_left (List.getElem?_eq_some_iff.1 hx).1]
  exact hx
/-- what is known of Do: done already; not yet done and the lock free -/
structure OnceC (P : Program) (f : Nat) : Prop where
  body : (bodyOf P f).isSome = true
  done : ∀ (a : Addr) (d : Int) (hd : ¬ d = 0) (fv : Value) (w : World) (h0 : w.cell? a = some (.int .u32 d)), Calls P f #[.pointer (some a), fv] w fun e w' => e = .returned (.tuple #[]) ∧ w' = w
  first : ∀ (b off g : Nat) (cap : Array Value) (w : World) (hg : ∀ w, (callFunc g cap).run P w = .ok (.enter g cap) w)
    (h0 : w.cell? ⟨b, off, none⟩ = some (.int .u32 0)) (h1 : w.cell? ⟨b, off + 1, none⟩ = some (.int .i32 0)) (f0 : w.frozen? ⟨b, off, none⟩ = false) (f1 : w.frozen? ⟨b, off + 1, none⟩ = false) (Q : World → Prop)
    (hF : Calls P g cap (w.setCell ⟨b, off + 1, none⟩ (.int .i32 1)) fun e w' => (∃ x, e = .returned x) ∧ w'.cell? ⟨b, off, none⟩ = some (.int .u32 0) ∧ w'.cell? ⟨b, off + 1, none⟩ = some (.int .i32 1) ∧
      w'.frozen? ⟨b, off, none⟩ = false ∧ w'.frozen? ⟨b, off + 1, none⟩ = false ∧ Q w'),
    Calls P f #[.pointer (some ⟨b, off, none⟩), .func (.func g) #[] cap] w fun e w' => e = .returned (.tuple #[]) ∧ ∃ w1, Q w1 ∧
      w' = (w1.drew.setCell ⟨b, off, none⟩ (.int .u32 1)).setCell ⟨b, off + 1, none⟩ (.int .i32 0)
theorem onceOk_of {f : Nat} (hO : OnceC P f) : OnceOk P f := by
  intro call hC R A Pr hA E s w args vs k hR hv h
  have hbody := Option.isSome_iff_exists.1 hO.body
  unfold onceA at h
  split at h
  · rename_i b off g cap
    obtain ⟨x, xs, e, ⟨r, c, hr, rfl⟩, ⟨y, ys, rfl, ⟨vcap, rfl, hcap⟩, hys⟩⟩ := hv
    have hys : ys = [] := hys
    subst hys
    have evs : vs = #[.pointer (some ⟨r, off, none⟩), .func (.func g) #[] vcap] := by rw [← Array.toArray_toList (xs := vs), e]
    subst evs
    split at h
    · rename_i l t full hb
      split at h
      · rename_i d m h1 h2
        obtain ⟨v1, c1, q1, z1⟩ := cellAt hR hb hr h1
        obtain ⟨v2, c2, q2, z2⟩ := cellAt hR hb hr h2
        have q1 : v1 = .int .u32 d := q1
        have q2 : v2 = .int .i32 m := q2
        subst q1; subst q2
        split at h
        · rename_i hd
          refine .inl ⟨hbody, Calls.mono (hO.done ⟨r, off, none⟩ d (ieq_false hd) _ w c1) fun e w' ⟨he, hw'⟩ => ?_⟩
          subst hw'
          exact ⟨.tuple [], s, E, .tuple #[], he, ⟨#[], rfl, rfl⟩, hR, Step.refl E s _, h⟩
        · rename_i hd
          have hd := ieq_true hd
          subst hd
          split at h
          · rename_i hm hbase
            have hm := ieq_true hm
            subst hm
            have hbase := Nat.le_of_ble_eq_true hbase
            split at h
            · rename_i fn hfn
              rw [hsetK_eq] at h
              have hlt : off + 1 < l.length := by rw [nth_eq] at h2; exact (List.getElem?_eq_some_iff.1 h2).1
              obtain ⟨hR1, hS1⟩ := putCell hR hb hbase hr (off := off + 1) (a := .int .i32 1) (v := .int .i32 1) rfl hlt
              have hcl := (hC R A Pr hA E _ _ g cap vcap _ hR1 hcap h).calls (by rw [hfn]; rfl)
              refine .inl ⟨hbody, Calls.mono (hO.first r off g vcap w (fun w => callFunc_run hfn vcap) c1 c2 z1 z2
                (fun w1 => ∃ E2 s2 l2 t2 full2, hget s2 b = some (.cells l2 t2 full2) ∧ off + 1 < l2.length ∧ Rel P E2 s2 w1 ∧ Step E s w E2 s2 w1 ∧
                  Pr (hsetK s2 b (some (.cells (putL [.int .u32 1] l2 off) t2 full2)) fun s => hsetK s b (some (.cells (putL [.int .i32 0] (putL [.int .u32 1] l2 off) (off + 1)) t2 full2)) fun s => k (.tuple []) s))
                (Calls.mono hcl fun e w1 ⟨v, s2, E2, x, he, hvx, hR2, hS2, hPr⟩ => ?_)) fun e w' ⟨he, w1, ⟨E2, s2, l2, t2, full2, hb2, hlt2, hR2, hS2, hPr⟩, hw'⟩ => ?_⟩
              · unfold onceB at hPr
                split at hPr
                · rename_i l2 t2 full2 hb2
                  split at hPr
                  · rename_i d2 m2 k1 k2
                    split at hPr
                    · rename_i e1 e2
                      have e1 := ieq_true e1
                      have e2 := ieq_true e2
                      subst e1; subst e2
                      have hr2 : E2.ρ b = some (r, c) := hS2.ext.ρ _ _ hr
                      obtain ⟨u1, p1, p2, p3⟩ := cellAt hR2 hb2 hr2 k1
                      obtain ⟨u2, n1, n2, n3⟩ := cellAt hR2 hb2 hr2 k2
                      have p2 : u1 = .int .u32 0 := p2
                      have n2 : u2 = .int .i32 1 := n2
                      subst p2; subst n2
                      exact ⟨⟨x, he⟩, p1, n1, p3, n3, E2, s2, l2, t2, full2, hb2, by rw [nth_eq] at k2; exact (List.getElem?_eq_some_iff.1 k2).1, hR2, hS1.trans hS2, hPr⟩
                    · exact (hA.fail _ hPr).elim
                  · exact (hA.fail _ hPr).elim
                · exact (hA.fail _ hPr).elim
              · subst hw'
                rw [hsetK_eq, hsetK_eq] at hPr
                have hr2 : E2.ρ b = some (r, c) := hS2.ext.ρ _ _ hr
                have hbase2 : s2.base ≤ b := by rw [hS2.base]; exact hbase
                have hRd : Rel P E2 s2 w1.drew := hR2.world rfl
                have hSd : Step E2 s2 w1 E2 s2 w1.drew := Step.world rfl rfl rfl rfl
                obtain ⟨hR3, hS3⟩ := putCell hRd hb2 hbase2 hr2 (off := off) (a := .int .u32 1) (v := .int .u32 1) rfl (by omega)
                have hlen : (putL [AV.int .u32 1] l2 off).length = l2.length := by
                  rw [putL_eq _ _ _ (by simp; omega)]; simp; omega
                obtain ⟨hR4, hS4⟩ := putCell hR3 (b := b) (by rw [hget_hset, if_pos rfl]) hbase2 hr2 (off := off + 1) (a := .int .i32 0) (v := .int .i32 0) rfl (by rw [hlen]; exact hlt2)
                exact ⟨.tuple [], _, E2, .tuple #[], he, ⟨#[], rfl, rfl⟩, hR4, (hS2.trans hSd).trans (hS3.trans hS4), hPr⟩
            · exact (hA.fail _ h).elim
          · exact (hA.fail _ h).elim
      · exact (hA.fail _ h).elim
    · exact (hA.fail _ h).elim
  · exact (hA.fail _ h).elim
end
end Go.Proofs.YthfkajaeikhloaaGreatDoor.Xq

/-! The keys of a map, sorted, by what is known of slices.Sorted. -/
namespace Go.Proofs.YthfkajaeikhloaaGreatDoor.Xq
open Go
section
variable {P : Program} {E : Env} {s : St} {w : World}
/-! a sort by insertion -/
def insB (x : List UInt8) : List (List UInt8) → List (List UInt8)
  | [] => [x]
  | y :: l => if x < y then x :: y :: l else y :: insB x l
def sortB : List (List UInt8) → List (List UInt8)
  | [] => []
  | x :: l => insB x (sortB l)
theorem insB_perm (x : List UInt8) : ∀ l, (insB x l).Perm (x :: l)
  | [] => List.Perm.refl _
  | y :: l => by
    unfold insB
    split
    · exact List.Perm.refl _
    · exact ((insB_perm x l).cons y).trans (List.Perm.swap x y l)
theorem sortB_perm : ∀ l, (sortB l).Perm l
  | [] => List.Perm.refl _
  | x :: l => (insB_perm x (sortB l)).trans ((sortB_perm l).cons x)
theorem insB_sorted (x : List UInt8) : ∀ l : List (List UInt8), l.Pairwise (fun a b => a ≤ b) → (insB x l).Pairwise (fun a b => a ≤ b)
  | [], _ => List.pairwise_singleton _ _
  | y :: l, h => by
    obtain ⟨h1, h2⟩ := List.pairwise_cons.1 h
    unfold insB
    split
    · rename_i q
      refine List.pairwise_cons.2 ⟨fun z hz => ?_, h⟩
      have xy : x ≤ y := List.le_of_lt q
      rcases List.mem_cons.1 hz with rfl | hz
      · exact xy
      · exact List.le_trans xy (h1 z hz)
    · rename_i q
      have yx : y ≤ x := List.not_lt.1 q
      refine List.pairwise_cons.2 ⟨fun z hz => ?_, insB_sorted x l h2⟩
      rcases List.mem_cons.1 ((insB_perm x l).mem_iff.1 hz) with rfl | hz
      · exact yx
      · exact h1 z hz
theorem sortB_sorted : ∀ l : List (List UInt8), (sortB l).Pairwise (fun a b => a ≤ b)
  | [] => List.Pairwise.nil
  | x :: l => insB_sorted x _ (sortB_sorted l)
theorem sortB_merge (l : List (List UInt8)) : l.mergeSort leB = sortB l := by
  have tr : ∀ a b c : List UInt8, leB a b = true → leB b c = true → leB a c = true := fun a b c h1 h2 => by simp only [leB, decide_eq_true_eq] at *; exact List.le_trans h1 h2
  have to : ∀ a b : List UInt8, (leB a b || leB b a) = true := fun a b => by simp only [leB, Bool.or_eq_true, decide_eq_true_eq]; exact List.le_total a b
  refine List.Perm.eq_of_pairwise (le := fun a b => leB a b = true) (fun a b _ _ h1 h2 => ?_) (List.pairwise_mergeSort tr to l) ((sortB_sorted l).imp fun h => by simpa [leB] using h) ((List.mergeSort_perm l leB).trans (sortB_perm l).symm)
  simp only [leB, decide_eq_true_eq] at h1 h2
  exact List.le_antisymm h1 h2
noncomputable def code (x : List UInt8) : Nat × Nat := (x.length, num x 0)
theorem insS_code (x : List UInt8) : ∀ l : List (List UInt8), insS (code x) (l.map code) = (insB x l).map code
  | [] => rfl
  | y :: l => by
    have e : insS (code x) ((y :: l).map code) = (match strLt (code x).1 (code x).2 (code y).1 (code y).2 with | true => code x :: code y :: l.map code | false => code y :: insS (code x) (l.map code)) := rfl
    have q : strLt (code x).1 (code x).2 (code y).1 (code y).2 = decide (x < y) := by
      rw [← Go.Proofs.bytesLess_eq, bytesLess_num]; rfl
    have e2 : insB x (y :: l) = if x < y then x :: y :: l else y :: insB x l := rfl
    rw [e, q, insS_code x l, e2]
    by_cases h : x < y
    · rw [if_pos h, decide_eq_true h]; rfl
    · rw [if_neg h, decide_eq_false h]; rfl
theorem sortS_code : ∀ l : List (List UInt8), sortS (l.map code) = (sortB l).map code
  | [] => rfl
  | x :: l => by
    have e : sortS ((x :: l).map code) = insS (code x) (sortS (l.map code)) := rfl
    rw [e, sortS_code l, insS_code]
    rfl
def keyB : Value → List UInt8
  | .string s => s.data.toList
  | _ => []
theorem keysOfA_ok : ∀ {es : List (AV × AV)} {ms : List MapEntry} {ks : List (Nat × Nat)}, MR E es ms → keysOfA es = some ks →
    ks = (ms.map fun x => keyB x.key).map code ∧ ∀ x ∈ ms, ∃ a : ByteArray, a.size ≤ maxLen ∧ x.key = .string a
  | [], ms, ks, h, hk => by
    have h : ms = [] := h
    subst h
    cases hk
    exact ⟨rfl, fun x hx => by cases hx⟩
  | p :: es, ms, ks, ⟨m, r, q, hkey, _, hr⟩, hk => by
    subst q
    have hk : (match p.1 with
      | .str l n => (match Nat.ble l 1000000 with | true => (match keysOfA es with | some ks => some ((l, n) :: ks) | none => none) | false => none)
      | _ => none) = some ks := hk
    split at hk
    · rename_i l n hp
      rw [hp] at hkey
      obtain ⟨a, ha, h1, h2⟩ := hkey
      split at hk
      · rename_i hle
        have hle := ble_iff.1 hle
        cases hq : keysOfA es with
        | none => rw [hq] at hk; cases hk
        | some ks' =>
          rw [hq] at hk
          cases hk
          obtain ⟨g1, g2⟩ := keysOfA_ok hr hq
          refine ⟨?_, fun x hx => ?_⟩
          · rw [List.map_cons, List.map_cons, ha, g1]
            show (l, n) :: _ = code a.data.toList :: _
            unfold code
            rw [h1, h2]
          · rcases List.mem_cons.1 hx with rfl | hx
            · have hsz : a.size = l := by rw [← h1]; simp
              refine ⟨a, ?_, ha⟩
              rw [hsz]
              exact Nat.le_trans hle (by decide)
            · exact g2 x hx
      · cases hk
    · cases hk
/-- what is known of slices.Sorted, at what maps.Keys hands back -/
structure SortC (P : Program) (f iter ty : Nat) : Prop where
  body : (bodyOf P f).isSome = true
  run : ∀ (W : World) (pb b pt : Nat) (es : Array MapEntry) (clock : Nat), W.heap[pb]? = some (.cells #[.map (some b)] pt (0, 0)) → W.heap[b]? = some (.map es clock) → MapKept.Stamped es clock → es.size ≤ 100000 →
    (∀ x ∈ es.toList, ∃ a : ByteArray, a.size ≤ maxLen ∧ x.key = .string a) →
    Calls P f #[.func (.func iter) #[] #[.pointer (some ⟨pb, 0, none⟩)]] W fun e w' => ∃ (v : Value) (ss : List (List UInt8)), e = .returned v ∧ ss.Perm (es.toList.map fun x => keyB x.key) ∧
      w'.ownsRow W.heap.size ty 1 v ss.length ((ss.mergeSort leB).map Go.Proofs.encStr) ∧ RowKit.Below W.heap.size W w'
theorem strs_vrl : ∀ (l : List (List UInt8)), VRL E (mapL (fun p => AV.str p.1 p.2) (l.map code)) (l.map Go.Proofs.encStr)
  | [] => VRL.nil
  | x :: l => VRL.cons (a := .str x.length (num x 0)) (x := Go.Proofs.encStr x) ⟨⟨x.toArray⟩, rfl, by simp, by simp⟩ (strs_vrl l)
theorem sortedX_ok {f iter ty : Nat} (hS : SortC P f iter ty) : WsOk P f (sortedX iter ty) := by
  intro E s w args vs v s' hR hv hg
  unfold sortedX at hg
  split at hg
  · rename_i f' b
    obtain ⟨x, xs, e, ⟨vcap, rfl, ⟨y, ys, e2, ⟨r, c, hr, rfl⟩, hys⟩⟩, hxs⟩ := hv
    have hxs : xs = [] := hxs
    have hys : ys = [] := hys
    subst hxs; subst hys
    have ev : vcap = #[.pointer (some ⟨r, 0, none⟩)] := by rw [← Array.toArray_toList (xs := vcap), e2]
    subst ev
    have evs : vs = #[.func (.func f') #[] #[.pointer (some ⟨r, 0, none⟩)]] := by rw [← Array.toArray_toList (xs := vs), e]
    subst evs
    split at hg
    · rename_i hf
      have hf := Nat.eq_of_beq_eq_true hf
      subst hf
      split at hg
      · rename_i mb t hb
        split at hg
        · rename_i es hm
          split at hg
          · rename_i p ks hks
            cases hg
            obtain ⟨cs, us, rest, hw, hcs, hl, hfull, _⟩ := cells_of hR hb hr
            obtain ⟨y, ys, rfl, ⟨r2, c2, hr2, rfl⟩, hys⟩ := hl
            have hys : ys = [] := hys
            subst hys
            rw [hfull rfl] at hcs
            have ecs : cs = #[.map (some r2)] := by rw [← Array.toArray_toList (xs := cs), hcs]; rfl
            subst ecs
            obtain ⟨ms, clock, hmw, hMR, hst⟩ := map_of hR hm hr2
            split at hks
            · rename_i hle
              have hle := ble_iff.1 hle
              rw [lenL_eq, hMR.length, Array.length_toList] at hle
              obtain ⟨k1, k2⟩ := keysOfA_ok hMR hks
              refine .inl ⟨Option.isSome_iff_exists.1 hS.body, Calls.mono (hS.run w r r2 _ ms clock hw hmw hst hle k2) fun e w' ⟨v, ss, he, hp, hrow, hbel⟩ => ?_⟩
              have hlen : ss.length = ks.length + 1 := by
                have h1 := hp.length_eq
                have h2 := congrArg List.length k1
                simp only [List.length_map, List.length_cons] at h1 h2
                omega
              have hsrt : (ss.mergeSort leB) = sortB (ms.toList.map fun x => keyB x.key) := by rw [mergeSort_of_perm hp, sortB_merge]
              rcases hrow with ⟨hx1, ⟨_, hz⟩ | ⟨g, cap, cur, hvv, hbase, hcell, hcap, _, hcsz, htake⟩⟩
              · omega
              · subst hvv
                rw [Nat.mul_one] at htake hcsz
                have hO : ∀ E', Ext E E' → OR E' (.cells (mapL (fun p => .str p.1 p.2) (sortS (p :: ks))) ty false) g cap w' := fun E' _ => by
                  refine ⟨cur, (ss.mergeSort leB).map Go.Proofs.encStr, cur.toList.drop ss.length, hcell, ?_, ?_, fun q => (by cases q), hcsz⟩
                  · rw [← htake, List.take_append_drop]
                  · rw [k1, sortS_code, hsrt]
                    exact strs_vrl _
                obtain ⟨hR2, hS2⟩ := new_below (s := s) hR hbase hbel.os hbel.tape hbel.output hbel.size hbel.block hO
                refine ⟨_, _, _, .slice (some ⟨g, 0, none⟩) ss.length cap, he, ?_, hR2, hS2, rfl, rfl⟩
                rw [lenL_eq, ← hlen]
                exact ⟨g, cap, cap, Env.add_same _ _ _ _, by omega, Nat.one_pos, hcap, rfl⟩
            · cases hks
          · cases hg
        · cases hg
      · cases hg
    · cases hg
  · cases hg
end
end Go.Proofs.YthfkajaeikhloaaGreatDoor.Xq

/-! The listed variables. -/
namespace Go.Proofs.YthfkajaeikhloaaGreatDoor.Xq
open Go
theorem laid_mem {P : Program} {w : World} {n : String} {d : DataW Unit} : ∀ {laid : List (String × DataW Unit)} {ps : List MemPlace}, DataW.LaidVars P w laid ps → (n, d) ∈ laid →
    ∃ g t cs fuel p, P.globalNamed n = some g ∧ (P.globals[g]?).map (·.type) = some t ∧ w.var? P n = some cs ∧ DataW.trod (fun _ => ()) P w 0 (fun _ => true) false fuel t cs.toList = some (d, p) ∧ ∀ x ∈ MemPlace.row ⟨g, 0, none⟩ cs.size, x ∈ ps
  | (m, e) :: r, ps, h, hm => by
    obtain ⟨g, t, cs, fuel, p, q, h1, h2, h3, h4, h5, rfl⟩ := h
    rcases List.mem_cons.1 hm with hm | hm
    · cases hm
      exact ⟨g, t, cs, fuel, p, h1, h2, h3, h4, fun x hx => by simp [hx]⟩
    · obtain ⟨g', t', cs', fuel', p', k1, k2, k3, k4, k5⟩ := laid_mem h5 hm
      exact ⟨g', t', cs', fuel', p', k1, k2, k3, k4, fun x hx => by simp [k5 x hx]⟩
/-- a listed array of numbers -/
theorem laid_ints {P : Program} {W : World} {laid : List (String × DataW Unit)} (h : laidMet P laid W) {n : String} {l : List Int} (hm : (n, DataW.agg (l.map fun z => .lit (.int .i64 z))) ∈ laid) {g t e : Nat}
    (hg : P.globalNamed n = some g) (ht : (P.globals[g]?).map (·.type) = some t) (hu : P.underlying t = some (.array l.length e)) (hue : P.underlying e = some (.int .i64)) (hc : P.cellsOf e = 1) (hct : P.cellsOf t = l.length) (hl : 0 < l.length) :
    ∃ cs ty, W.heap[g]? = some (.cells cs ty (0, 0)) ∧ cs.toList = l.map (Value.int .i64) := by
  obtain ⟨ps, hv, _, hps⟩ := h
  obtain ⟨g', t', cs, fuel, p, h1, h2, h3, h4, h5⟩ := laid_mem hv hm
  rw [hg] at h1; cases h1
  rw [ht] at h2; cases h2
  obtain ⟨xs, m, _, ex, hlen, hxl, hel⟩ := DataW.trod_array hu h4
  rw [hct] at hlen
  have hsz : cs.size = l.length := by rw [← Array.length_toList]; exact hlen
  obtain ⟨⟨c, ty, hcell⟩, _⟩ := hps g 0 (h5 _ (by simp [MemPlace.row]; omega))
  have hcs : c = cs := by
    unfold World.var? at h3
    rw [hg] at h3
    simp only [Option.bind_some, hcell] at h3
    exact Option.some.inj h3
  subst hcs
  refine ⟨c, ty, hcell, ?_⟩
  have ex1 : l.map (fun z => (DataW.lit (.int .i64 z) : DataW Unit)) = xs.map (·.1) := DataW.agg.inj (Prod.mk.inj ex).1
  apply List.ext_getElem?
  intro i
  rw [List.getElem?_map]
  by_cases hi : i < l.length
  · have k := hel i hi
    rw [hc, Nat.mul_one] at k
    have hxi : i < xs.length := by omega
    rw [List.getElem?_eq_getElem hxi] at k
    obtain ⟨z, hz, hx, _⟩ := DataW.trod_int hue k
    have h1 : ((c.toList.drop i).take 1)[0]? = some (.int .i64 z) := by rw [hz]; rfl
    rw [List.getElem?_take_of_lt (by omega), List.getElem?_drop] at h1
    have h2 := congrArg (·[i]?) ex1
    simp only [List.getElem?_map, List.getElem?_eq_getElem hi, List.getElem?_eq_getElem hxi, Option.map_some, hx] at h2
    rw [List.getElem?_eq_getElem hi]
    simp only [Option.some.injEq, DataW.lit.injEq, Lit.int.injEq, true_and] at h2
    simp only [Nat.add_zero] at h1
    rw [h1, Option.map_some, h2]
  · rw [List.getElem?_eq_none (by simp; omega), List.getElem?_eq_none (by omega)]; rfl
end Go.Proofs.YthfkajaeikhloaaGreatDoor.Xq

/-! All listed variables at once: arrays of numbers, and errors made at the start. -/
namespace Go.Proofs.YthfkajaeikhloaaGreatDoor.Xq
open Go
noncomputable def ints (l : List Int) : List AV := mapL (fun n => .int .i64 n) l
/-- the types of the rows; behind 1000: of what the rows' first cells hold -/
def tyOf (W : World) (g : Nat) : Nat := if g < 1000 then (match W.heap[g]? with | some (.cells _ t _) => t | _ => 0) else (match W.heap[g - 1000]? with | some (.cells cs _ _) => (match cs[0]? with | some (Value.iface u _) => u | _ => 0) | _ => 0)
noncomputable def litInts : List (DataW Unit) → Option (List Int)
  | [] => some []
  | .lit (.int .i64 z) :: r => (litInts r).map (z :: ·)
  | _ => none
theorem litInts_ok : ∀ {ds : List (DataW Unit)} {l : List Int}, litInts ds = some l → ds = l.map fun z => .lit (.int .i64 z)
  | [], l, h => by cases h; rfl
  | d :: r, l, h => by
    unfold litInts at h
    split at h
    · rename_i q; cases q
    · rename_i z r' q
      cases q
      cases hr : litInts r with
      | none => rw [hr] at h; cases h
      | some l' =>
        rw [hr] at h
        cases h
        rw [litInts_ok hr]; rfl
    · cases h
noncomputable def arrOk (P : Program) (g n : Nat) : Bool :=
  match (P.globals[g]?).map (·.type) with
  | some t => match P.underlying t with
    | some (.array m e) => m == n && (match P.underlying e with | some (.int .i64) => true | _ => false) && P.cellsOf e == 1 && P.cellsOf t == n && Nat.ble 1 n
    | _ => false
  | none => false
noncomputable def ifcOk (P : Program) (g : Nat) : Bool :=
  match (P.globals[g]?).map (·.type) with
  | some t => match P.underlying t with
    | some (.interface _) => true
    | _ => false
  | none => false
noncomputable def rowOf (P : Program) (t : Nat → Nat) (n : String) : DataW Unit → List (Nat × Nat × List AV)
  | .agg ds => match litInts ds, P.globalNamed n with
    | some l, some g => if arrOk P g l.length = true then [(g, t g, ints l)] else []
    | _, _ => []
  | .iface nm _ => match P.globalNamed n with
    | some g => if ifcOk P g = true then [(g, t g, [.iface (t (1000 + g)) .any])] else []
    | none => []
  | _ => []
noncomputable def glsOf (P : Program) (t : Nat → Nat) (laid : List (String × DataW Unit)) : List (Nat × Nat × List AV) := laid.flatMap fun x => rowOf P t x.1 x.2
/-- a listed interface -/
theorem laid_iface {P : Program} {W : World} {laid : List (String × DataW Unit)} (h : laidMet P laid W) {n nm : String} {d : DataW Unit} (hm : (n, DataW.iface nm d) ∈ laid) {g t : Nat}
    (hg : P.globalNamed n = some g) (ht : (P.globals[g]?).map (·.type) = some t) {ms} (hu : P.underlying t = some (.interface ms)) :
    ∃ cs ty u v, W.heap[g]? = some (.cells cs ty (0, 0)) ∧ cs.toList = [.iface u v] ∧ P.typeName? 3 u = some nm := by
  obtain ⟨ps, hv, _, hps⟩ := h
  obtain ⟨g', t', cs, fuel, p, h1, h2, h3, h4, h5⟩ := laid_mem hv hm
  rw [hg] at h1; cases h1
  rw [ht] at h2; cases h2
  obtain ⟨u, v, e1, e2⟩ : ∃ u v, cs.toList = [.iface u v] ∧ P.typeName? 3 u = some nm := by
    generalize cs.toList = l at h4
    cases fuel with
    | zero => simp [DataW.trod] at h4
    | succ m =>
      cases l with
      | nil => simp [DataW.trod, hu] at h4
      | cons v r =>
        cases r with
        | cons => cases v <;> simp [DataW.trod, hu] at h4
        | nil =>
          cases v <;> try (simp [DataW.trod, hu] at h4; done)
          rename_i u v
          cases hn : P.typeName? 3 u with
          | none => simp [DataW.trod, hu, hn] at h4
          | some nm' =>
            simp [DataW.trod, hu, hn] at h4
            obtain ⟨_, _, _, rfl, _⟩ := h4
            exact ⟨u, v, rfl, hn⟩
  have hsz : cs.size = 1 := by rw [← Array.length_toList, e1]; rfl
  obtain ⟨⟨c, ty, hcell⟩, _⟩ := hps g 0 (h5 _ (by simp [MemPlace.row]; omega))
  have hcs : c = cs := by
    unfold World.var? at h3
    rw [hg] at h3
    simp only [Option.bind_some, hcell] at h3
    exact Option.some.inj h3
  subst hcs
  exact ⟨c, ty, u, v, hcell, e1, e2⟩
theorem laid_all {P : Program} {W : World} {laid : List (String × DataW Unit)} (hsz : Nat.ble P.globals.size 1000 = true) (h : laidMet P laid W) {E : Env} :
    ∀ g ∈ glsOf P (tyOf W) laid, g.1 < P.globals.size ∧ ∃ cs, W.heap[g.1]? = some (.cells cs g.2.1 (0, 0)) ∧ VRL E g.2.2 cs.toList := by
  intro g hg
  obtain ⟨⟨n, d⟩, hm, hd⟩ := List.mem_flatMap.1 hg
  have lt : ∀ {g t : Nat}, (P.globals[g]?).map (·.type) = some t → g < P.globals.size := fun {g t} e => by
    cases q : P.globals[g]? with
    | none => rw [q] at e; cases e
    | some x => exact (Array.getElem?_eq_some_iff.1 q).1
  dsimp only at hd
  unfold rowOf at hd
  split at hd
  · rename_i ds
    split at hd
    · rename_i l gi hl hgn
      split at hd
      · rename_i ok
        obtain rfl := List.mem_singleton.1 hd
        unfold arrOk at ok
        split at ok
        · rename_i t ht
          split at ok
          · rename_i m e hu
            simp only [Bool.and_eq_true, beq_iff_eq, Nat.ble_eq] at ok
            obtain ⟨⟨⟨⟨rfl, hue⟩, hc⟩, hct⟩, hl1⟩ := ok
            have hue : P.underlying e = some (.int .i64) := by
              split at hue
              · assumption
              · cases hue
            have := litInts_ok hl
            subst this
            obtain ⟨cs, ty, h1, h2⟩ := laid_ints h hm hgn ht hu hue hc hct hl1
            refine ⟨lt ht, cs, ?_, ?_⟩
            · show W.heap[gi]? = some (.cells cs (tyOf W gi) (0, 0))
              have := lt ht
              have := Nat.le_of_ble_eq_true hsz
              unfold tyOf; rw [if_pos (by omega), h1]
            · show VRL E (ints l) cs.toList
              rw [h2]; unfold ints; rw [mapL_eq]; exact VRL.map _ _ _ fun x _ => rfl
          · cases ok
        · cases ok
      · cases hd
    · cases hd
  · rename_i nm d'
    split at hd
    · rename_i gi hgn
      split at hd
      · rename_i ok
        obtain rfl := List.mem_singleton.1 hd
        unfold ifcOk at ok
        split at ok
        · rename_i t ht
          split at ok
          · rename_i ms hu
            obtain ⟨cs, ty, u, v, h1, h2, h3⟩ := laid_iface h hm hgn ht hu
            refine ⟨lt ht, cs, ?_, ?_⟩
            · show W.heap[gi]? = some (.cells cs (tyOf W gi) (0, 0))
              have := lt ht
              have := Nat.le_of_ble_eq_true hsz
              unfold tyOf; rw [if_pos (by omega), h1]
            · have h0 : cs[0]? = some (.iface u v) := by
                have : cs.toList[0]? = some (.iface u v) := by rw [h2]; rfl
                simpa using this
              have ht : tyOf W (1000 + gi) = u := by
                unfold tyOf
                rw [if_neg (by omega), show 1000 + gi - 1000 = gi by omega, h1]
                simp only [h0]
              show VRL E [.iface (tyOf W (1000 + gi)) .any] cs.toList
              rw [h2, ht]
              exact VRL.cons (a := .iface u .any) ⟨v, rfl, trivial⟩ VRL.nil
          · cases ok
        · cases ok
      · cases hd
    · cases hd
  · cases hd
end Go.Proofs.YthfkajaeikhloaaGreatDoor.Xq
