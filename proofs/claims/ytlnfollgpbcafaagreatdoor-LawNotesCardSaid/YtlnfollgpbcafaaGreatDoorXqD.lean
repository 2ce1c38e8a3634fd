import Derived.Test.YtlnfollgpbcafaaGreatDoorXqC
import Derived.Laws.Sem
import Derived.Laws.World
set_option autoImplicit false
set_option linter.unusedVariables false
/-! What the executor's values and states stand for. -/
namespace Go.Proofs.YtlnfollgpbcafaaGreatDoor.Xq
open Go

/-- what the names mean: a block's name: the block and how many cells it has; an atom: its number; a string atom: its string -/
structure Env where
  ρ : Nat → Option (Nat × Nat)
  σ : Nat → Option Int
  ς : Nat → ByteArray

structure Ext (E E' : Env) : Prop where
  ρ : ∀ b p, E.ρ b = some p → E'.ρ b = some p
  σ : ∀ i n, E.σ i = some n → E'.σ i = some n
  ς : E'.ς = E.ς
theorem Ext.refl (E : Env) : Ext E E := ⟨fun _ _ h => h, fun _ _ h => h, rfl⟩
theorem Ext.trans {E F G : Env} (h : Ext E F) (k : Ext F G) : Ext E G := ⟨fun b p e => k.ρ b p (h.ρ b p e), fun b p e => k.σ b p (h.σ b p e), k.ς.trans h.ς⟩

mutual
def VR (E : Env) : AV → Value → Prop
  | .any, _ => True
  | .bool b, v => v = .bool b
  | .int k n, v => v = .int k n
  | .sym i, v => ∃ n, E.σ i = some n ∧ v = .int .i64 n
  | .str l n, v => ∃ s : ByteArray, v = .string s ∧ s.data.toList.length = l ∧ num s.data.toList 0 = n
  | .strs i j, v => v = .string (E.ς i) ∧ E.σ j = some ((E.ς i).size : Int)
  | .ptr b off, v => ∃ r c, E.ρ b = some (r, c) ∧ v = .pointer (some ⟨r, off, none⟩)
  | .ptrI b off i es, v => ∃ r c n, E.ρ b = some (r, c) ∧ E.σ i = some n ∧ 0 ≤ n ∧ v = .pointer (some ⟨r, off + n.toNat * es, none⟩)
  | .nilp, v => v = .pointer none
  | .slice b off len cap, v => ∃ r c, E.ρ b = some (r, c) ∧ v = .slice (some ⟨r, off, none⟩) len cap
  | .sliceT b off len es, v => ∃ r c cap, E.ρ b = some (r, c) ∧ off + cap * es = c ∧ 0 < es ∧ len ≤ cap ∧ v = .slice (some ⟨r, off, none⟩) len cap
  | .nils, v => v = .slice none 0 0
  | .map b, v => ∃ r c, E.ρ b = some (r, c) ∧ v = .map (some r)
  | .nilm, v => v = .map none
  | .func f cap, v => ∃ vs : Array Value, v = .func (.func f) #[] vs ∧ VRL E cap vs.toList
  | .nilf, v => v = .nilFunc
  | .iface t x, v => ∃ y, v = .iface t y ∧ VR E x y
  | .nili, v => v = .nilIface
  | .agg l, v => ∃ vs : Array Value, v = .agg vs ∧ VRL E l vs.toList
  | .tuple l, v => ∃ vs : Array Value, v = .tuple vs ∧ VRL E l vs.toList
def VRL (E : Env) : List AV → List Value → Prop
  | [], vs => vs = []
  | a :: l, vs => ∃ x xs, vs = x :: xs ∧ VR E a x ∧ VRL E l xs
end

mutual
theorem VR.mono {E E' : Env} (h : Ext E E') : ∀ {a : AV} {v : Value}, VR E a v → VR E' a v
  | .any, _, _ => trivial
  | .bool _, _, k => k
  | .int _ _, _, k => k
  | .sym _, _, ⟨n, e, k⟩ => ⟨n, h.σ _ _ e, k⟩
  | .str _ _, _, k => k
  | .strs i j, _, ⟨e, k⟩ => by
    simp only [VR]; rw [h.ς]; exact ⟨e, h.σ _ _ k⟩
  | .ptr _ _, _, ⟨r, c, e, k⟩ => ⟨r, c, h.ρ _ _ e, k⟩
  | .ptrI _ _ _ _, _, ⟨r, c, n, e, q, k⟩ => ⟨r, c, n, h.ρ _ _ e, h.σ _ _ q, k⟩
  | .nilp, _, k => k
  | .slice _ _ _ _, _, ⟨r, c, e, k⟩ => ⟨r, c, h.ρ _ _ e, k⟩
  | .sliceT _ _ _ _, _, ⟨r, c, cap, e, k⟩ => ⟨r, c, cap, h.ρ _ _ e, k⟩
  | .nils, _, k => k
  | .map _, _, ⟨r, c, e, k⟩ => ⟨r, c, h.ρ _ _ e, k⟩
  | .nilm, _, k => k
  | .func _ _, _, ⟨vs, e, k⟩ => ⟨vs, e, VRL.mono h k⟩
  | .nilf, _, k => k
  | .iface _ _, _, ⟨y, e, k⟩ => ⟨y, e, VR.mono h k⟩
  | .nili, _, k => k
  | .agg _, _, ⟨vs, e, k⟩ => ⟨vs, e, VRL.mono h k⟩
  | .tuple _, _, ⟨vs, e, k⟩ => ⟨vs, e, VRL.mono h k⟩
theorem VRL.mono {E E' : Env} (h : Ext E E') : ∀ {l : List AV} {vs : List Value}, VRL E l vs → VRL E' l vs
  | [], _, k => k
  | _ :: _, _, ⟨x, xs, e, k, m⟩ => ⟨x, xs, e, VR.mono h k, VRL.mono h m⟩
end

/-! ### lists of values -/
theorem VRL.length {E : Env} {l : List AV} {vs : List Value} (h : VRL E l vs) : l.length = vs.length := by
  induction l generalizing vs with
  | nil => simp only [VRL] at h; subst h; rfl
  | cons a l ih => obtain ⟨x, xs, rfl, _, k⟩ := h; simp [ih k]
theorem VRL.nil {E : Env} : VRL E [] [] := rfl
theorem VRL.cons {E : Env} {a : AV} {l : List AV} {x : Value} {xs : List Value} (h : VR E a x) (k : VRL E l xs) : VRL E (a :: l) (x :: xs) := ⟨x, xs, rfl, h, k⟩
theorem VRL.app {E : Env} {l m : List AV} {vs us : List Value} (h : VRL E l vs) (k : VRL E m us) : VRL E (l ++ m) (vs ++ us) := by
  induction l generalizing vs with
  | nil => simp only [VRL] at h; subst h; exact k
  | cons a l ih => obtain ⟨x, xs, rfl, hx, hk⟩ := h; exact VRL.cons hx (ih hk)
theorem VRL.split {E : Env} {l m : List AV} {vs : List Value} (h : VRL E (l ++ m) vs) : VRL E l (vs.take l.length) ∧ VRL E m (vs.drop l.length) := by
  induction l generalizing vs with
  | nil => exact ⟨by simp [VRL], by simpa using h⟩
  | cons a l ih =>
    obtain ⟨x, xs, rfl, hx, hk⟩ := h
    obtain ⟨h1, h2⟩ := ih hk
    exact ⟨by simpa using VRL.cons hx h1, by simpa using h2⟩
theorem VRL.take {E : Env} {l : List AV} {vs : List Value} (h : VRL E l vs) (n : Nat) : VRL E (l.take n) (vs.take n) := by
  induction l generalizing vs n with
  | nil => simp only [VRL] at h; subst h; simp [VRL]
  | cons a l ih => obtain ⟨x, xs, rfl, hx, hk⟩ := h; cases n with | zero => simp [VRL] | succ n => exact VRL.cons hx (ih hk n)
theorem VRL.drop {E : Env} {l : List AV} {vs : List Value} (h : VRL E l vs) (n : Nat) : VRL E (l.drop n) (vs.drop n) := by
  induction l generalizing vs n with
  | nil => simp only [VRL] at h; subst h; simp [VRL]
  | cons a l ih => obtain ⟨x, xs, rfl, hx, hk⟩ := h; cases n with | zero => exact VRL.cons hx hk | succ n => exact ih hk n
theorem VRL.get {E : Env} {l : List AV} {vs : List Value} (h : VRL E l vs) {n : Nat} {a : AV} (k : l[n]? = some a) : ∃ x, vs[n]? = some x ∧ VR E a x := by
  induction l generalizing vs n with
  | nil => simp at k
  | cons b l ih =>
    obtain ⟨x, xs, rfl, hx, hk⟩ := h
    cases n with
    | zero => simp at k; subst k; exact ⟨x, rfl, hx⟩
    | succ n => simpa using ih hk (by simpa using k)
theorem VRL.map {E : Env} {α : Type} (f : α → AV) (g : α → Value) (l : List α) (h : ∀ x ∈ l, VR E (f x) (g x)) : VRL E (l.map f) (l.map g) := by
  induction l with
  | nil => exact VRL.nil
  | cons a l ih => exact VRL.cons (h a (by simp)) (ih fun x hx => h x (by simp [hx]))
theorem VRL.rep {E : Env} {z : List AV} {vs : List Value} (h : VRL E z vs) (n : Nat) : VRL E (repL z n) ((List.replicate n vs).flatten) := by
  induction n with
  | zero => exact VRL.nil
  | succ n ih => rw [repL_succ, List.replicate_succ, List.flatten_cons]; exact h.app ih

/-! ### constants -/
theorem VR.ofScalar (E : Env) (v : Value) : VR E (ofScalar v) v := by
  unfold Xq.ofScalar
  split <;> first | rfl | trivial | exact ⟨_, rfl, (lenL_eq _).symm, rfl⟩
theorem VR.ofValue (E : Env) (v : Value) : VR E (ofValue v) v := by
  unfold Xq.ofValue
  split
  · rename_i cs
    refine ⟨cs, rfl, ?_⟩
    rw [mapL_eq]
    have := VRL.map (E := E) Xq.ofScalar id cs.toList fun x _ => VR.ofScalar E x
    simpa using this
  · exact VR.ofScalar E v

/-! ### the cells of a value -/
theorem VR.cells {E : Env} {a : AV} {v : Value} (h : VR E a v) {l : List AV} (k : cellsOf a = some l) : VRL E l v.cells.toList := by
  cases a <;> simp only [cellsOf, Option.some.injEq, reduceCtorEq] at k <;> subst k
  case agg l => obtain ⟨vs, rfl, hv⟩ := h; exact hv
  all_goals
    have hv := h
    simp only [VR] at h
    have one : v.cells = #[v] := by
      cases v <;> first | rfl | (simp at h)
    rw [one]
    exact VRL.cons hv VRL.nil
theorem VR.scal {E : Env} {a : AV} {v : Value} (h : VR E a v) (k : scal a = true) : v.oneCell' = true := by
  cases a <;> simp only [Xq.scal, reduceCtorEq] at k <;> simp only [VR] at h <;> cases v <;> first | rfl | (simp at h)

/-! ### objects -/
def MR (E : Env) : List (AV × AV) → List MapEntry → Prop
  | [], es => es = []
  | p :: l, es => ∃ e r, es = e :: r ∧ VR E p.1 e.key ∧ VR E p.2 e.val ∧ MR E l r
theorem MR.mono {E E' : Env} (h : Ext E E') : ∀ {l : List (AV × AV)} {es : List MapEntry}, MR E l es → MR E' l es
  | [], _, k => k
  | _ :: _, _, ⟨e, r, q, a, b, k⟩ => ⟨e, r, q, a.mono h, b.mono h, MR.mono h k⟩

def OR (E : Env) (o : AObj) (r tot : Nat) (w : World) : Prop :=
  match o with
  | .cells l t full => ∃ (cs : Array Value) (vs rest : List Value), w.heap[r]? = some (.cells cs t (0, 0)) ∧ cs.toList = vs ++ rest ∧ VRL E l vs ∧ (full = true → rest = []) ∧ cs.size = tot
  | .map es => ∃ ms clock, w.heap[r]? = some (.map ms clock) ∧ MR E es ms.toList
theorem OR.mono {E E' : Env} (h : Ext E E') {o : AObj} {r tot : Nat} {w : World} (k : OR E o r tot w) : OR E' o r tot w := by
  cases o with
  | cells l t full => obtain ⟨cs, vs, rest, a, b, c, d⟩ := k; exact ⟨cs, vs, rest, a, b, c.mono h, d⟩
  | map es => obtain ⟨ms, clock, a, b⟩ := k; exact ⟨ms, clock, a, b.mono h⟩
theorem OR.world {E : Env} {o : AObj} {r tot : Nat} {w w' : World} (k : OR E o r tot w) (h : w'.heap[r]? = w.heap[r]?) : OR E o r tot w' := by
  cases o <;> simpa only [OR, h] using k
theorem OR.lt {E : Env} {o : AObj} {r tot : Nat} {w : World} (k : OR E o r tot w) : r < w.heap.size := by
  cases o with
  | cells l t full => obtain ⟨cs, vs, rest, a, _⟩ := k; exact (Array.getElem?_eq_some_iff.1 a).1
  | map es => obtain ⟨ms, clock, a, _⟩ := k; exact (Array.getElem?_eq_some_iff.1 a).1

/-! ### atoms -/
def AIR (E : Env) : AI → Int → Prop
  | .lit m, n => n = m
  | .at i, n => E.σ i = some n
def mopI (op : MOp) (a b : Int) : Int :=
  match op with
  | .add => IntKind.i64.wrap (a + b)
  | .sub => IntKind.i64.wrap (a - b)
  | .rem => a.tmod b
  | .and => IntKind.i64.wrap (BitVec.ofInt 64 a &&& BitVec.ofInt 64 b).toNat
structure SyOk (E : Env) (y : Sy) : Prop where
  fresh : ∀ i, y.nint ≤ i → E.σ i = none
  ints : ∀ i lo hi, y.ints.get (pathOf i) = some (lo, hi) → ∃ n, E.σ i = some n ∧ lo ≤ n ∧ n ≤ hi
  memo : ∀ m ∈ y.memo, ∃ a b, AIR E m.x a ∧ AIR E m.y b ∧ E.σ m.r = some (mopI m.op a b) ∧ (m.op = .rem → b ≠ 0)
  known : ∀ i l n, y.strs.get (pathOf i) = some (.known l n) → (E.ς i).data.toList.length = l ∧ num (E.ς i).data.toList 0 = n
  excl : ∀ i ls, y.strs.get (pathOf i) = some (.excl ls) → ∀ x ∈ ls, ¬ ((E.ς i).data.toList.length = x.1 ∧ num (E.ς i).data.toList 0 = x.2)

/-! ### states -/
structure Rel (P : Program) (E : Env) (s : St) (w : World) : Prop where
  heap : ∀ b o, hget s b = some o → ∃ r c, E.ρ b = some (r, c) ∧ OR E o r c w
  inj : ∀ b b' o o' r c c', hget s b = some o → hget s b' = some o' → E.ρ b = some (r, c) → E.ρ b' = some (r, c') → b = b'
  fresh : ∀ b, s.next ≤ b → E.ρ b = none
  glob : ∀ g r c, g < P.globals.size → E.ρ g = some (r, c) → r = g
  next : P.globals.size ≤ s.next
  sy : SyOk E s.sy

structure Step (E : Env) (s : St) (w : World) (E' : Env) (s' : St) (w' : World) : Prop where
  ext : Ext E E'
  base : s'.base = s.base
  next : s.next ≤ s'.next
  old : ∀ b, b < s.next → E'.ρ b = E.ρ b
  os : w'.os = w.os
  tape : w'.tape = w.tape
  output : w'.output = w.output
  size : w.heap.size ≤ w'.heap.size
  keep : ∀ r, r < w.heap.size → (∀ b o c, hget s b = some o → s.base ≤ b → E.ρ b ≠ some (r, c)) → w'.heap[r]? = w.heap[r]?
  dom : ∀ b o r c, hget s' b = some o → s'.base ≤ b → E'.ρ b = some (r, c) → r < w.heap.size → ∃ b0 o0 c0, hget s b0 = some o0 ∧ s.base ≤ b0 ∧ E.ρ b0 = some (r, c0)
theorem Step.refl (E : Env) (s : St) (w : World) : Step E s w E s w :=
  ⟨Ext.refl E, rfl, Nat.le_refl _, fun _ _ => rfl, rfl, rfl, rfl, Nat.le_refl _, fun _ _ _ => rfl, fun b o r c h hb k _ => ⟨b, o, c, h, hb, k⟩⟩
theorem Step.trans {E E1 E2 : Env} {s s1 s2 : St} {w w1 w2 : World} (h : Step E s w E1 s1 w1) (k : Step E1 s1 w1 E2 s2 w2) : Step E s w E2 s2 w2 where
  ext := h.ext.trans k.ext
  base := k.base.trans h.base
  next := Nat.le_trans h.next k.next
  old := fun b hb => (k.old b (Nat.lt_of_lt_of_le hb h.next)).trans (h.old b hb)
  os := k.os.trans h.os
  tape := k.tape.trans h.tape
  output := k.output.trans h.output
  size := Nat.le_trans h.size k.size
  keep := fun r hr hk => (k.keep r (Nat.lt_of_lt_of_le hr h.size) fun b o c hb hbase he => by
    obtain ⟨b0, o0, c0, x, y, z⟩ := h.dom b o r c hb hbase he hr
    exact hk b0 o0 c0 x y z).trans (h.keep r hr hk)
  dom := fun b o r c hb hbase he hr => by
    obtain ⟨b0, o0, c0, x, y, z⟩ := k.dom b o r c hb hbase he (Nat.lt_of_lt_of_le hr h.size)
    exact h.dom b0 o0 r c0 x y z hr

/-- no more is known, or something of the atoms -/
structure Refn (s s' : St) : Prop where
  heap : s'.heap = s.heap
  next : s'.next = s.next
  base : s'.base = s.base
  nint : s'.sy.nint = s.sy.nint
theorem Refn.refl (s : St) : Refn s s := ⟨rfl, rfl, rfl, rfl⟩
theorem Refn.trans {s s1 s2 : St} (h : Refn s s1) (k : Refn s1 s2) : Refn s s2 := ⟨k.heap.trans h.heap, k.next.trans h.next, k.base.trans h.base, k.nint.trans h.nint⟩
theorem Refn.hget {s s' : St} (h : Refn s s') (b : Nat) : hget s' b = hget s b := by unfold Xq.hget; rw [h.heap]
theorem Rel.refn {P : Program} {E : Env} {s s' : St} {w : World} (hR : Rel P E s w) (h : Refn s s') (hy : SyOk E s'.sy) : Rel P E s' w where
  heap := fun b o hb => hR.heap b o (by rwa [h.hget] at hb)
  inj := fun b b' o o' r c c' h1 h2 => hR.inj b b' o o' r c c' (by rwa [h.hget] at h1) (by rwa [h.hget] at h2)
  fresh := fun b hb => hR.fresh b (by rwa [h.next] at hb)
  glob := hR.glob
  next := by rw [h.next]; exact hR.next
  sy := hy
theorem Step.refn {E : Env} {s s' : St} {w : World} (h : Refn s s') : Step E s w E s' w :=
  ⟨Ext.refl E, h.base, by rw [h.next]; exact Nat.le_refl _, fun _ _ => rfl, rfl, rfl, rfl, Nat.le_refl _, fun _ _ _ => rfl,
   fun b o r c hb hbase k _ => ⟨b, o, c, by rwa [h.hget] at hb, by rwa [h.base] at hbase, k⟩⟩

/-- frames -/
def FrRel (E : Env) (fr : Fr) (tmps : Array Value) : Prop := ∀ t v, fr.get (pathOf t) = some v → ∃ x, tmps[t]? = some x ∧ VR E v x
theorem FrRel.mono {E E' : Env} (h : Ext E E') {fr : Fr} {tmps : Array Value} (k : FrRel E fr tmps) : FrRel E' fr tmps :=
  fun t v ht => let ⟨x, hx, hv⟩ := k t v ht; ⟨x, hx, hv.mono h⟩
theorem VR.undef (E : Env) : VR E undefA undef := ⟨#[], rfl, rfl⟩
theorem FrRel.put {E : Env} {fr : Fr} {a : Act} (k : FrRel E fr a.tmps) (dst : Option Tmp) {v : AV} {x : Value} (h : VR E v x)
    (hd : ∀ d, dst = some d → d < a.tmps.size) : FrRel E (putF fr dst v) (a.put dst x).tmps := by
  cases dst with
  | none => exact k
  | some d =>
    intro t u ht
    simp only [putF] at ht
    rw [Tr.get_set_of] at ht
    simp only [Act.put]
    by_cases e : d = t
    · subst e
      rw [if_pos rfl] at ht
      cases ht
      exact ⟨x, by simp [hd d rfl], h⟩
    · rw [if_neg e] at ht
      obtain ⟨y, hy, hv⟩ := k t u ht
      exact ⟨y, by rw [Array.getElem?_setIfInBounds_ne e]; exact hy, hv⟩

/-! ### answers -/
structure Lawful {R : Type} (A : Ans R) (Pr : R → Prop) : Prop where
  fail : ∀ m, ¬ Pr (A.fail m)
  fork : ∀ q a b, Pr (A.fork q a b) → Pr a ∧ Pr b
end Go.Proofs.YtlnfollgpbcafaaGreatDoor.Xq
