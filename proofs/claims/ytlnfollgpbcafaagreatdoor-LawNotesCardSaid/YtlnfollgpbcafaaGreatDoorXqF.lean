import Derived.Test.YtlnfollgpbcafaaGreatDoorXqE
import Derived.Laws.Strings
import Derived.Lib.Strings
set_option autoImplicit false
set_option linter.unusedVariables false
/-! Memory: loads, stores, new blocks. -/
namespace Go.Proofs.YtlnfollgpbcafaaGreatDoor.Xq
open Go

section
variable {P : Program} {E : Env} {s : St} {w : World} {R : Type} {A : Ans R} {Pr : R → Prop}

/-- what an operation comes to -/
def Good (P : Program) (E : Env) (s : St) (w : World) (res : Result Value) (K : AV → St → Prop) : Prop :=
  ∃ v s' E' x w', res = .ok x w' ∧ VR E' v x ∧ Rel P E' s' w' ∧ Step E s w E' s' w' ∧ K v s'
def GoodU (P : Program) (E : Env) (s : St) (w : World) (res : Result Unit) (K : St → Prop) : Prop :=
  ∃ s' E' w', res = .ok () w' ∧ Rel P E' s' w' ∧ Step E s w E' s' w' ∧ K s'
theorem Good.refn {s1 : St} {res : Result Value} {K : AV → St → Prop} (h : Refn s s1) (k : Good P E s1 w res K) : Good P E s w res K := by
  obtain ⟨v, s', E', x, w', a, b, c, d, e⟩ := k
  exact ⟨v, s', E', x, w', a, b, c, (Step.refn h).trans d, e⟩
theorem GoodU.refn {s1 : St} {res : Result Unit} {K : St → Prop} (h : Refn s s1) (k : GoodU P E s1 w res K) : GoodU P E s w res K := by
  obtain ⟨s', E', w', a, c, d, e⟩ := k
  exact ⟨s', E', w', a, c, (Step.refn h).trans d, e⟩
/-- nothing changes in memory -/
theorem Good.here {s1 : St} {x : Value} {v : AV} {K : AV → St → Prop} (hR : Rel P E s w) (r : Refn s s1) (hy : SyOk E s1.sy) (hv : VR E v x) (hK : K v s1) : Good P E s w (.ok x w) K :=
  ⟨v, s1, E, x, w, rfl, hv, hR.refn r hy, Step.refn r, hK⟩
theorem Good.pure {x : Value} {v : AV} {K : AV → St → Prop} (hR : Rel P E s w) (hv : VR E v x) (hK : K v s) : Good P E s w (.ok x w) K :=
  Good.here hR (Refn.refl s) hR.sy hv hK

/-! ### the heap of names -/
theorem hget_hset (s : St) (b c : Nat) (o : Option AObj) : hget (hset s b o) c = if b = c then o else hget s c := Tr.get_set_of _ _ _ _
theorem hget_hnew (s : St) (c : Nat) (o : AObj) : hget (hnew s o) c = if s.next = c then some o else hget s c := Tr.get_set_of _ _ _ _
theorem hsetK_eq (s : St) (b : Nat) (o : Option AObj) (k : St → R) : hsetK s b o k = k (hset s b o) := by cases s; rfl
theorem hnewK_eq (s : St) (o : AObj) (k : Nat → St → R) : hnewK s o k = k s.next (hnew s o) := by cases s; rfl

/-! ### new blocks -/
def Env.add (E : Env) (b r c : Nat) : Env := { E with ρ := fun x => if x = b then some (r, c) else E.ρ x }
theorem Env.add_same (E : Env) (b r c : Nat) : (E.add b r c).ρ b = some (r, c) := by simp [Env.add]
theorem Env.add_other (E : Env) {b x : Nat} (h : x ≠ b) (r c : Nat) : (E.add b r c).ρ x = E.ρ x := by simp [Env.add, h]
theorem Ext.add {E : Env} {b : Nat} (h : E.ρ b = none) (r c : Nat) : Ext E (E.add b r c) := by
  refine ⟨fun x p e => ?_, fun _ _ h => h, rfl⟩
  rw [Env.add_other]
  · exact e
  · rintro rfl; rw [h] at e; cases e
theorem SyOk.add {E : Env} {y : Sy} (h : SyOk E y) (b r c : Nat) : SyOk (E.add b r c) y := by
  refine ⟨h.fresh, h.ints, fun m hm => ?_, h.known, h.excl⟩
  obtain ⟨p, q, h1, h2, h3⟩ := h.memo m hm
  refine ⟨p, q, ?_, ?_, h3⟩
  · cases hx : m.x <;> rw [hx] at h1 <;> exact h1
  · cases hx : m.y <;> rw [hx] at h2 <;> exact h2
theorem heap_alloc_old (w : World) (o : Obj) {r : Nat} (h : r < w.heap.size) : (w.alloc o).heap[r]? = w.heap[r]? := by
  simp only [World.alloc]
  rw [Array.getElem?_push]
  rw [if_neg (by omega)]
theorem heap_alloc_new (w : World) (o : Obj) : (w.alloc o).heap[w.heap.size]? = some o := by
  show (w.heap.push o)[w.heap.size]? = some o
  simp
theorem new_ok (hR : Rel P E s w) {o : AObj} {ob : Obj} {tot : Nat} (ho : ∀ E', Ext E E' → OR E' o w.heap.size tot (w.alloc ob)) :
    Rel P (E.add s.next w.heap.size tot) (hnew s o) (w.alloc ob) ∧ Step E s w (E.add s.next w.heap.size tot) (hnew s o) (w.alloc ob) := by
  have hx := hR.fresh s.next (Nat.le_refl _)
  have ext := Ext.add hx w.heap.size tot
  have old : ∀ b o r c, hget s b = some o → E.ρ b = some (r, c) → r < w.heap.size := fun b o r c hb hr => by
    obtain ⟨r', c', e, hO⟩ := hR.heap b o hb
    rw [hr] at e; cases e; exact hO.lt
  have ne : ∀ b o, hget s b = some o → b ≠ s.next := fun b o hb e => by
    obtain ⟨r', c', e', _⟩ := hR.heap b o hb
    rw [e, hx] at e'; cases e'
  refine ⟨⟨?_, ?_, ?_, ?_, ?_, hR.sy.add _ _ _⟩, ⟨ext, rfl, Nat.le_succ _, fun b hb => Env.add_other E (Nat.ne_of_lt hb) _ _, rfl, rfl, rfl, by simp, fun r hr _ => heap_alloc_old w ob hr, ?_⟩⟩
  · intro b o' hb
    rw [hget_hnew] at hb
    by_cases e : s.next = b
    · subst e
      rw [if_pos rfl] at hb; cases hb
      exact ⟨_, _, Env.add_same _ _ _ _, ho _ ext⟩
    · rw [if_neg e] at hb
      obtain ⟨r, c, hr, hO⟩ := hR.heap b o' hb
      exact ⟨r, c, ext.ρ _ _ hr, (hO.mono ext).world (heap_alloc_old w ob hO.lt)⟩
  · intro b b' o1 o2 r c c' h1 h2 e1 e2
    rw [hget_hnew] at h1 h2
    by_cases q1 : s.next = b
    · by_cases q2 : s.next = b'
      · omega
      · subst q1
        rw [if_neg q2] at h2
        rw [Env.add_same] at e1; cases e1
        rw [Env.add_other _ (fun e => q2 e.symm)] at e2
        have := old b' o2 _ _ h2 e2; omega
    · rw [if_neg q1] at h1
      rw [Env.add_other _ (fun e => q1 e.symm)] at e1
      by_cases q2 : s.next = b'
      · subst q2
        rw [Env.add_same] at e2; cases e2
        have := old b o1 _ _ h1 e1; omega
      · rw [if_neg q2] at h2
        rw [Env.add_other _ (fun e => q2 e.symm)] at e2
        exact hR.inj b b' o1 o2 r c c' h1 h2 e1 e2
  · intro b hb
    have hb' : s.next + 1 ≤ b := hb
    rw [Env.add_other _ (by omega)]
    exact hR.fresh b (by omega)
  · intro g r c hg hr
    have := hR.next
    rw [Env.add_other _ (by omega)] at hr
    exact hR.glob g r c hg hr
  · have := hR.next; exact Nat.le_succ_of_le this
  · intro b o' r c hb hbase hr hlt
    rw [hget_hnew] at hb
    by_cases e : s.next = b
    · subst e
      rw [Env.add_same] at hr; cases hr; omega
    · rw [if_neg e] at hb
      rw [Env.add_other _ (fun q => e q.symm)] at hr
      exact ⟨b, o', c, hb, hbase, hr⟩

/-- a new block of cells whose front is known -/
theorem newCells_ok (hR : Rel P E s w) {l : List AV} {vs rest : List Value} {t : Nat} {full : Bool} (hl : VRL E l vs) (hf : full = true → rest = []) :
    Rel P (E.add s.next w.heap.size (vs ++ rest).length) (hnew s (.cells l t full)) (w.alloc (.cells (vs ++ rest).toArray t)) ∧
    Step E s w (E.add s.next w.heap.size (vs ++ rest).length) (hnew s (.cells l t full)) (w.alloc (.cells (vs ++ rest).toArray t)) :=
  new_ok hR fun E' ext => ⟨(vs ++ rest).toArray, vs, rest, heap_alloc_new _ _, rfl, hl.mono ext, hf, by simp⟩
theorem newA_ok (hR : Rel P E s w) {l : List AV} {cs : Array Value} {t : Nat} {k : Nat → St → R} (hl : VRL E l cs.toList) (h : Pr (newA s l t true k)) :
    ∃ E', Rel P E' (hnew s (.cells l t true)) (w.alloc (.cells cs t)) ∧ Step E s w E' (hnew s (.cells l t true)) (w.alloc (.cells cs t)) ∧ E'.ρ s.next = some (w.heap.size, cs.size) ∧ Pr (k s.next (hnew s (.cells l t true))) := by
  unfold newA at h
  rw [hnewK_eq] at h
  have := newCells_ok (t := t) (full := true) (rest := []) hR hl (fun _ => rfl)
  simp only [List.append_nil, Array.toArray_toList, Array.length_toList] at this
  exact ⟨_, this.1, this.2, Env.add_same _ _ _ _, h⟩

/-! ### loads -/
theorem Addr_add (r o n : Nat) : (⟨r, o, none⟩ : Addr).add n = ⟨r, o + n, none⟩ := by unfold Addr.add; split <;> simp_all
theorem cells_of (hR : Rel P E s w) {b r c : Nat} {l : List AV} {t : Nat} {full : Bool} (hb : hget s b = some (.cells l t full)) (hr : E.ρ b = some (r, c)) :
    ∃ cs vs rest, w.heap[r]? = some (.cells cs t (0, 0)) ∧ cs.toList = vs ++ rest ∧ VRL E l vs ∧ (full = true → rest = []) ∧ cs.size = c := by
  obtain ⟨r', c', e, hO⟩ := hR.heap b _ hb
  rw [hr] at e; cases e
  exact hO
theorem aggOf_run {t n : Nat} (h : aggOf P t = some n) (w : World) :
    (isAgg t).run P w = .ok (!Nat.beq n 0) w ∧ (∀ m, n = m + 1 → (sizeOf t).run P w = .ok m w) := by
  unfold aggOf at h
  have size : ∀ m, szOf P t = some m → (sizeOf t).run P w = .ok m w := fun m hm => by
    unfold szOf at hm
    cases hi : P.info? t with
    | none => rw [hi] at hm; cases hm
    | some i => rw [hi] at hm; cases hm; simp [sizeOf, typeInfo, hi]
  split at h
  · rename_i fs hu
    cases hs : szOf P t with
    | none => rw [hs] at h; cases h
    | some m => rw [hs] at h; cases h; exact ⟨by simp [isAgg, run_underlying hu]; rfl, fun m' hm => by cases hm; exact size m hs⟩
  · rename_i k e hu
    cases hs : szOf P t with
    | none => rw [hs] at h; cases h
    | some m => rw [hs] at h; cases h; exact ⟨by simp [isAgg, run_underlying hu]; rfl, fun m' hm => by cases hm; exact size m hs⟩
  · rename_i d h1 h2 hu
    cases h
    refine ⟨?_, fun m hm => by cases hm⟩
    cases d <;> first | exact absurd rfl (h1 _) | exact absurd rfl (h2 _ _) | simp [isAgg, run_underlying hu]
  · cases h
theorem loadA_ok (hA : Lawful A Pr) (hR : Rel P E s w) {t b off r c : Nat} {k : AV → R} (hr : E.ρ b = some (r, c)) (h : Pr (loadA P A t s b off k)) :
    ∃ v x, (loadVar t ⟨r, off, none⟩).run P w = .ok x w ∧ VR E v x ∧ Pr (k v) := by
  unfold loadA at h
  split at h
  · rename_i l t' full hb
    obtain ⟨cs, vs, rest, hw, hcs, hl, _, _⟩ := cells_of hR hb hr
    split at h
    · rename_i hagg
      rw [nth_eq] at h
      split at h
      · rename_i v hv
        obtain ⟨x, hx, hvx⟩ := hl.get hv
        refine ⟨v, x, ?_, hvx, h⟩
        have hc : w.cell? ⟨r, off, none⟩ = some x := by
          simp only [World.cell?, hw]
          have : cs.toList[off]? = some x := by
            rw [hcs, List.getElem?_append_left (by have := (List.getElem?_eq_some_iff.1 hx).1; omega)]; exact hx
          simpa using this
        simp [loadVar, (aggOf_run hagg w).1, hc]
      · exact (hA.fail _ h).elim
    · rename_i n hagg
      split at h
      · rename_i hle
        rw [lenL_eq, ble_iff] at hle
        rw [takeL_eq, dropL_eq] at h
        have hlen := hl.length
        refine ⟨_, _, ?_, (show VR E (.agg ((l.drop off).take n)) (.agg ((vs.drop off).take n).toArray) from ⟨_, rfl, by simpa using (hl.drop off).take n⟩), h⟩
        have hn : ((vs.drop off).take n).length = n := by simp; omega
        have hload := run_loadCells_list (P := P) w ⟨r, off, none⟩ ((vs.drop off).take n) (fun j v hj => by
          have hjn : j < n := by have := (List.getElem?_eq_some_iff.1 hj).1; omega
          rw [Addr_add]
          simp only [World.cell?, hw]
          have : cs.toList[off + j]? = some v := by
            rw [hcs, List.getElem?_append_left (by omega)]
            rw [List.getElem?_take, if_pos hjn, List.getElem?_drop] at hj
            exact hj
          simpa using this)
        rw [hn] at hload
        obtain ⟨h1, h2⟩ := aggOf_run hagg w
        simp [loadVar, h1, h2 n rfl, hload]
      · exact (hA.fail _ h).elim
    · exact (hA.fail _ h).elim
  · exact (hA.fail _ h).elim

/-! ### stores -/
theorem SyOk.heap {s' : St} (hy : SyOk E s.sy) (h : s'.sy = s.sy) : SyOk E s'.sy := by rw [h]; exact hy
/-- a block's cells are changed -/
theorem set_ok (hR : Rel P E s w) {b r c : Nat} {o o' : AObj} {w' : World} (hb : hget s b = some o) (hbase : s.base ≤ b) (hr : E.ρ b = some (r, c))
    (hO : OR E o' r c w') (hw : ∀ k, k ≠ r → w'.heap[k]? = w.heap[k]?) (hos : w'.os = w.os) (htape : w'.tape = w.tape) (hout : w'.output = w.output) (hsz : w'.heap.size = w.heap.size) :
    Rel P E (hset s b (some o')) w' ∧ Step E s w E (hset s b (some o')) w' := by
  refine ⟨⟨?_, ?_, hR.fresh, hR.glob, hR.next, hR.sy⟩, ⟨Ext.refl E, rfl, Nat.le_refl _, fun _ _ => rfl, hos, htape, hout, Nat.le_of_eq hsz.symm, ?_, ?_⟩⟩
  · intro b' o1 hb'
    rw [hget_hset] at hb'
    by_cases e : b = b'
    · subst e; rw [if_pos rfl] at hb'; cases hb'; exact ⟨r, c, hr, hO⟩
    · rw [if_neg e] at hb'
      obtain ⟨r1, c1, e1, hO1⟩ := hR.heap b' o1 hb'
      refine ⟨r1, c1, e1, hO1.world (hw r1 ?_)⟩
      rintro rfl
      exact e (hR.inj b b' o o1 r1 c c1 hb hb' hr e1)
  · intro b1 b2 o1 o2 r1 c1 c2 h1 h2 e1 e2
    have f : ∀ x o3, hget (hset s b (some o')) x = some o3 → ∃ o4, hget s x = some o4 := fun x o3 hx => by
      rw [hget_hset] at hx
      by_cases e : b = x
      · subst e; exact ⟨o, hb⟩
      · rw [if_neg e] at hx; exact ⟨o3, hx⟩
    obtain ⟨p1, q1⟩ := f _ _ h1
    obtain ⟨p2, q2⟩ := f _ _ h2
    exact hR.inj b1 b2 p1 p2 r1 c1 c2 q1 q2 e1 e2
  · intro k hk hkeep
    exact hw k fun e => hkeep b o c hb hbase (by rw [e]; exact hr)
  · intro b1 o1 r1 c1 h1 hbase1 e1 _
    rw [hget_hset] at h1
    by_cases e : b = b1
    · subst e; exact ⟨b, o, c1, hb, hbase1, e1⟩
    · rw [if_neg e] at h1; exact ⟨b1, o1, c1, h1, hbase1, e1⟩
theorem allScal {l : List AV} {vs : List Value} (h : VRL E l vs) (k : allL scal l = true) : ∀ v ∈ vs, v.oneCell' = true := by
  rw [allL_iff] at k
  induction l generalizing vs with
  | nil => simp only [VRL] at h; subst h; intro v hv; cases hv
  | cons a l ih =>
    obtain ⟨x, xs, rfl, hx, hk⟩ := h
    intro v hv
    rcases List.mem_cons.1 hv with rfl | hv
    · exact hx.scal (k a (by simp))
    · exact ih hk (fun x hx => k x (by simp [hx])) v hv
theorem storeCells_ok (hR : Rel P E s w) {b r c : Nat} {l : List AV} {t : Nat} {full : Bool} (hb : hget s b = some (.cells l t full)) (hbase : s.base ≤ b) (hr : E.ρ b = some (r, c))
    {off : Nat} {us : List Value} (hus : ∀ v ∈ us, v.oneCell' = true) (hlen : off + us.length ≤ l.length) {l' : List AV}
    (hl' : ∀ vs, VRL E l vs → VRL E l' (vs.take off ++ us ++ vs.drop (off + us.length))) :
    ∃ w', (storeCells ⟨r, off, none⟩ us 0).run P w = .ok () w' ∧ Rel P E (hset s b (some (.cells l' t full))) w' ∧ Step E s w E (hset s b (some (.cells l' t full))) w' := by
  obtain ⟨cs, vs, rest, hw, hcs, hl, hf, hc⟩ := cells_of hR hb hr
  have hvl := hl.length
  have hsz : cs.size = vs.length + rest.length := by rw [← Array.length_toList, hcs, List.length_append]
  have hrun := run_storeCells_at P r off t us 0 cs w hw (by omega) hus
  refine ⟨_, hrun, ?_⟩
  have hnew := setRow_heap w r cs (cs.toList.take (off + 0) ++ us ++ cs.toList.drop (off + 0 + us.length)).toArray t (0, 0) hw
  refine set_ok hR hb hbase hr ⟨_, vs.take off ++ us ++ vs.drop (off + us.length), rest, hnew, ?_, hl' vs hl, hf, ?_⟩ (fun k hk => setRow_other w r k _ hk) rfl rfl rfl (by simp)
  · simp only [Nat.add_zero]
    rw [hcs, List.take_append_of_le_length (by omega), List.drop_append_of_le_length (by omega)]
    simp [List.append_assoc]
  · simp only [Nat.add_zero, List.size_toArray, List.length_append, List.length_take, List.length_drop, Array.length_toList]
    omega
theorem storeL_ok (hA : Lawful A Pr) (hR : Rel P E s w) {b off r c : Nat} {vs : List AV} {us : List Value} {k : St → R} (hr : E.ρ b = some (r, c)) (hus : VRL E vs us) (h : Pr (storeL A s b off vs k)) :
    GoodU P E s w ((storeCells ⟨r, off, none⟩ us 0).run P w) fun s' => Pr (k s') := by
  unfold storeL at h
  split at h
  · rename_i l t f hb
    split at h
    · rename_i hbase
      split at h
      · rename_i hlen
        split at h
        · rename_i hsc
          rw [hsetK_eq] at h
          rw [lenL_eq, lenL_eq, ble_iff] at hlen
          have hul := hus.length
          have hput : ∀ ws, VRL E l ws → VRL E (putL vs l off) (ws.take off ++ us ++ ws.drop (off + us.length)) := fun ws hws => by
            rw [putL_eq vs l off hlen, ← hul]
            exact ((hws.take off).app hus).app (hws.drop _)
          obtain ⟨w', hrun, hR', hS'⟩ := storeCells_ok hR hb (ble_iff.1 hbase) hr (allScal hus hsc) (by omega) hput
          exact ⟨_, E, w', hrun, hR', hS', h⟩
        · exact (hA.fail _ h).elim
      · exact (hA.fail _ h).elim
    · exact (hA.fail _ h).elim
  · exact (hA.fail _ h).elim
theorem szOf_run {t n : Nat} (h : szOf P t = some n) (w : World) : (sizeOf t).run P w = .ok n w := by
  unfold szOf at h
  cases hi : P.info? t with
  | none => rw [hi] at h; cases h
  | some i => rw [hi] at h; cases h; simp [sizeOf, typeInfo, hi]
theorem storeVar_run {t n : Nat} {x : Value} (h : szOf P t = some n) (hx : x.cells.size = n) (a : Addr) (w : World) : (storeVar t a x).run P w = (storeCells a x.cells.toList 0).run P w := by
  simp [storeVar, szOf_run h, hx]
theorem storeA_ok (hA : Lawful A Pr) (hR : Rel P E s w) {t b off r c : Nat} {v : AV} {x : Value} {k : St → R} (hr : E.ρ b = some (r, c)) (hv : VR E v x) (h : Pr (storeA P A t s b off v k)) :
    GoodU P E s w ((storeVar t ⟨r, off, none⟩ x).run P w) fun s' => Pr (k s') := by
  unfold storeA at h
  split at h
  · rename_i vs hvs
    split at h
    · rename_i n hn
      split at h
      · rename_i hl
        have hc := hv.cells hvs
        rw [lenL_eq] at hl
        have hl := Nat.eq_of_beq_eq_true hl
        have hsz : x.cells.size = n := by rw [← Array.length_toList, ← hc.length, hl]
        rw [storeVar_run hn hsz]
        exact storeL_ok hA hR hr hc h
      · exact (hA.fail _ h).elim
    · exact (hA.fail _ h).elim
  · exact (hA.fail _ h).elim
theorem VRL.anys (E : Env) : ∀ (m : Nat) (us : List Value), us.length = m → VRL E (repL [AV.any] m) us
  | 0, us, h => by
    have : us = [] := List.length_eq_zero_iff.1 h
    subst this; exact VRL.nil
  | m + 1, us, h => by
    cases us with
    | nil => simp at h
    | cons u us =>
      rw [repL_succ]
      exact VRL.cons (show VR E .any u from trivial) (VRL.anys E m us (by simpa using h))
theorem storeI_ok (hA : Lawful A Pr) (hR : Rel P E s w) {t b off i es r c : Nat} {n : Int} {v : AV} {x : Value} {k : St → R} (hr : E.ρ b = some (r, c)) (hi : E.σ i = some n) (h0 : 0 ≤ n) (hv : VR E v x)
    (h : Pr (storeI P A t s b off i es v k)) :
    GoodU P E s w ((storeVar t ⟨r, off + n.toNat * es, none⟩ x).run P w) fun s' => Pr (k s') := by
  unfold storeI at h
  split at h
  · rename_i vs hvs
    split at h
    · rename_i m hm
      split at h
      · rename_i hl
        split at h
        · rename_i hsc
          split at h
          · rename_i lo hi' hiv
            split at h
            · rename_i l t' f hb
              split at h
              · rename_i hbase
                split at h
                · rename_i hle
                  rw [hsetK_eq] at h
                  have hc := hv.cells hvs
                  rw [lenL_eq] at hl hle
                  have hl := Nat.eq_of_beq_eq_true hl
                  have hle := ble_iff.1 hle
                  have hsz : x.cells.size = m := by rw [← Array.length_toList, ← hc.length, hl]
                  obtain ⟨n', e', hlo, hhi⟩ := hR.sy.ints i _ _ hiv
                  obtain rfl : n = n' := Option.some.inj (hi.symm.trans e')
                  have hlo' : lo ≤ n.toNat := by simp at hlo; omega
                  have hhi' : n.toNat ≤ hi' := by simp at hhi; omega
                  have m1 : off + lo * es ≤ off + n.toNat * es := Nat.add_le_add_left (Nat.mul_le_mul_right _ hlo') _
                  have m2 : off + n.toNat * es + m ≤ off + hi' * es + m := Nat.add_le_add_right (Nat.add_le_add_left (Nat.mul_le_mul_right _ hhi') _) _
                  have hul : x.cells.toList.length = m := by simpa using hsz
                  rw [storeVar_run hm hsz]
                  obtain ⟨w', hrun, hR', hS'⟩ := storeCells_ok (off := off + n.toNat * es) (l' := putL (repL [AV.any] (off + hi' * es + m - (off + lo * es))) l (off + lo * es)) hR hb (ble_iff.1 hbase) hr (allScal hc hsc) (by omega) (fun ws hws => by
                    have hwl := hws.length
                    have hrl : (repL [AV.any] (off + hi' * es + m - (off + lo * es))).length = off + hi' * es + m - (off + lo * es) := by rw [repL_length]; simp
                    rw [putL_eq _ l _ (by omega), hrl]
                    generalize hp : off + lo * es = p at *
                    generalize hq : off + n.toNat * es = q at *
                    generalize hz : off + hi' * es = z at *
                    have e1 : ws.take q ++ x.cells.toList ++ ws.drop (q + x.cells.toList.length) = ws.take p ++ ((ws.take q).drop p ++ x.cells.toList ++ (ws.drop (q + m)).take (z + m - (q + m))) ++ ws.drop (p + (z + m - p)) := by
                      rw [hul]
                      have t1 : ws.take q = ws.take p ++ (ws.take q).drop p := by
                        conv => lhs; rw [← List.take_append_drop p (ws.take q)]
                        rw [List.take_take, Nat.min_eq_left m1]
                      have t2 : ws.drop (q + m) = (ws.drop (q + m)).take (z + m - (q + m)) ++ ws.drop (p + (z + m - p)) := by
                        conv => lhs; rw [← List.take_append_drop (z + m - (q + m)) (ws.drop (q + m))]
                        rw [List.drop_drop]
                        congr 2
                        omega
                      have t3 : ws.take q ++ x.cells.toList ++ ws.drop (q + m) = (ws.take p ++ (ws.take q).drop p) ++ x.cells.toList ++ ((ws.drop (q + m)).take (z + m - (q + m)) ++ ws.drop (p + (z + m - p))) := by rw [← t1, ← t2]
                      rw [t3]
                      simp only [List.append_assoc]
                    rw [e1]
                    refine ((hws.take p).app (VRL.anys E _ _ ?_)).app (hws.drop _)
                    simp only [List.length_append, List.length_drop, List.length_take, hul]
                    omega)
                  exact ⟨_, E, w', hrun, hR', hS', h⟩
                · exact (hA.fail _ h).elim
              · exact (hA.fail _ h).elim
            · exact (hA.fail _ h).elim
          · exact (hA.fail _ h).elim
        · exact (hA.fail _ h).elim
      · exact (hA.fail _ h).elim
    · exact (hA.fail _ h).elim
  · exact (hA.fail _ h).elim
theorem storeJ_ok (hA : Lawful A Pr) (hR : Rel P E s w) {t b off i es r c : Nat} {n : Int} {v : AV} {x : Value} {k : St → R} (hr : E.ρ b = some (r, c)) (hi : E.σ i = some n) (h0 : 0 ≤ n) (hv : VR E v x)
    (h : Pr (storeJ P A t s b off i es v k)) :
    GoodU P E s w ((storeVar t ⟨r, off + n.toNat * es, none⟩ x).run P w) fun s' => Pr (k s') := by
  unfold storeJ at h
  split at h
  · rename_i lo hi' hiv
    split at h
    · rename_i he
      obtain ⟨m, hm, h1, h2⟩ := hR.sy.ints i _ _ hiv
      rw [hi] at hm; cases hm
      rw [ieq_iff] at he
      have he := of_decide_eq_true he
      have : n = (lo : Int) := Int.le_antisymm (by rw [← he] at h2; exact h2) h1
      subst this
      exact storeA_ok hA hR hr hv h
    · exact storeI_ok hA hR hr hi h0 hv h
  · exact (hA.fail _ h).elim
end
end Go.Proofs.YtlnfollgpbcafaaGreatDoor.Xq
