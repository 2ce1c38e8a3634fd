import Derived.Test.YtlnfollgpbcafaaGreatDoorXqK
set_option autoImplicit false
set_option linter.unusedVariables false
/-! The operations, one by one: maps. -/
namespace Go.Proofs.YtlnfollgpbcafaaGreatDoor.Xq
open Go

section
variable {P : Program} {E : Env} {s : St} {w : World} {R : Type} {A : Ans R} {Pr : R → Prop} {k : KV R}

/-- a key's kind -/
def KK (str : Bool) (d : TypeDesc) : Prop := if str = true then d = .string else ∃ kd, d = .int kd
theorem key_eq (hA : Lawful A Pr) (hy : SyOk E s.sy) {str : Bool} {d : TypeDesc} (hd : KK str d) {x u : AV} {vx vu : Value} (hx : VR E x vx) (hu : VR E u vu) {f : Bool → St → R}
    (h : Pr (match (generalizing := false) str with | true => eqS A s x u f | false => eqI A s x u f)) :
    ∃ b s', Instr.sameNow d vx vu = some b ∧ Refn s s' ∧ SyOk E s'.sy ∧ Pr (f b s') ∧ (b = true → vu = vx) := by
  cases str with
  | true =>
    have : d = .string := hd
    subst this
    obtain ⟨a, b, s', rfl, rfl, r, hy', hp⟩ := eqS_ok hA hx hu hy h
    have hab : (a == b) = (a.data == b.data) := rfl
    have hab2 : (a.data.toList == b.data.toList) = (a == b) := by rw [hab]; simp
    refine ⟨a == b, s', rfl, r, hy', by rw [← hab2]; exact hp, fun q => ?_⟩
    rw [hab] at q
    have := eq_of_beq q
    have e : a = b := by cases a; cases b; congr
    rw [e]
  | false =>
    obtain ⟨kd, rfl⟩ : ∃ kd, d = .int kd := hd
    obtain ⟨k', a, b, s', rfl, rfl, r, hy', hp⟩ := eqI_ok hA hx hu hy h
    refine ⟨a == b, s', by simp [Instr.sameNow], r, hy', hp, fun q => ?_⟩
    have := eq_of_beq q
    rw [this]
theorem findE_ok (hA : Lawful A Pr) {str : Bool} {d : TypeDesc} (hd : KK str d) {x : AV} {vx : Value} (hx : VR E x vx) {f : Option AV → St → R} :
    ∀ (es : List (AV × AV)) (ms : List MapEntry) (s : St) (i : Nat), SyOk E s.sy → MR E es ms → Pr (findE A str s x es f) →
    ∃ r s', Instr.findNow d vx ms i = some r ∧ Refn s s' ∧ SyOk E s'.sy ∧ ((r = none ∧ Pr (f none s')) ∨ ∃ j v a, r = some (j, v) ∧ VR E a v ∧ Pr (f (some a) s'))
  | [], ms, s, i, hy, hm, h => by
    have : ms = [] := hm
    subst this
    exact ⟨none, s, rfl, Refn.refl s, hy, .inl ⟨rfl, h⟩⟩
  | e :: es, ms, s, i, hy, hm, h => by
    obtain ⟨m, ms', rfl, hk, hv, hr⟩ := hm
    obtain ⟨b, s1, hb, r1, hy1, h1, _⟩ := key_eq (f := fun b s => match b with | true => f (some e.2) s | false => findE A str s x es f) hA hy hd hx hk (by cases str <;> exact h)
    cases b with
    | true => exact ⟨some (i, m.val), s1, by simp [Instr.findNow, hb], r1, hy1, .inr ⟨i, m.val, e.2, rfl, hv, h1⟩⟩
    | false =>
      obtain ⟨r, s2, e2, r2, hy2, h2⟩ := findE_ok hA hd hx es ms' s1 (i + 1) hy1 hr h1
      exact ⟨r, s2, by simp [Instr.findNow, hb, e2], r1.trans r2, hy2, h2⟩
theorem updE_ok (hA : Lawful A Pr) {str : Bool} {d : TypeDesc} (hd : KK str d) {x y : AV} {vx vy : Value} (hx : VR E x vx) (hvy : VR E y vy) (born : Nat) :
    ∀ (es : List (AV × AV)) (ms : List MapEntry) (s : St) (i : Nat) (f : List (AV × AV) → St → R), SyOk E s.sy → MR E es ms → Pr (updE A str s x y es f) →
    ∃ r s' es', Instr.findNow d vx ms i = some r ∧ Refn s s' ∧ SyOk E s'.sy ∧ Pr (f es' s') ∧
      ((r = none ∧ MR E es' (ms ++ [{ key := vx, val := vy, born := born }])) ∨
       ∃ j v, r = some (i + j, v) ∧ (ms[j]?).map (·.key) = some vx ∧ MR E es' (ms.modify j fun e => { e with key := vx, val := vy }))
  | [], ms, s, i, f, hy, hm, h => by
    have : ms = [] := hm
    subst this
    exact ⟨none, s, [(x, y)], rfl, Refn.refl s, hy, h, .inl ⟨rfl, _, _, rfl, hx, hvy, rfl⟩⟩
  | e :: es, ms, s, i, f, hy, hm, h => by
    obtain ⟨m, ms', rfl, hk, hv, hr⟩ := hm
    obtain ⟨b, s1, hb, r1, hy1, h1, hsame⟩ := key_eq (f := fun b s => match b with | true => f ((x, y) :: es) s | false => updE A str s x y es fun r' s => f (e :: r') s) hA hy hd hx hk (by cases str <;> exact h)
    cases b with
    | true =>
      exact ⟨some (i, m.val), s1, (x, y) :: es, by simp [Instr.findNow, hb], r1, hy1, h1, .inr ⟨0, m.val, rfl, by simp [hsame rfl], _, _, rfl, hx, hvy, hr⟩⟩
    | false =>
      obtain ⟨r, s2, es', e2, r2, hy2, h2, h3⟩ := updE_ok hA hd hx hvy born es ms' s1 (i + 1) _ hy1 hr h1
      refine ⟨r, s2, e :: es', by simp [Instr.findNow, hb, e2], r1.trans r2, hy2, h2, ?_⟩
      rcases h3 with ⟨rfl, h3⟩ | ⟨j, v, rfl, hj, h3⟩
      · exact .inl ⟨rfl, _, _, rfl, hk, hv, h3⟩
      · exact .inr ⟨j + 1, v, by rw [Nat.add_assoc, Nat.add_comm 1 j], by simpa using hj, _, _, rfl, hk, hv, h3⟩
theorem checkKey_run {str empty : Bool} {kt : Nat} {d : TypeDesc} (hu : P.underlying kt = some d) (hd : KK str d) (n : Nat) (v : Value) : (Instr.checkKey empty (n + 1) kt v).run P w = .ok () w := by
  unfold KK at hd
  split at hd
  · subst hd
    unfold Instr.checkKey
    simp only [Sem.run_bind, run_underlying hu, Result.andThen_ok]
    rfl
  · obtain ⟨kd, rfl⟩ := hd
    unfold Instr.checkKey
    simp only [Sem.run_bind, run_underlying hu, Result.andThen_ok]
    rfl
theorem tk_map' {t : Nat} {str : Bool} {e : Nat} (h : tk P t = .map str e) : ∃ kt d, P.underlying t = some (.map kt e) ∧ P.underlying kt = some d ∧ KK str d := by
  obtain ⟨kt, hu, hk⟩ := tk_map h
  split at hk
  · rename_i q
    exact ⟨kt, _, hu, hk, by simp [KK, q]⟩
  · rename_i q
    obtain ⟨kd, hk⟩ := hk
    exact ⟨kt, _, hu, hk, by simp [KK, q]⟩
theorem map_of (hR : Rel P E s w) {b r c : Nat} {es : List (AV × AV)} (hb : hget s b = some (.map es)) (hr : E.ρ b = some (r, c)) : ∃ ms clock, w.heap[r]? = some (.map ms clock) ∧ MR E es ms.toList := by
  obtain ⟨r', c', e, hO⟩ := hR.heap b _ hb
  rw [hr] at e; cases e
  exact hO
theorem getObj_run {r : Nat} {ms : Array MapEntry} {c : Nat} (h : w.heap[r]? = some (.map ms c)) : (getObj r).run P w = .ok (.map ms c) w := by
  simp [getObj, Sem.run, h]
theorem lookup_ok (hA : Lawful A Pr) (hR : Rel P E s w) {t : Nat} {m x : AV} {vm vx : Value} {ok : Bool} (hm : VR E m vm) (hx : VR E x vx) (h : Pr (lookupA P A t s m x ok k)) :
    Good P E s w ((Instr.lookup t vm vx ok).run P w) fun v s' => Pr (k v s') := by
  unfold lookupA at h
  split at h
  · rename_i str e ht
    obtain ⟨kt, d, hu, hk, hd⟩ := tk_map' ht
    have none_case : ∀ {s1 : St}, Refn s s1 → SyOk E s1.sy → Pr (match zeroOf P e with
        | some v => match (generalizing := false) ok with | true => k (.tuple [v, .bool false]) s1 | false => k v s1
        | none => A.fail "lookup: zero") → ∃ z, (zeroValue e).run P w = .ok z w ∧ Good P E s w (.ok (if ok then .tuple #[z, .bool false] else z) w) fun v s' => Pr (k v s') := by
      intro s1 r1 hy1 hp
      split at hp
      · rename_i z hz
        obtain ⟨zv, hzr, hzv⟩ := zeroOf_some hz E w
        refine ⟨zv, hzr, ?_⟩
        cases ok with
        | true => exact Good.here hR r1 hy1 (show VR E (.tuple [z, .bool false]) _ from ⟨_, rfl, VRL.cons hzv (VRL.cons rfl VRL.nil)⟩) hp
        | false => exact Good.here hR r1 hy1 hzv hp
      · exact (hA.fail _ hp).elim
    dsimp only at h
    cases m
    case map b =>
      obtain ⟨r, c, hr, rfl⟩ := hm
      dsimp only at h
      split at h
      · rename_i hb
        obtain ⟨ms, clock, hw, hM⟩ := map_of hR hb hr
        obtain ⟨q, s1, hq, r1, hy1, h1⟩ := findE_ok hA hd hx _ ms.toList s 0 hR.sy hM h
        have ck := fun (em : Bool) => checkKey_run (P := P) (w := w) (empty := em) hk hd 9999 vx
        rcases h1 with ⟨rfl, h1⟩ | ⟨j, v, a, rfl, hv, h1⟩
        · obtain ⟨z, hz, hg⟩ := none_case r1 hy1 h1
          have : (Instr.lookup t (.map (some r)) vx ok).run P w = .ok (if ok then .tuple #[z, .bool false] else z) w := by
            simp [Instr.lookup, run_underlying hu, getObj_run hw, ck, Instr.findKey, run_underlying hk, hq, hz]
          rw [this]; exact hg
        · have : (Instr.lookup t (.map (some r)) vx ok).run P w = .ok (if ok then .tuple #[v, .bool true] else v) w := by
            simp [Instr.lookup, run_underlying hu, getObj_run hw, ck, Instr.findKey, run_underlying hk, hq]
          rw [this]
          cases ok with
          | true => exact Good.here hR r1 hy1 (show VR E (.tuple [a, .bool true]) _ from ⟨_, rfl, VRL.cons hv (VRL.cons rfl VRL.nil)⟩) h1
          | false => exact Good.here hR r1 hy1 hv h1
      · exact (hA.fail _ h).elim
    case nilm =>
      cases hm
      have ck := fun (em : Bool) => checkKey_run (P := P) (w := w) (empty := em) hk hd 9999 vx
      obtain ⟨z, hz, hg⟩ := none_case (Refn.refl s) hR.sy h
      have : (Instr.lookup t (.map none) vx ok).run P w = .ok (if ok then .tuple #[z, .bool false] else z) w := by
        simp [Instr.lookup, run_underlying hu, ck, Instr.findKey, run_underlying hk, Instr.findNow, hz]
      rw [this]; exact hg
    all_goals exact (hA.fail _ h).elim
  · exact (hA.fail _ h).elim

theorem setObj_run {r : Nat} {ms : Array MapEntry} {c : Nat} {o : Obj} (h : w.heap[r]? = some (.map ms c)) : (setObj r o).run P w = .ok () { w with heap := w.heap.setIfInBounds r o } := by
  simp [setObj, Sem.run, h]
theorem keyLit_same {str : Bool} {x : AV} {vx : Value} (hx : VR E x vx) (h : keyLit str x = true) : Instr.sameBits 10000 vx vx = true := by
  cases x <;> simp only [keyLit, reduceCtorEq] at h
  case int kd n => cases hx; simp [Instr.sameBits]
  case str l n =>
    obtain ⟨a, rfl, _⟩ := hx
    simp only [Instr.sameBits]
    show (a.data == a.data) = true
    simp
theorem update_ok (hA : Lawful A Pr) (hR : Rel P E s w) {t : Nat} {m x y : AV} {vm vx vy : Value} {k : St → R} (hm : VR E m vm) (hx : VR E x vx) (hvy : VR E y vy) (h : Pr (updateA P A t s m x y k)) :
    GoodU P E s w ((Instr.mapUpdate t vm vx vy).run P w) fun s' => Pr (k s') := by
  unfold updateA at h
  split at h
  · rename_i b
    obtain ⟨r, c, hr, rfl⟩ := hm
    split at h
    · rename_i es hb
      split at h
      · rename_i hbase
        have hbase := ble_iff.1 hbase
        split at h
        · rename_i str e ht
          obtain ⟨kt, d, hu, hk, hd⟩ := tk_map' ht
          split at h
          · rename_i hlit
            obtain ⟨ms, clock, hw, hM⟩ := map_of hR hb hr
            have hlt := (Array.getElem?_eq_some_iff.1 hw).1
            obtain ⟨q, s1, es', hq, r1, hy1, h1, h2⟩ := updE_ok hA hd hx hvy clock es ms.toList s 0 _ hR.sy hM h
            rw [hsetK_eq] at h1
            have hR1 := hR.refn r1 hy1
            have ck := checkKey_run (P := P) (w := w) (empty := false) hk hd 9999 vx
            have fin : ∀ (ms' : Array MapEntry) (clock' : Nat), MR E es' ms'.toList → (Instr.mapUpdate t (.map (some r)) vx vy).run P w = .ok () { w with heap := w.heap.setIfInBounds r (.map ms' clock') } →
                GoodU P E s w ((Instr.mapUpdate t (.map (some r)) vx vy).run P w) fun s' => Pr (k s') := by
              intro ms' clock' hM' hrun
              rw [hrun]
              obtain ⟨hR2, hS2⟩ := set_ok (o' := .map es') (w' := { w with heap := w.heap.setIfInBounds r (.map ms' clock') }) hR1 (by rw [r1.hget]; exact hb) (by rw [r1.base]; exact hbase) hr
                ⟨ms', clock', by simp [hlt], hM'⟩ (fun j hj => by simp [Ne.symm hj]) rfl rfl rfl (by simp)
              exact GoodU.refn r1 ⟨_, E, _, rfl, hR2, hS2, h1⟩
            rcases h2 with ⟨rfl, h2⟩ | ⟨j, v, rfl, hj, h2⟩
            · refine fin (ms.push { key := vx, val := vy, born := clock }) (clock + 1) (by simpa using h2) ?_
              simp [Instr.mapUpdate, run_underlying hu, getObj_run hw, ck, Instr.findKey, run_underlying hk, hq, setObj_run hw]
            · refine fin (ms.modify j fun e => { e with key := vx, val := vy }) clock (by simpa using h2) ?_
              have hj' : (ms[j]?).map (·.key) = some vx := by simpa using hj
              have hks : (Instr.keyThatStays vx vx).run P w = .ok vx w := by simp [Instr.keyThatStays, keyLit_same hx hlit]
              simp [Instr.mapUpdate, run_underlying hu, getObj_run hw, ck, Instr.findKey, run_underlying hk, hq, setObj_run hw, hj', hks]
          · exact (hA.fail _ h).elim
        · exact (hA.fail _ h).elim
      · exact (hA.fail _ h).elim
    · exact (hA.fail _ h).elim
  · exact (hA.fail _ h).elim
theorem makeMap_ok (hR : Rel P E s w) {t : Nat} (hk : Pr (hnewK s (.map []) fun b s => k (.map b) s)) {x : Option Value} (hx : x = none) :
    Good P E s w ((Instr.makeMap t x).run P w) fun v s' => Pr (k v s') := by
  subst hx
  rw [hnewK_eq] at hk
  have : (Instr.makeMap t none).run P w = .ok (.map (some w.heap.size)) (w.alloc (.map #[] 0)) := by simp [Instr.makeMap]
  rw [this]
  obtain ⟨h1, h2⟩ := new_ok (o := .map []) (ob := .map #[] 0) (tot := 0) hR fun E' ext => ⟨#[], 0, heap_alloc_new _ _, rfl⟩
  exact ⟨.map s.next, _, _, _, _, rfl, ⟨w.heap.size, 0, Env.add_same _ _ _ _, rfl⟩, h1, h2, hk⟩
end
end Go.Proofs.YtlnfollgpbcafaaGreatDoor.Xq
