import Derived.Test.YtlnfollgpbcafaaGreatDoorXqL
import Derived.Laws.AppendOwn
set_option autoImplicit false
set_option linter.unusedVariables false
/-! The operations, one by one: append, makeSlice. -/
namespace Go.Proofs.YtlnfollgpbcafaaGreatDoor.Xq
open Go

section
variable {P : Program} {E : Env} {s : St} {w : World} {R : Type} {A : Ans R} {Pr : R → Prop} {k : KV R}

theorem Rel.world {w' : World} (hR : Rel P E s w) (h : w'.heap = w.heap) : Rel P E s w' where
  heap := fun b o hb => by
    obtain ⟨r, c, e, hO⟩ := hR.heap b o hb
    exact ⟨r, c, e, hO.world (by rw [h])⟩
  inj := hR.inj
  fresh := hR.fresh
  glob := hR.glob
  next := hR.next
  sy := hR.sy
theorem Step.world {w' : World} (h : w'.heap = w.heap) (ho : w'.os = w.os) (ht : w'.tape = w.tape) (hu : w'.output = w.output) : Step E s w E s w' :=
  ⟨Ext.refl E, rfl, Nat.le_refl _, fun _ _ => rfl, ho, ht, hu, Nat.le_of_eq (by rw [h]), fun _ _ _ => by rw [h], fun b o r c hb hbase k _ => ⟨b, o, c, hb, hbase, k⟩⟩
/-- a name is given up -/
theorem Rel.kill (hR : Rel P E s w) (b : Nat) : Rel P E (hset s b none) w where
  heap := fun b' o hb => by
    rw [hget_hset] at hb
    split at hb
    · cases hb
    · exact hR.heap b' o hb
  inj := fun b1 b2 o1 o2 r c c' h1 h2 e1 e2 => by
    rw [hget_hset] at h1 h2
    split at h1
    · cases h1
    · split at h2
      · cases h2
      · exact hR.inj b1 b2 o1 o2 r c c' h1 h2 e1 e2
  fresh := hR.fresh
  glob := hR.glob
  next := hR.next
  sy := hR.sy
theorem Step.kill (b : Nat) : Step E s w E (hset s b none) w :=
  ⟨Ext.refl E, rfl, Nat.le_refl _, fun _ _ => rfl, rfl, rfl, rfl, Nat.le_refl _, fun _ _ _ => rfl, fun b' o r c hb hbase k _ => by
    rw [hget_hset] at hb
    split at hb
    · cases hb
    · exact ⟨b', o, c, hb, hbase, k⟩⟩

/-! ### the cells to add -/
theorem lenS_run {y : AV} {vy : Value} {n : Nat} (hy : VR E y vy) (h : lenS y = some n) (w : World) : (Builtin.lenOf vy).run P w = .ok n w := by
  cases y <;> simp only [lenS, Option.some.injEq, reduceCtorEq] at h <;> subst h
  · obtain ⟨r, c, _, rfl⟩ := hy; simp [Builtin.lenOf]
  · obtain ⟨r, c, cap, _, _, _, _, rfl⟩ := hy; simp [Builtin.lenOf]
  · cases hy; simp [Builtin.lenOf]
theorem cells_run (hR : Rel P E s w) {b r c : Nat} {l : List AV} {t : Nat} {full : Bool} (hb : hget s b = some (.cells l t full)) (hr : E.ρ b = some (r, c)) {off m : Nat} (h : off + m ≤ l.length) :
    ∃ vals : List Value, VRL E ((l.drop off).take m) vals ∧ vals.length = m ∧
      ∀ (w' : World) (size n len cap : Nat), w'.heap = w.heap → n * size = m → (Builtin.firstCells size n (.slice (some ⟨r, off, none⟩) len cap)).run P w' = .ok vals.toArray w' := by
  obtain ⟨cs, vs, rest, hw, hcs, hl, _, _⟩ := cells_of hR hb hr
  have hvl := hl.length
  refine ⟨(vs.drop off).take m, (hl.drop off).take m, by simp; omega, fun w' size n len cap hw' hm => ?_⟩
  refine run_firstCells_some w' size n ⟨r, off, none⟩ len cap _ (by simp; omega) fun j v hj => ?_
  rw [Addr_add, cell_of_row w' r (off + j) cs t (0, 0) (by rw [hw']; exact hw), ← Array.getElem?_toList, hcs]
  rw [List.getElem?_take] at hj
  split at hj
  · rw [List.getElem?_drop] at hj
    rw [List.getElem?_append_left (by have := (List.getElem?_eq_some_iff.1 hj).1; exact this)]
    exact hj
  · cases hj
theorem firstA_ok (hA : Lawful A Pr) (hR : Rel P E s w) {y : AV} {vy : Value} {es n : Nat} {k : List AV → R} (hy : VR E y vy) (h : Pr (firstA A s es n y k)) (hn : y = .nils → n = 0) :
    ∃ (new : List AV) (vals : List Value), VRL E new vals ∧ vals.length = n * es ∧ (∀ w' : World, w'.heap = w.heap → (Builtin.firstCells es n vy).run P w' = .ok vals.toArray w') ∧ Pr (k new) := by
  unfold firstA at h
  split at h
  · cases hy
    exact ⟨[], [], VRL.nil, by simp [hn rfl], fun w' _ => run_firstCells_none w' es n 0 0, h⟩
  · rename_i b off len cap
    obtain ⟨r, c, hr, rfl⟩ := hy
    split at h
    · rename_i l t f hb
      split at h
      · rename_i hle
        rw [lenL_eq] at hle
        have hle := ble_iff.1 hle
        rw [takeL_eq, dropL_eq] at h
        obtain ⟨vals, h1, h2, h3⟩ := cells_run (P := P) hR hb hr hle
        exact ⟨_, vals, h1, h2, fun w' hw' => h3 w' es n len cap hw' rfl, h⟩
      · exact (hA.fail _ h).elim
    · exact (hA.fail _ h).elim
  · rename_i b off len es'
    obtain ⟨r, c, cap, hr, _, _, _, rfl⟩ := hy
    split at h
    · rename_i l t f hb
      split at h
      · rename_i hle
        rw [lenL_eq] at hle
        have hle := ble_iff.1 hle
        rw [takeL_eq, dropL_eq] at h
        obtain ⟨vals, h1, h2, h3⟩ := cells_run (P := P) hR hb hr hle
        exact ⟨_, vals, h1, h2, fun w' hw' => h3 w' es n len cap hw' rfl, h⟩
      · exact (hA.fail _ h).elim
    · exact (hA.fail _ h).elim
  · exact (hA.fail _ h).elim

/-! ### append -/
/-- append within the capacity -/
theorem append_room_run {ts : Array Nat} {ty t t2 e es sLen sCap n : Nat} {base : Option Addr} {vy : Value} {vals : List Value} (h0 : ts[0]? = some t) (h1 : ts[1]? = some t2)
    (ht : P.underlying t = some (.slice e)) {e2 : Nat} (ht2 : P.underlying t2 = some (.slice e2)) (hes : szOf P e = some es) (hlen : (Builtin.lenOf vy).run P w = .ok n w)
    (hf : (Builtin.firstCells es n vy).run P w = .ok vals.toArray w) (hroom : sLen + n ≤ sCap) :
    (Builtin.append_ ts ty #[.slice base sLen sCap, vy]).run P w =
      (match base with
       | some a => ((storeCells (a.add (sLen * es)) vals 0).run P w).andThen fun _ w' => .ok (.slice base (sLen + n) sCap) w'
       | none => .ok (.slice base (sLen + n) sCap) w) := by
  cases base <;> simp [Builtin.append_, h0, h1, run_underlying ht, run_underlying ht2, szOf_run hes, hlen, hf, hroom]
/-- append beyond it -/
theorem append_grow_run {ts : Array Nat} {ty t t2 e es by_ sLen sCap n : Nat} {base : Option Addr} {vy z : Value} {vals olds : List Value} (h0 : ts[0]? = some t) (h1 : ts[1]? = some t2)
    (ht : P.underlying t = some (.slice e)) {e2 : Nat} (ht2 : P.underlying t2 = some (.slice e2)) (hes : szOf P e = some es) (hby : bytesOf P e = some by_) (hlen : (Builtin.lenOf vy).run P w = .ok n w)
    (hf : (Builtin.firstCells es n vy).run P w.drew = .ok vals.toArray w.drew) (hof : (Builtin.firstCells es sLen (.slice base sLen sCap)).run P w.drew = .ok olds.toArray w.drew)
    (hz : (zeroValue e).run P w.drew = .ok z w.drew) (hroom : sCap < sLen + n) (hpos : 1 ≤ by_) (hsz : (2 * (sLen + n) + 768) * by_ ≤ 281474976710656) :
    (Builtin.append_ ts ty #[.slice base sLen sCap, vy]).run P w =
      .ok (.slice (some ⟨w.heap.size, 0, none⟩) (sLen + n) (grownCap w (sLen + n) sCap e))
        (w.drew.alloc (.cells (olds ++ vals ++ (Builtin.zeroCells z.cells (grownCap w (sLen + n) sCap e - (sLen + n))).toList).toArray e)) := by
  have hn : ¬ (sLen + n ≤ sCap) := by omega
  have hbound : 2 * (sLen + n) + 768 ≤ 281474976710656 := Nat.le_trans (Nat.le_mul_of_pos_right _ hpos) hsz
  have h63' : ¬ (9223372036854775807 < ((sLen : Int) + (n : Int))) := by omega
  have hcap : Builtin.nextslicecap (sLen + n) sCap * by_ ≤ 281474976710656 := by
    refine Nat.le_trans (Nat.mul_le_mul_right by_ (nextslicecap_le hroom)) ?_
    refine Nat.le_trans (Nat.mul_le_mul_right by_ ?_) hsz
    omega
  have h48' : ¬ (281474976710656 < Builtin.nextslicecap (sLen + n) sCap * by_) := by omega
  have hinfo : ∃ i, P.info? e = some i ∧ i.bytes = by_ := by
    unfold bytesOf at hby
    cases hi : P.info? e with
    | none => rw [hi] at hby; cases hby
    | some i => rw [hi] at hby; exact ⟨i, rfl, by simpa using hby⟩
  obtain ⟨i, hi, rfl⟩ := hinfo
  simp [Builtin.append_, h0, h1, run_underlying ht, run_underlying ht2, szOf_run hes, hlen, hn, h63', typeInfo, hi, h48', Question.forced, hf, hof, hz, newRow, grownCap]
  congr 2
  apply Array.ext'
  simp
/-- the new row -/
theorem grow_good {s1 : St} {k : KV R} (hR1 : Rel P E s1 w) (hS : Step E s w E s1 w) {l : List AV} {olds vals : List Value} {z : Value} {e es need cap : Nat} (hl : VRL E l (olds ++ vals)) (hlen : (olds ++ vals).length = need * es)
    (hz : z.cells.size = es) (hes : 0 < es) (hc : need ≤ cap) (h : Pr (newA s1 l e false fun b s => k (.sliceT b 0 need es) s)) :
    Good P E s w (.ok (.slice (some ⟨w.heap.size, 0, none⟩) need cap) (w.drew.alloc (.cells (olds ++ vals ++ (Builtin.zeroCells z.cells (cap - need)).toList).toArray e))) fun v s' => Pr (k v s') := by
  unfold newA at h
  rw [hnewK_eq] at h
  have hR2 : Rel P E s1 w.drew := hR1.world rfl
  have hS2 : Step E s1 w E s1 w.drew := Step.world rfl rfl rfl rfl
  obtain ⟨h1, h2⟩ := newCells_ok (t := e) (full := false) (rest := (Builtin.zeroCells z.cells (cap - need)).toList) hR2 hl (fun q => by cases q)
  refine ⟨.sliceT s1.next 0 need es, _, _, _, _, rfl, ⟨w.heap.size, _, cap, Env.add_same _ _ _ _, ?_, hes, hc, rfl⟩, h1, (hS.trans hS2).trans h2, h⟩
  rw [List.length_append, hlen, Array.length_toList, size_zeroCells, hz, Nat.zero_add, ← Nat.add_mul]
  congr 1
  omega
/-- more cells behind the known ones, in the same block: it gets a new name -/
theorem alias_ok (hR : Rel P E s w) {b r c : Nat} {l : List AV} {t : Nat} {full : Bool} (hb : hget s b = some (.cells l t full)) (hbase : s.base ≤ b) (hr : E.ρ b = some (r, c))
    {new : List AV} {vals : List Value} (hn : VRL E new vals) (h1 : ∀ v ∈ vals, v.oneCell' = true) (hfit : l.length + vals.length ≤ c) :
    ∃ w', (storeCells ⟨r, l.length, none⟩ vals 0).run P w = .ok () w' ∧ Rel P (E.add s.next r c) (hnew (hset s b none) (.cells (l ++ new) t false)) w' ∧
      Step E s w (E.add s.next r c) (hnew (hset s b none) (.cells (l ++ new) t false)) w' := by
  obtain ⟨cs, vs, rest, hw, hcs, hl, hf, hc⟩ := cells_of hR hb hr
  have hvl := hl.length
  have hsz : cs.size = vs.length + rest.length := by rw [← Array.length_toList, hcs, List.length_append]
  have hrun := run_storeCells_at P r l.length t vals 0 cs w hw (by omega) h1
  have hnew := setRow_heap w r cs (cs.toList.take (l.length + 0) ++ vals ++ cs.toList.drop (l.length + 0 + vals.length)).toArray t (0, 0) hw
  have hlt := (Array.getElem?_eq_some_iff.1 hw).1
  refine ⟨_, hrun, ?_⟩
  have hx := hR.fresh s.next (Nat.le_refl _)
  have ext := Ext.add hx r c
  have alone : ∀ b' o r' c', hget s b' = some o → b' ≠ b → E.ρ b' = some (r', c') → r' ≠ r := fun b' o r' c' hb' hne hr' q => by
    subst q; exact hne (hR.inj b' b o _ _ _ _ hb' hb hr' hr)
  have get : ∀ b', hget (Xq.hnew (hset s b none) (.cells (l ++ new) t false)) b' = if s.next = b' then some (.cells (l ++ new) t false) else if b = b' then none else hget s b' := fun b' => by
    rw [hget_hnew, hget_hset]; rfl
  have hOnew : OR (E.add s.next r c) (.cells (l ++ new) t false) r c (w.setRow r (cs.toList.take (l.length + 0) ++ vals ++ cs.toList.drop (l.length + 0 + vals.length)).toArray) := by
    refine ⟨_, vs ++ vals, rest.drop vals.length, hnew, ?_, (hl.app hn).mono ext, fun q => (by cases q), ?_⟩
    · simp only [Nat.add_zero]
      rw [hcs, hvl, List.take_left, List.drop_append, List.drop_of_length_le (by omega)]
      simp
    · simp only [Nat.add_zero, List.size_toArray, List.length_append, List.length_take, List.length_drop, Array.length_toList]
      omega
  refine ⟨⟨?_, ?_, ?_, ?_, ?_, hR.sy.add _ _ _⟩, ⟨ext, rfl, Nat.le_succ _, fun b hb => Env.add_other E (Nat.ne_of_lt hb) _ _, rfl, rfl, rfl, by simp, ?_, ?_⟩⟩
  · intro b' o hb'
    rw [get] at hb'
    split at hb'
    · rename_i q; subst q; cases hb'
      exact ⟨r, c, Env.add_same _ _ _ _, hOnew⟩
    · split at hb'
      · cases hb'
      · rename_i q1 q2
        obtain ⟨r', c', hr', hO⟩ := hR.heap b' o hb'
        exact ⟨r', c', ext.ρ _ _ hr', (hO.mono ext).world (setRow_other w r r' _ (alone b' o r' c' hb' (fun e => q2 e.symm) hr'))⟩
  · intro b1 b2 o1 o2 r0 c1 c2 g1 g2 e1 e2
    rw [get] at g1 g2
    split at g1
    · rename_i q1
      subst q1
      rw [Env.add_same] at e1; cases e1
      split at g2
      · rename_i q2; exact q2
      · split at g2
        · cases g2
        · rename_i q2 q3
          rw [Env.add_other _ (fun e => q2 e.symm)] at e2
          exact (alone b2 o2 _ _ g2 (fun e => q3 e.symm) e2 rfl).elim
    · split at g1
      · cases g1
      · rename_i q2 q3
        rw [Env.add_other _ (fun e => q2 e.symm)] at e1
        split at g2
        · rename_i q4
          subst q4
          rw [Env.add_same] at e2; cases e2
          exact (alone b1 o1 _ _ g1 (fun e => q3 e.symm) e1 rfl).elim
        · split at g2
          · cases g2
          · rename_i q4 q5
            rw [Env.add_other _ (fun e => q4 e.symm)] at e2
            exact hR.inj b1 b2 o1 o2 _ _ _ g1 g2 e1 e2
  · intro b' hb'
    have hb'' : s.next + 1 ≤ b' := hb'
    rw [Env.add_other _ (by omega)]
    exact hR.fresh b' (by omega)
  · intro g r' c' hg hr'
    have := hR.next
    rw [Env.add_other _ (by omega)] at hr'
    exact hR.glob g r' c' hg hr'
  · have := hR.next; exact Nat.le_succ_of_le this
  · intro r0 hr0 hk
    exact setRow_other w r r0 _ (fun q => hk b _ c hb hbase (q ▸ hr))
  · intro b' o r0 c0 hb' hbase' hr' hlt'
    rw [get] at hb'
    split at hb'
    · rename_i q
      subst q
      rw [Env.add_same] at hr'; cases hr'
      exact ⟨b, _, c, hb, hbase, hr⟩
    · split at hb'
      · cases hb'
      · rename_i q1 q2
        rw [Env.add_other _ (fun e => q1 e.symm)] at hr'
        exact ⟨b', o, c0, hb', hbase', hr'⟩
theorem append_ok (hA : Lawful A Pr) (hR : Rel P E s w) {t t2 ty : Nat} {ts : Array Nat} {x y : AV} {vx vy : Value} (h0 : ts[0]? = some t) (h1 : ts[1]? = some t2) (hx : VR E x vx) (hy : VR E y vy)
    (h : Pr (appendA P A t t2 x y s k)) : Good P E s w ((Builtin.append_ ts ty #[vx, vy]).run P w) fun v s' => Pr (k v s') := by
  unfold appendA at h
  split at h
  · rename_i ht2
    obtain ⟨e2, ht2⟩ := tk_slice ht2
    split at h
    · rename_i e he
      have ht := sliceElem_some he
      split at h
      · rename_i es hes
        split at h
        · rename_i by_ hby
          split at h
          · rename_i z hz
            obtain ⟨zv, hzr, hzl⟩ := zeroCells_some hz E w.drew
            split at h
            · rename_i hok
              have hok' : z.length = es ∧ 1 ≤ es ∧ 1 ≤ by_ := by
                unfold appOk at hok
                split at hok
                · cases hok
                · rename_i q1
                  split at hok
                  · cases hok
                  · rename_i q2
                    rw [lenL_eq] at q1
                    exact ⟨Nat.eq_of_beq_eq_true q1, ble_iff.1 q2, ble_iff.1 hok⟩
              obtain ⟨hzlen, hes0, hby0⟩ := hok'
              have hzs : zv.cells.size = es := by rw [← Array.length_toList, ← hzl.length, hzlen]
              split at h
              · rename_i n hn
                have hlen := lenS_run (P := P) hy hn w
                obtain ⟨new, vals, hv, hvl, hf, h2⟩ := firstA_ok (P := P) hA hR hy h (fun q => by subst q; simpa [lenS] using hn.symm)
                clear h
                unfold appendE at h2
                split at h2
                · cases hx
                  split at h2
                  · rw [append_room_run h0 h1 ht ht2 hes hlen (hf w rfl) (Nat.le_refl _)]
                    exact Good.pure hR (show VR E .nils _ from rfl) h2
                  · rename_i n'
                    split at h2
                    · rename_i hsz
                      have hsz := ble_iff.1 hsz
                      have hof : (Builtin.firstCells es 0 (.slice none 0 0)).run P w.drew = .ok (([] : List Value)).toArray w.drew := run_firstCells_none w.drew es 0 0 0
                      rw [append_grow_run h0 h1 ht ht2 hes hby hlen (hf w.drew rfl) hof hzr (by omega) hby0 (by simpa using hsz)]
                      simp only [Nat.zero_add]
                      exact grow_good hR (Step.refl E s w) (olds := []) hv (by simpa using hvl) hzs hes0 (grownCap_ge _ _ _ _) h2
                    · exact (hA.fail _ h2).elim
                · rename_i b off len cap
                  obtain ⟨r, c, hr, rfl⟩ := hx
                  split at h2
                  · rename_i hroom
                    have hroom := ble_iff.1 hroom
                    obtain ⟨s', E', w', g1, g2, g3, g4⟩ := storeL_ok hA hR hr hv h2
                    rw [append_room_run h0 h1 ht ht2 hes hlen (hf w rfl) hroom]
                    simp only [Addr_add, g1, Result.andThen_ok]
                    exact ⟨.slice b off (len + n) cap, s', E', _, w', rfl, ⟨r, c, g3.ext.ρ _ _ hr, rfl⟩, g2, g3, g4⟩
                  · rename_i hroom
                    have hroom : ¬ (len + n ≤ cap) := fun q => by rw [ble_iff.2 q] at hroom; cases hroom
                    split at h2
                    · rename_i hsz
                      have hsz := ble_iff.1 hsz
                      obtain ⟨old, olds, ho, hol, hof, h3⟩ := firstA_ok (P := P) hA hR (y := .slice b off len cap) (vy := .slice (some ⟨r, off, none⟩) len cap) ⟨r, c, hr, rfl⟩ h2 (fun q => by cases q)
                      rw [append_grow_run h0 h1 ht ht2 hes hby hlen (hf w.drew rfl) (hof w.drew rfl) hzr (by omega) hby0 hsz]
                      rw [appL_eq] at h3
                      exact grow_good hR (Step.refl E s w) (ho.app hv) (by rw [List.length_append, hol, hvl, Nat.add_mul]) hzs hes0 (grownCap_ge _ _ _ _) h3
                    · exact (hA.fail _ h2).elim
                · rename_i b off len es'
                  have hx' := hx
                  obtain ⟨r, c, cap, hr, hcap, hes1, hlc, rfl⟩ := hx
                  split at h2
                  · exact (hA.fail _ h2).elim
                  · rename_i heq
                    have heq := Nat.eq_of_beq_eq_true heq
                    subst heq
                    split at h2
                    · rename_i l t' full hb
                      obtain ⟨cs, vs, rest, hw, hcs, hl, _, hcc⟩ := cells_of hR hb hr
                      have hvsl := hl.length
                      have hle : l.length ≤ c := by rw [← hcc, ← Array.length_toList, hcs, List.length_append]; omega
                      split at h2
                      · rename_i hin
                        rw [lenL_eq] at hin
                        have hin := ble_iff.1 hin
                        have hroom : len + n ≤ cap := by
                          refine Nat.le_of_mul_le_mul_right (c := es) ?_ hes1
                          omega
                        obtain ⟨s', E', w', g1, g2, g3, g4⟩ := storeL_ok hA hR hr hv h2
                        rw [append_room_run h0 h1 ht ht2 hes hlen (hf w rfl) hroom]
                        simp only [Addr_add, g1, Result.andThen_ok]
                        exact ⟨.sliceT b off (len + n) es, s', E', _, w', rfl, ⟨r, c, cap, g3.ext.ρ _ _ hr, hcap, hes1, hroom, rfl⟩, g2, g3, g4⟩
                      · split at h2
                        · exact (hA.fail _ h2).elim
                        · rename_i hbehind
                          rw [lenL_eq] at hbehind
                          have hbehind := Nat.eq_of_beq_eq_true hbehind
                          split at h2
                          · exact (hA.fail _ h2).elim
                          · rename_i hsz
                            have hsz := ble_iff.1 hsz
                            split at h2
                            · exact (hA.fail _ h2).elim
                            · rename_i hoff
                              have hoff := Nat.eq_of_beq_eq_true hoff
                              subst hoff
                              split at h2
                              · exact (hA.fail _ h2).elim
                              · rename_i hte
                                have hte := Nat.eq_of_beq_eq_true hte
                                subst hte
                                split at h2
                                · exact (hA.fail _ h2).elim
                                · rename_i hbase
                                  have hbase := ble_iff.1 hbase
                                  split at h2
                                  · exact (hA.fail _ h2).elim
                                  · rename_i hsc
                                    rw [hsetK_eq, appL_eq] at h2
                                    have hbl : len * es = l.length := by omega
                                    by_cases hroom : len + n ≤ cap
                                    · rw [append_room_run h0 h1 ht ht2 hes hlen (hf w rfl) hroom]
                                      have hfit : l.length + vals.length ≤ c := by
                                        rw [hvl, ← hbl, ← Nat.add_mul, ← hcap, Nat.zero_add]
                                        exact Nat.mul_le_mul_right _ hroom
                                      obtain ⟨w', g1, g2, g3⟩ := alias_ok hR hb hbase hr hv (allScal hv hsc) hfit
                                      have hadd : (0 + len * es) = l.length := by omega
                                      simp only [Addr_add, hadd, g1, Result.andThen_ok]
                                      unfold newA at h2
                                      rw [hnewK_eq] at h2
                                      exact ⟨.sliceT s.next 0 (len + n) es, _, _, _, w', rfl, ⟨r, c, cap, Env.add_same _ _ _ _, hcap, hes1, hroom, rfl⟩, g2, g3, h2⟩
                                    · obtain ⟨olds, g1, g2, g3⟩ := cells_run (P := P) hR hb hr (off := 0) (m := l.length) (by omega)
                                      simp only [List.drop_zero, List.take_length] at g1
                                      rw [append_grow_run h0 h1 ht ht2 hes hby hlen (hf w.drew rfl) (g3 w.drew es len len cap rfl hbl) hzr (by omega) hby0 hsz]
                                      exact grow_good (hR.kill b) (Step.kill b) (g1.app hv) (by rw [List.length_append, g2, hvl, Nat.add_mul, hbl]) hzs hes0 (grownCap_ge _ _ _ _) h2
                    · exact (hA.fail _ h2).elim
                · exact (hA.fail _ h2).elim
              · exact (hA.fail _ h).elim
            · exact (hA.fail _ h).elim
          · exact (hA.fail _ h).elim
        · exact (hA.fail _ h).elim
      · exact (hA.fail _ h).elim
    · exact (hA.fail _ h).elim
  · exact (hA.fail _ h).elim
end
end Go.Proofs.YtlnfollgpbcafaaGreatDoor.Xq
