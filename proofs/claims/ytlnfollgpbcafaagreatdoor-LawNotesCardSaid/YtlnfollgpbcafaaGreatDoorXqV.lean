import Derived.Test.YtlnfollgpbcafaaGreatDoorXqU
set_option autoImplicit false
set_option linter.unusedVariables false
/-! Regions that draw their order: the invariant. -/
namespace Go.Proofs.YtlnfollgpbcafaaGreatDoor.Xq
open Go

section
variable {P : Program} {call : CallT} {ops : Array Oper} {T : Nat → St} {F : Nat → Fr} {C : Nat → List Rec} {I : Nat → Option Info} {S : Nat → Prop}

/-- of the operations that change b, those before m are carried out -/
def Sync (ops : Array Oper) (T : Nat → St) (I : Nat → Option Info) (S : Nat → Prop) (b m : Nat) : Prop := m ≤ ops.size ∧ ∀ k, k < ops.size → Chg T I k b → (S k ↔ k < m)
def SyncT (ops : Array Oper) (S : Nat → Prop) (d m : Nat) : Prop := m ≤ ops.size ∧ ∀ k, k < ops.size → dstOf ops k = some d → (S k ↔ k < m)
def Also (S : Nat → Prop) (i : Nat) : Nat → Prop := fun k => S k ∨ k = i

theorem Tra.sync_eq (t : Tra P call ops T F C I) {b m m' : Nat} (h : Sync ops T I S b m) (h' : Sync ops T I S b m') : hget (T m) b = hget (T m') b := by
  have go : ∀ {m m' : Nat}, m ≤ m' → Sync ops T I S b m → Sync ops T I S b m' → hget (T m) b = hget (T m') b := by
    intro m m' hle h h'
    refine (t.same hle h'.1 fun k h1 h2 hc => ?_).symm
    have g1 := h.2 k (by have := h'.1; omega) hc
    have g2 := h'.2 k (by have := h'.1; omega) hc
    have := g1.1 (g2.2 h2)
    omega
  rcases Nat.le_total m m' with g | g
  · exact go g h h'
  · exact (go g h' h).symm
theorem Tra.syncT_eq (t : Tra P call ops T F C I) {d m m' : Nat} (h : SyncT ops S d m) (h' : SyncT ops S d m') : (F m).get (pathOf d) = (F m').get (pathOf d) := by
  have go : ∀ {m m' : Nat}, m ≤ m' → SyncT ops S d m → SyncT ops S d m' → (F m).get (pathOf d) = (F m').get (pathOf d) := by
    intro m m' hle h h'
    refine (t.slot hle h'.1 fun k h1 h2 hc => ?_).symm
    have g1 := h.2 k (by have := h'.1; omega) hc
    have g2 := h'.2 k (by have := h'.1; omega) hc
    have := g1.1 (g2.2 h2)
    omega
  rcases Nat.le_total m m' with g | g
  · exact go g h h'
  · exact (go g h' h).symm
/-- what an operation sees is as it was in the order of the text -/
theorem Tra.see (t : Tra P call ops T F C I) (hS : Closed ops S) {i : Nat} (hi : i < ops.size) (hni : ¬ S i) (hpre : ∀ m, Dir ops m i → S m) {b : Nat} (hb : b < (T i).next) (hv : Vis I i b) : Sync ops T I S b i := by
  refine ⟨by omega, fun k hk hc => ?_⟩
  rcases Nat.lt_trichotomy k i with g | g | g
  · refine ⟨fun _ => g, fun _ => ?_⟩
    cases ho : ordB ops k i with
    | true => exact ordB_ok ho hS hpre
    | false => exact (t.p1 hi g ho hc hv).elim
  · subst g
    exact ⟨fun q => (hni q).elim, fun q => absurd q (Nat.lt_irrefl _)⟩
  · refine ⟨fun q => ?_, fun q => by omega⟩
    cases ho : ordB ops i k with
    | true => exact (hni (ordB_ok ho hS fun m hm => hS k q m hm)).elim
    | false => exact (t.p2 hk g ho hb hv hc).elim
theorem Tra.seeT (t : Tra P call ops T F C I) (hS : Closed ops S) {i : Nat} (hni : ¬ S i) (hpre : ∀ m, Dir ops m i → S m) {o : Oper} (ho : ops[i]? = some o) {d : Nat} (hd : d ∈ readsOf ops o) : SyncT ops S d i := by
  have hi := (Array.getElem?_eq_some_iff.1 ho).1
  refine ⟨by omega, fun k hk hc => ?_⟩
  obtain ⟨ok, hok⟩ := op_at hk
  rw [dstOf_some hok] at hc
  rcases Nat.lt_trichotomy k i with g | g | g
  · refine ⟨fun _ => g, fun _ => ?_⟩
    cases hq : ordB ops k i with
    | true => exact ordB_ok hq hS hpre
    | false => exact (((tmpsOk_ok t.slots g hok ho hq).1 d hc).1 hd).elim
  · subst g
    exact ⟨fun q => (hni q).elim, fun q => absurd q (Nat.lt_irrefl _)⟩
  · refine ⟨fun q => ?_, fun q => by omega⟩
    cases hq : ordB ops i k with
    | true => exact (hni (ordB_ok hq hS fun m hm => hS k q m hm)).elim
    | false => exact ((tmpsOk_ok t.slots g ho hok hq).2 d hc hd).elim
theorem Tra.chgSync (t : Tra P call ops T F C I) (hS : Closed ops S) {i : Nat} (hi : i < ops.size) (hni : ¬ S i) (hpre : ∀ m, Dir ops m i → S m) {b : Nat} (hc : Chg T I i b) : Sync ops T I (Also S i) b (i + 1) := by
  refine ⟨by omega, fun k hk hck => ?_⟩
  rcases Nat.lt_trichotomy k i with g | g | g
  · refine ⟨fun _ => by omega, fun _ => .inl ?_⟩
    cases ho : ordB ops k i with
    | true => exact ordB_ok ho hS hpre
    | false => exact (t.p3 hi g ho hck hc).elim
  · subst g
    exact ⟨fun q => by omega, fun q => .inr rfl⟩
  · refine ⟨fun q => ?_, fun q => by omega⟩
    rcases q with q | q
    · cases ho : ordB ops i k with
      | true => exact (hni (ordB_ok ho hS fun m hm => hS k q m hm)).elim
      | false => exact (t.p3 hk g ho hc hck).elim
    · omega
theorem Tra.dstSync (t : Tra P call ops T F C I) (hS : Closed ops S) {i : Nat} (hni : ¬ S i) (hpre : ∀ m, Dir ops m i → S m) {o : Oper} (ho : ops[i]? = some o) {d : Nat} (hd : o.dst = some d) : SyncT ops (Also S i) d (i + 1) := by
  have hi := (Array.getElem?_eq_some_iff.1 ho).1
  refine ⟨by omega, fun k hk hc => ?_⟩
  obtain ⟨ok, hok⟩ := op_at hk
  rw [dstOf_some hok] at hc
  rcases Nat.lt_trichotomy k i with g | g | g
  · refine ⟨fun _ => by omega, fun _ => .inl ?_⟩
    cases hq : ordB ops k i with
    | true => exact ordB_ok hq hS hpre
    | false => exact (((tmpsOk_ok t.slots g hok ho hq).1 d hc).2 hd).elim
  · subst g
    exact ⟨fun q => by omega, fun q => .inr rfl⟩
  · refine ⟨fun q => ?_, fun q => by omega⟩
    rcases q with q | q
    · cases hq : ordB ops i k with
      | true => exact (hni (ordB_ok hq hS fun m hm => hS k q m hm)).elim
      | false => exact (((tmpsOk_ok t.slots g ho hok hq).1 d hd).2 hc).elim
    · omega
theorem Sync.also {i b m : Nat} (h : Sync ops T I S b m) (hc : ¬ Chg T I i b) : Sync ops T I (Also S i) b m :=
  ⟨h.1, fun k hk hck => by
    have := h.2 k hk hck
    refine ⟨fun q => ?_, fun q => .inl (this.2 q)⟩
    rcases q with q | q
    · exact this.1 q
    · subst q; exact (hc hck).elim⟩
theorem SyncT.also {i d m : Nat} (h : SyncT ops S d m) (hc : dstOf ops i ≠ some d) : SyncT ops (Also S i) d m :=
  ⟨h.1, fun k hk hck => by
    have := h.2 k hk hck
    refine ⟨fun q => ?_, fun q => .inl (this.2 q)⟩
    rcases q with q | q
    · exact this.1 q
    · subst q; exact (hc hck).elim⟩

/-! ### the invariant -/
structure Inv (P : Program) (ops : Array Oper) (T : Nat → St) (F : Nat → Fr) (I : Nat → Option Info) (n : Nat) (ds : List Deferred) (E0 : Env) (w0 : World) (S : Nat → Prop) (E : Env) (a : Act) (w : World) : Prop where
  ext : Ext E0 E
  old : ∀ b, b < (T 0).next → E.ρ b = E0.ρ b
  dom : ∀ b p, E.ρ b = some p → b < (T 0).next ∨ ∃ k, k < ops.size ∧ S k ∧ (T k).next ≤ b ∧ b < (T (k + 1)).next
  sy : SyOk E (T 0).sy
  heap : ∀ b, ∃ m, Sync ops T I S b m ∧ ∀ o, hget (T m) b = some o → ∃ r c, E.ρ b = some (r, c) ∧ OR E o r c w
  inj : ∀ b b' m m' o o' r c c', Sync ops T I S b m → Sync ops T I S b' m' → hget (T m) b = some o → hget (T m') b' = some o' → E.ρ b = some (r, c) → E.ρ b' = some (r, c') → b = b'
  slots : ∀ d, ∃ m, SyncT ops S d m ∧ ∀ v, (F m).get (pathOf d) = some v → ∃ x, a.tmps[d]? = some x ∧ VR E v x
  size : a.tmps.size = n
  defers : a.defers = ds
  os : w.os = w0.os
  tape : w.tape = w0.tape
  output : w.output = w0.output
  wsize : w0.heap.size ≤ w.heap.size
  keep : ∀ r, r < w0.heap.size → (∀ b o c, hget (T 0) b = some o → (T 0).base ≤ b → E0.ρ b ≠ some (r, c)) → w.heap[r]? = w0.heap[r]?
  own : ∀ b m o r c, Sync ops T I S b m → hget (T m) b = some o → (T 0).base ≤ b → E.ρ b = some (r, c) → r < w0.heap.size → ∃ b0 o0 c0, hget (T 0) b0 = some o0 ∧ (T 0).base ≤ b0 ∧ E0.ρ b0 = some (r, c0)
variable {n : Nat} {ds : List Deferred} {E0 E : Env} {w0 w : World} {a : Act}
theorem Inv.at (h : Inv P ops T F I n ds E0 w0 S E a w) (t : Tra P call ops T F C I) {b m : Nat} {o : AObj} (hs : Sync ops T I S b m) (ho : hget (T m) b = some o) : ∃ r c, E.ρ b = some (r, c) ∧ OR E o r c w := by
  obtain ⟨m', hs', h'⟩ := h.heap b
  exact h' o (by rw [t.sync_eq hs' hs]; exact ho)
theorem Inv.slotAt (h : Inv P ops T F I n ds E0 w0 S E a w) (t : Tra P call ops T F C I) {d m : Nat} {v : AV} (hs : SyncT ops S d m) (hv : (F m).get (pathOf d) = some v) : ∃ x, a.tmps[d]? = some x ∧ VR E v x := by
  obtain ⟨m', hs', h'⟩ := h.slots d
  exact h' v (by rw [t.syncT_eq hs' hs]; exact hv)
theorem Inv.start (t : Tra P call ops T F C I) (hR : Rel P E0 (T 0) w0) (hf : FrRel E0 (F 0) a.tmps) (hn : a.tmps.size = n) (hd : a.defers = ds) : Inv P ops T F I n ds E0 w0 (fun _ => False) E0 a w0 := by
  have s0 : ∀ b, Sync ops T I (fun _ => False) b 0 := fun b => ⟨Nat.zero_le _, fun k _ _ => ⟨fun q => q.elim, fun q => absurd q (Nat.not_lt_zero _)⟩⟩
  refine ⟨Ext.refl _, fun _ _ => rfl, fun b p h => ?_, hR.sy, fun b => ⟨0, s0 b, fun o ho => hR.heap b o ho⟩, ?_, fun d => ⟨0, ⟨Nat.zero_le _, fun k _ _ => ⟨fun q => q.elim, fun q => absurd q (Nat.not_lt_zero _)⟩⟩, fun v hv => hf d v hv⟩, hn, hd, rfl, rfl, rfl, Nat.le_refl _, fun _ _ _ => rfl, ?_⟩
  · left
    exact lt_of_some hR.fresh h
  · intro b b' m m' o o' r c c' h1 h2 g1 g2 e1 e2
    rw [t.sync_eq h1 (s0 b)] at g1
    rw [t.sync_eq h2 (s0 b')] at g2
    exact hR.inj b b' o o' r c c' g1 g2 e1 e2
  · intro b m o r c h1 g1 hb e _
    rw [t.sync_eq h1 (s0 b)] at g1
    exact ⟨b, o, c, g1, hb, e⟩
/-- all is known of the state before i, when those before i have been carried out -/
theorem Inv.scope (h : Inv P ops T F I n ds E0 w0 S E a w) (t : Tra P call ops T F C I) (hR0 : Rel P E0 (T 0) w0) {i : Nat} (hi : i ≤ ops.size) (hS : ∀ k, k < ops.size → (S k ↔ k < i)) : Rel P E (T i) w ∧ FrRel E (F i) a.tmps := by
  have sy : ∀ b, Sync ops T I S b i := fun b => ⟨hi, fun k hk _ => hS k hk⟩
  have m0 := t.mono (Nat.zero_le i) hi
  refine ⟨⟨fun b o ho => h.at t (sy b) ho, fun b b' o o' r c c' h1 h2 e1 e2 => h.inj b b' i i o o' r c c' (sy b) (sy b') h1 h2 e1 e2, ?_, ?_, Nat.le_trans hR0.next m0, ?_⟩, fun d v hv => h.slotAt t ⟨hi, fun k hk _ => hS k hk⟩ hv⟩
  · intro b hb
    cases hq : E.ρ b with
    | none => rfl
    | some p =>
      rcases h.dom b p hq with g | ⟨k, hk, hSk, g1, g2⟩
      · omega
      · have := (hS k hk).1 hSk
        have := t.mono (j := k + 1) (i := i) (by omega) hi
        omega
  · intro g r c hg hr
    rw [h.old g (by have := hR0.next; omega)] at hr
    exact hR0.glob g r c hg hr
  · rw [(t.base hi).2]; exact h.sy
/-- what an operation sees, in any order -/
theorem Inv.view (h : Inv P ops T F I n ds E0 w0 S E a w) (t : Tra P call ops T F C I) (hR0 : Rel P E0 (T 0) w0) (hS : Closed ops S) {i : Nat} (hni : ¬ S i) (hpre : ∀ m, Dir ops m i → S m) {o : Oper} (ho : ops[i]? = some o)
    {f : Info} (hI : I i = some f) {G : Env} {wg : World} {ag : Act} (hG : Rel P G (T i) wg) (hF : FrRel G (F i) ag.tmps) :
    Rel P (E.cut (T i).next) f.view w ∧ (∀ x ∈ o.op.operands.toList, VR (E.cut (T i).next) (evalO P f.view (F i) x) (a.eval x)) ∧
    ∀ b o', hget f.view b = some o' → b < (T i).next ∧ Sync ops T I S b i ∧ hget (T i) b = some o' := by
  have hi := (Array.getElem?_eq_some_iff.1 ho).1
  have R := (t.run ho hI).1
  have vis : ∀ b o', hget f.view b = some o' → b < (T i).next ∧ Sync ops T I S b i ∧ hget (T i) b = some o' := fun b o' hb => by
    have hb' := R.viewIn b o' hb
    obtain ⟨r, c, e, _⟩ := hG.heap b o' hb'
    have hlt := lt_of_some hG.fresh e
    exact ⟨hlt, t.see hS hi hni hpre hlt ⟨f, hI, by rw [hb]; simp⟩, hb'⟩
  have m0 := t.mono (Nat.zero_le i) (by omega)
  have hRel : Rel P (E.cut (T i).next) f.view w := by
    refine ⟨fun b o' hb => ?_, fun b b' o1 o2 r c c' h1 h2 e1 e2 => ?_, fun b hb => ?_, fun g r c hg hr => ?_, ?_, ?_⟩
    · obtain ⟨hlt, hs, hb'⟩ := vis b o' hb
      obtain ⟨r, c, e, hO⟩ := h.at t hs hb'
      obtain ⟨r', c', e', hO'⟩ := hG.heap b o' hb'
      exact ⟨r, c, by rw [Env.cut_lt hlt]; exact e, hO.cut hG.fresh hO'⟩
    · obtain ⟨_, hs1, g1⟩ := vis b o1 h1
      obtain ⟨_, hs2, g2⟩ := vis b' o2 h2
      exact h.inj b b' i i o1 o2 r c c' hs1 hs2 g1 g2 (Env.cut_ρ e1).2 (Env.cut_ρ e2).2
    · rw [R.viewNext] at hb
      simp only [Env.cut]
      rw [if_neg (by omega)]
    · have hr := (Env.cut_ρ hr).2
      rw [h.old g (by have := hR0.next; omega)] at hr
      exact hR0.glob g r c hg hr
    · rw [R.viewNext]; exact Nat.le_trans hR0.next m0
    · rw [R.viewSy, (t.base (by omega)).2]
      exact ⟨h.sy.fresh, h.sy.ints, fun m hm => by
        obtain ⟨p, q, h1, h2, h3⟩ := h.sy.memo m hm
        refine ⟨p, q, ?_, ?_, h3⟩
        · cases hx : m.x <;> rw [hx] at h1 <;> exact h1
        · cases hx : m.y <;> rw [hx] at h2 <;> exact h2, h.sy.known, h.sy.excl⟩
  refine ⟨hRel, fun x hx => ?_, vis⟩
  have other : ∀ y : Operand, (∀ d, y ≠ .tmp d) → VR (E.cut (T i).next) (evalO P f.view (F i) y) (a.eval y) := by
    intro y hy
    have e : evalO P f.view (F i) y = evalO P f.view .leaf y := by cases y <;> first | rfl | exact absurd rfl (hy _)
    rw [e]
    exact evalO_ok hRel (fun d v hv => by rw [get_leaf] at hv; cases hv) y
  cases x with
  | tmp d =>
    show VR _ (orec .any (fun v => v) ((F i).get (pathOf d))) (a.tmps.getD d undef)
    cases hv : (F i).get (pathOf d) with
    | none => show VR (E.cut (T i).next) .any _; trivial
    | some v =>
      have hrd : d ∈ readsOf ops o := by
        unfold readsOf
        rw [appL_eq, List.mem_append]
        left
        have : ∀ l : List Operand, Operand.tmp d ∈ l → d ∈ tmpsOf l := by
          intro l
          induction l with
          | nil => intro q; cases q
          | cons y l ih =>
            intro q
            rcases List.mem_cons.1 q with q | q
            · subst q; exact List.mem_cons_self ..
            · have := ih q
              cases y <;> first | exact List.mem_cons_of_mem _ this | exact this
        exact this _ hx
      obtain ⟨y, hy, hvy⟩ := h.slotAt t (t.seeT hS hni hpre ho hrd) hv
      obtain ⟨y', _, hvy'⟩ := hF d v hv
      have : a.tmps.getD d undef = y := by simp [Array.getD_eq_getD_getElem?, hy]
      rw [this]
      exact hvy.cut hG.fresh hvy'
  | const v => exact other _ (fun d q => by cases q)
  | global g => exact other _ (fun d q => by cases q)
  | func g => exact other _ (fun d q => by cases q)

/-- the names after an operation -/
def Env.join (E E' : Env) (lo hi : Nat) : Env := { ρ := fun b => if lo ≤ b ∧ b < hi then E'.ρ b else E.ρ b, σ := E'.σ, ς := E.ς }
theorem Inv.run (h : Inv P ops T F I n ds E0 w0 S E a w) (t : Tra P call ops T F C I) (hR0 : Rel P E0 (T 0) w0) (hS : Closed ops S) {i : Nat} (hni : ¬ S i) (hpre : ∀ m, Dir ops m i → S m) {o : Oper} (ho : ops[i]? = some o)
    {f : Info} (hI : I i = some f) (hd : dstsOk n ops = true) (vis : ∀ b o', hget f.view b = some o' → b < (T i).next ∧ Sync ops T I S b i ∧ hget (T i) b = some o')
    {E' : Env} {x : Value} {w' : World} (hv : VR E' f.v x) (hR' : Rel P E' f.out w') (hSt : Step (E.cut (T i).next) f.view w E' f.out w') :
    Inv P ops T F I n ds E0 w0 (Also S i) (E.join E' (T i).next (T (i + 1)).next) (a.put o.dst x) w' := by
  have hi := (Array.getElem?_eq_some_iff.1 ho).1
  have R := (t.run ho hI).1
  have m0 := t.mono (Nat.zero_le i) (by omega)
  have m1 := t.mono1 hi
  have eout := t.next_out hi hI
  have ext1 : Ext E (E.join E' (T i).next (T (i + 1)).next) := by
    refine ⟨fun b p e => ?_, fun j m e => hSt.ext.σ j m e, rfl⟩
    show (if _ then _ else _) = _
    rw [if_neg]
    · exact e
    · rintro ⟨g1, g2⟩
      rcases h.dom b p e with g | ⟨k, hk, hSk, g3, g4⟩
      · omega
      · rcases Nat.lt_trichotomy k i with q | q | q
        · have := t.mono (j := k + 1) (i := i) (by omega) (by omega); omega
        · subst q; exact hni hSk
        · have := t.mono (j := i + 1) (i := k) (by omega) (by omega); omega
  have ext2 : Ext E' (E.join E' (T i).next (T (i + 1)).next) := by
    refine ⟨fun b p e => ?_, fun _ _ e => e, ?_⟩
    · show (if _ then _ else _) = _
      have hlt := lt_of_some hR'.fresh e
      by_cases g : (T i).next ≤ b
      · rw [if_pos ⟨g, by rw [eout]; exact hlt⟩]; exact e
      · rw [if_neg (fun q => g q.1)]
        rw [hSt.old b (by rw [R.viewNext]; omega)] at e
        exact (Env.cut_ρ e).2
    · exact hSt.ext.ς.symm
  -- what an operation owns it changes
  have ownChg : ∀ b0 o0, hget f.view b0 = some o0 → f.view.base ≤ b0 → Chg T I i b0 ∧ (T 0).base ≤ b0 := fun b0 o0 hb0 hbase => by
    have hw := R.owned b0 (by rw [hb0]; simp) hbase (vis b0 o0 hb0).1
    exact ⟨⟨f, hI, .inl hw⟩, by rw [← (t.base (i := i) (by omega)).1]; exact R.wrBase b0 hw⟩
  have chgBase : ∀ b, Chg T I i b → f.out.base ≤ b := by
    rintro b ⟨f', hf', hc⟩
    rw [hI] at hf'; cases hf'
    rw [hSt.base]
    rcases hc with hc | hc
    · rcases R.viewBase with q | ⟨q, qw⟩
      · rw [q]; exact R.wrBase b hc
      · rw [qw] at hc; cases hc
    · exact Nat.le_trans R.baseLe hc.1
  have keepBlock : ∀ b m o' r c, Sync ops T I S b m → hget (T m) b = some o' → ¬ Chg T I i b → E.ρ b = some (r, c) → r < w.heap.size → w'.heap[r]? = w.heap[r]? := by
    intro b m o' r c hs hb hc e hlt
    refine hSt.keep r hlt fun b0 o0 c0 hb0 hbase e0 => ?_
    obtain ⟨_, hs0, g0⟩ := vis b0 o0 hb0
    have := h.inj b0 b i m o0 o' r c0 c hs0 hs g0 hb (Env.cut_ρ e0).2 e
    subst this
    exact hc (ownChg b0 o0 hb0 hbase).1
  -- a block that is alive afterwards
  have live : ∀ b m o', Sync ops T I (Also S i) b m → hget (T m) b = some o' →
      (Chg T I i b ∧ hget f.out b = some o') ∨ (¬ Chg T I i b ∧ ∃ m', Sync ops T I S b m' ∧ hget (T m') b = some o') := by
    intro b m o' hs hb
    by_cases hc : Chg T I i b
    · left
      refine ⟨hc, ?_⟩
      rw [← t.chg_out hi hI hc, t.sync_eq (t.chgSync hS hi hni hpre hc) hs]
      exact hb
    · right
      obtain ⟨m', hs', _⟩ := h.heap b
      exact ⟨hc, m', hs', by rw [t.sync_eq (hs'.also hc) hs]; exact hb⟩
  refine ⟨h.ext.trans ext1, fun b hb => ?_, fun b p e => ?_, ?_, fun b => ?_, ?_, fun d => ?_, by rw [put_size]; exact h.size, by rw [put_defers]; exact h.defers, hSt.os.trans h.os, hSt.tape.trans h.tape, hSt.output.trans h.output,
    Nat.le_trans h.wsize hSt.size, fun r hr hk => ?_, ?_⟩
  · show (if _ then _ else _) = _
    rw [if_neg (by omega)]
    exact h.old b hb
  · have e : (if (T i).next ≤ b ∧ b < (T (i + 1)).next then E'.ρ b else E.ρ b) = some p := e
    split at e
    · rename_i g
      exact .inr ⟨i, hi, .inr rfl, g.1, g.2⟩
    · rcases h.dom b p e with g | ⟨k, hk, hSk, g⟩
      · exact .inl g
      · exact .inr ⟨k, hk, .inl hSk, g⟩
  · refine ⟨fun j hj => ?_, fun j lo hi' hj => ?_, fun m hm => ?_, fun j l m' hj => ?_, fun j ls hj => ?_⟩
    · refine hR'.sy.fresh j ?_
      rw [R.nint, (t.base (i := i) (by omega)).2]; exact hj
    · obtain ⟨m, e, g⟩ := h.sy.ints j lo hi' hj
      exact ⟨m, ext1.σ _ _ e, g⟩
    · obtain ⟨p, q, h1, h2, h3, h4⟩ := h.sy.memo m hm
      refine ⟨p, q, ?_, ?_, ext1.σ _ _ h3, h4⟩
      · cases hx : m.x <;> rw [hx] at h1
        · exact h1
        · exact ext1.σ _ _ h1
      · cases hx : m.y <;> rw [hx] at h2
        · exact h2
        · exact ext1.σ _ _ h2
    · exact h.sy.known j l m' hj
    · exact h.sy.excl j ls hj
  · by_cases hc : Chg T I i b
    · refine ⟨i + 1, t.chgSync hS hi hni hpre hc, fun o' ho' => ?_⟩
      rw [t.chg_out hi hI hc] at ho'
      obtain ⟨r, c, e, hO⟩ := hR'.heap b o' ho'
      exact ⟨r, c, ext2.ρ _ _ e, hO.mono ext2⟩
    · obtain ⟨m, hs, hm⟩ := h.heap b
      refine ⟨m, hs.also hc, fun o' ho' => ?_⟩
      obtain ⟨r, c, e, hO⟩ := hm o' ho'
      exact ⟨r, c, ext1.ρ _ _ e, (hO.mono ext1).world (keepBlock b m o' r c hs ho' hc e hO.lt)⟩
  · intro b b' m m' o1 o2 r c c' hs1 hs2 g1 g2 e1 e2
    have mixed : ∀ {b b' : Nat} {o1 o2 : AObj} {m' : Nat} {c c' : Nat}, Chg T I i b → hget f.out b = some o1 → ¬ Chg T I i b' → Sync ops T I S b' m' → hget (T m') b' = some o2 →
        (E.join E' (T i).next (T (i + 1)).next).ρ b = some (r, c) → (E.join E' (T i).next (T (i + 1)).next).ρ b' = some (r, c') → False := by
      intro b b' o1 o2 m' c c' k1 k2 k3 k4 k5 e1 e2
      obtain ⟨r1, c1, q1, _⟩ := hR'.heap b o1 k2
      have := ext2.ρ _ _ q1
      rw [e1] at this; cases this
      obtain ⟨r2, c2, q2, hO2⟩ := h.at t k4 k5
      have := ext1.ρ _ _ q2
      rw [e2] at this; cases this
      obtain ⟨b0, o0, c0, y1, y2, y3⟩ := hSt.dom b o1 r c k2 (chgBase b k1) q1 hO2.lt
      obtain ⟨_, hs0, g0⟩ := vis b0 o0 y1
      have := h.inj b0 b' i m' o0 o2 r c0 c' hs0 k4 g0 k5 (Env.cut_ρ y3).2 q2
      subst this
      exact k3 (ownChg b0 o0 y1 y2).1
    rcases live b m o1 hs1 g1 with ⟨k1, k2⟩ | ⟨k1, m1', k2, k3⟩
    · rcases live b' m' o2 hs2 g2 with ⟨l1, l2⟩ | ⟨l1, m2', l2, l3⟩
      · obtain ⟨r1, c1, q1, _⟩ := hR'.heap b o1 k2
        have := ext2.ρ _ _ q1
        rw [e1] at this; cases this
        obtain ⟨r2, c2, q2, _⟩ := hR'.heap b' o2 l2
        have := ext2.ρ _ _ q2
        rw [e2] at this; cases this
        exact hR'.inj b b' o1 o2 r c c' k2 l2 q1 q2
      · exact (mixed k1 k2 l1 l2 l3 e1 e2).elim
    · rcases live b' m' o2 hs2 g2 with ⟨l1, l2⟩ | ⟨l1, m2', l2, l3⟩
      · exact (mixed l1 l2 k1 k2 k3 e2 e1).elim
      · obtain ⟨r1, c1, q1, _⟩ := h.at t k2 k3
        have := ext1.ρ _ _ q1
        rw [e1] at this; cases this
        obtain ⟨r2, c2, q2, _⟩ := h.at t l2 l3
        have := ext1.ρ _ _ q2
        rw [e2] at this; cases this
        exact h.inj b b' m1' m2' o1 o2 r c c' k2 l2 k3 l3 q1 q2
  · by_cases hc : dstOf ops i = some d
    · rw [dstOf_some ho] at hc
      refine ⟨i + 1, t.dstSync hS hni hpre ho hc, fun v hv' => ?_⟩
      rw [(t.run ho hI).2.1, hc] at hv'
      have hv' : (Tr.set (some f.v) (pathOf d) (F i)).get (pathOf d) = some v := hv'
      rw [Tr.get_set_of, if_pos rfl] at hv'
      cases hv'
      have hlt : d < a.tmps.size := by rw [h.size]; exact dstsOk_get hd ho hc
      exact ⟨x, by rw [hc]; simp [Act.put, hlt], hv.mono ext2⟩
    · obtain ⟨m, hs, hm⟩ := h.slots d
      refine ⟨m, hs.also hc, fun v hv' => ?_⟩
      obtain ⟨y, hy, hvy⟩ := hm v hv'
      rw [dstOf_some ho] at hc
      refine ⟨y, ?_, hvy.mono ext1⟩
      cases hq : o.dst with
      | none => exact hy
      | some e =>
        simp only [Act.put]
        rw [Array.getElem?_setIfInBounds_ne (fun q => hc (by rw [hq, q]))]
        exact hy
  · rw [hSt.keep r (Nat.lt_of_lt_of_le hr h.wsize) fun b0 o0 c0 hb0 hbase e0 => ?_]
    · exact h.keep r hr hk
    · obtain ⟨_, hs0, g0⟩ := vis b0 o0 hb0
      obtain ⟨b1, o1, c1, y1, y2, y3⟩ := h.own b0 i o0 r c0 hs0 g0 (ownChg b0 o0 hb0 hbase).2 (Env.cut_ρ e0).2 hr
      exact hk b1 o1 c1 y1 y2 y3
  · intro b m o' r c hs hb hbase e hr
    rcases live b m o' hs hb with ⟨k1, k2⟩ | ⟨k1, m', k2, k3⟩
    · obtain ⟨r1, c1, q1, _⟩ := hR'.heap b o' k2
      have := ext2.ρ _ _ q1
      rw [e] at this; cases this
      obtain ⟨b0, o0, c0, y1, y2, y3⟩ := hSt.dom b o' r c k2 (chgBase b k1) q1 (Nat.lt_of_lt_of_le hr h.wsize)
      obtain ⟨_, hs0, g0⟩ := vis b0 o0 y1
      exact h.own b0 i o0 r c0 hs0 g0 (ownChg b0 o0 y1 y2).2 (Env.cut_ρ y3).2 hr
    · obtain ⟨r1, c1, q1, _⟩ := h.at t k2 k3
      have := ext1.ρ _ _ q1
      rw [e] at this; cases this
      exact h.own b m' o' r c k2 k3 hbase q1 hr
/-- an operation that isn't carried out -/
theorem Inv.pass (h : Inv P ops T F I n ds E0 w0 S E a w) (t : Tra P call ops T F C I) (hS : Closed ops S) {i : Nat} (hni : ¬ S i) (hpre : ∀ m, Dir ops m i → S m) {o : Oper} (ho : ops[i]? = some o) (hI : I i = none) (hd : dstsOk n ops = true) :
    Inv P ops T F I n ds E0 w0 (Also S i) E (a.put o.dst undef) w := by
  have hc : ∀ b, ¬ Chg T I i b := by
    rintro b ⟨f, hf, _⟩
    rw [hI] at hf; cases hf
  have back : ∀ {b m : Nat} {o' : AObj}, Sync ops T I (Also S i) b m → hget (T m) b = some o' → ∃ m', Sync ops T I S b m' ∧ hget (T m') b = some o' := by
    intro b m o' hs hb
    obtain ⟨m', hs', _⟩ := h.heap b
    exact ⟨m', hs', by rw [t.sync_eq (hs'.also (hc b)) hs]; exact hb⟩
  refine ⟨h.ext, h.old, fun b p e => ?_, h.sy, fun b => ?_, ?_, fun d => ?_, by rw [put_size]; exact h.size, by rw [put_defers]; exact h.defers, h.os, h.tape, h.output, h.wsize, h.keep, ?_⟩
  · rcases h.dom b p e with g | ⟨k, hk, hSk, g⟩
    · exact .inl g
    · exact .inr ⟨k, hk, .inl hSk, g⟩
  · obtain ⟨m, hs, hm⟩ := h.heap b
    exact ⟨m, hs.also (hc b), hm⟩
  · intro b b' m m' o1 o2 r c c' h1 h2 g1 g2 e1 e2
    obtain ⟨m1, k1, k2⟩ := back h1 g1
    obtain ⟨m2, l1, l2⟩ := back h2 g2
    exact h.inj b b' m1 m2 o1 o2 r c c' k1 l1 k2 l2 e1 e2
  · by_cases hq : dstOf ops i = some d
    · rw [dstOf_some ho] at hq
      refine ⟨i + 1, t.dstSync hS hni hpre ho hq, fun v hv' => ?_⟩
      rw [(t.skip ho hI).2.2.1, hq] at hv'
      have hv' : (Tr.set (some undefA) (pathOf d) (F i)).get (pathOf d) = some v := hv'
      rw [Tr.get_set_of, if_pos rfl] at hv'
      cases hv'
      have hlt : d < a.tmps.size := by rw [h.size]; exact dstsOk_get hd ho hq
      exact ⟨undef, by rw [hq]; simp [Act.put, hlt], VR.undef _⟩
    · obtain ⟨m, hs, hm⟩ := h.slots d
      refine ⟨m, hs.also hq, fun v hv' => ?_⟩
      obtain ⟨y, hy, hvy⟩ := hm v hv'
      rw [dstOf_some ho] at hq
      refine ⟨y, ?_, hvy⟩
      cases hqq : o.dst with
      | none => exact hy
      | some e =>
        simp only [Act.put]
        rw [Array.getElem?_setIfInBounds_ne (fun q => hq (by rw [hqq, q]))]
        exact hy
  · intro b m o' r c hs hb hbase e hr
    obtain ⟨m1, k1, k2⟩ := back hs hb
    exact h.own b m1 o' r c k1 k2 hbase e hr
end
end Go.Proofs.YtlnfollgpbcafaaGreatDoor.Xq
