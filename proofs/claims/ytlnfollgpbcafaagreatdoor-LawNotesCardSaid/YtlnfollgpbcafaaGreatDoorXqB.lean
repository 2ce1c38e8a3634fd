import Derived.Test.YtlnfollgpbcafaaGreatDoorXqA
set_option autoImplicit false
set_option linter.unusedVariables false
/-! The executor: regions that draw their order, code, calls. No proof here. -/
namespace Go.Proofs.YtlnfollgpbcafaaGreatDoor.Xq
open Go

inductive Res where | ok (v : AV) (s : St) | need (q : Q) | fail (m : String)
def ansRes : Ans Res := ⟨.fail, fun q _ _ => .need q⟩
inductive DRes where | ok (s : St) (fr : Fr) | need (q : Q) | fail (m : String)
/-- what an operation of a region that draws has done -/
structure Rec where
  i : Nat
  lo : Nat
  hi : Nat              -- blocks made: from lo on and before hi
  wr : List Nat         -- older blocks written
  call : Bool           -- a call: it may look at all older blocks
  tch : List Nat        -- no call: the blocks it looks at

/-! ### the order -/
noncomputable def edgeBits (acc : List Nat) (es : List Edge) : Nat :=
  lrec 0 (fun e _ ih => match Region.binds .any e with
    | true => Nat.lor ih (Nat.lor (2 ^ e.on) (match nth acc e.on with | some b => b | none => 0))
    | false => ih) es
noncomputable def befGo (l : List Oper) : List Nat → List Nat := lrec (fun acc => acc) (fun o _ ih acc => ih (appL acc [edgeBits acc o.after.toList])) l
noncomputable def bef (ops : Array Oper) : List Nat := befGo ops.toList []
def bitB (n j : Nat) : Bool := Nat.beq (Nat.mod (Nat.div n (2 ^ j)) 2) 1
/-- j < i: must j come before i? -/
noncomputable def ordB (ops : Array Oper) (j i : Nat) : Bool := match nth (bef ops) i with | some b => bitB b j | none => false
def memN (x : Nat) (l : List Nat) : Bool := match l with | [] => false | y :: l => match Nat.beq x y with | true => true | false => memN x l
noncomputable def memL (x : Nat) (l : List Nat) : Bool := lrec false (fun y _ ih => match Nat.beq x y with | true => true | false => ih) l
noncomputable def tmpsOf (l : List Operand) : List Nat := lrec [] (fun x _ ih => match x with | .tmp t => t :: ih | _ => ih) l
noncomputable def globsOf (l : List Operand) : List Nat := lrec [] (fun x _ ih => match x with | .global t => t :: ih | _ => ih) l
/-- the slots that an operation reads -/
noncomputable def readsOf (ops : Array Oper) (o : Oper) : List Nat :=
  appL (tmpsOf o.op.operands.toList) (match o.guard with
    | none => []
    | some (j, _) => match ops[j]? with | some g => (match g.dst with | some d => [d] | none => []) | none => [])
noncomputable def apartO (ops : Array Oper) (x y : Oper) : Bool :=
  match (match x.dst with | none => true | some d => match memL d (readsOf ops y) with | true => false | false => match y.dst with | some e => bnot (Nat.beq d e) | none => true) with
  | false => false
  | true => match y.dst with | none => true | some d => bnot (memL d (readsOf ops x))
/-- operations that read or write one slot are ordered -/
noncomputable def tmpsOk (ops : Array Oper) : Bool :=
  lrec (fun _ _ => true) (fun o _ ih (done : List (Nat × Oper)) i => match lrec true (fun (jx : Nat × Oper) _ ih => match ordB ops jx.1 i with
      | true => ih
      | false => match apartO ops jx.2 o with | true => ih | false => false) done with
    | false => false
    | true => ih ((i, o) :: done) (i + 1)) ops.toList ([] : List (Nat × Oper)) 0

/-! ### what an operation touches -/
section
variable (P : Program)
def blkOf : AV → List Nat
  | .ptr b _ => [b]
  | .ptrI b _ _ _ => [b]
  | .slice b _ _ _ => [b]
  | .sliceT b _ _ _ => [b]
  | .map b => [b]
  | _ => []
/-- the blocks that an operation only looks at; those that it may write -/
noncomputable def touchOf (s : St) (fr : Fr) (op : Op) : List Nat × List Nat :=
  match op with
  | .load _ a => (blkOf (evalO P s fr a), [])
  | .store _ a _ => ([], blkOf (evalO P s fr a))
  | .insert _ m _ _ => ([], blkOf (evalO P s fr m))
  | .mapUpdate _ m _ _ => ([], blkOf (evalO P s fr m))
  | .lookup _ m _ _ => (blkOf (evalO P s fr m), [])
  | .call c => match c.callee with
    | .builtin .append => match c.args.toList with
      | [x, y] => ([], appL (blkOf (evalO P s fr x)) (blkOf (evalO P s fr y)))
      | _ => ([], [])
    | .builtin .len => match c.args.toList with
      | [x] => (match evalO P s fr x with | .map b => [b] | _ => [], [])
      | _ => ([], [])
    | _ => ([], [])
  | _ => ([], [])
def isCall : Op → Bool
  | .call c => match c.callee with | .value _ => true | _ => false
  | _ => false
noncomputable def disjL (l m : List Nat) : Bool := allL (fun x => bnot (memL x m)) l
noncomputable def outOf (lo hi : Nat) (l : List Nat) : Bool := allL (fun x => match Nat.ble lo x with | false => true | true => Nat.ble hi x) l
/-- may the operation i, which looks at tch and writes wr, stand in any order to those done, unless it is ordered behind them? -/
noncomputable def pairsOk (ops : Array Oper) (recs : List Rec) (i : Nat) (call : Bool) (tch wr : List Nat) : Bool :=
  allL (fun r => match ordB ops r.i i with
    | true => true
    | false => match (match call with | true => true | false => match disjL tch r.wr with | true => outOf r.lo r.hi tch | false => false) with
      | false => false
      | true => match r.call with
        | true => allL (fun x => Nat.ble r.hi x) wr
        | false => disjL wr r.tch) recs
noncomputable def rangeL (lo hi : Nat) : List Nat := nrec (fun _ => []) (fun _ ih b => b :: ih (b + 1)) (hi - lo) lo
/-- what a call may not see: what is written or made by operations that it isn't ordered behind -/
noncomputable def hiddenOf (ops : Array Oper) (recs : List Rec) (i : Nat) : List Nat :=
  lrec [] (fun r _ ih => match ordB ops r.i i with | true => ih | false => appL r.wr (appL (rangeL r.lo r.hi) ih)) recs
/-- what may be written was made before, and whatever else is looked at lies below the base; the view's base -/
noncomputable def wrOk (n m : Nat) (tch wr : List Nat) : Bool := match wr with
  | [] => true
  | _ => match Nat.ble m n with
    | false => false
    | true => match allL (fun x => match Nat.ble (x + 1) n with | true => Nat.ble m x | false => false) wr with
      | false => false
      | true => allL (fun x => match Nat.ble m x with | false => true | true => memL x wr) tch
noncomputable def aboveL (m : Nat) (l : List Nat) : List Nat := lrec [] (fun x _ ih => match Nat.ble m x with | true => x :: ih | false => ih) l
noncomputable def baseOf (n m : Nat) (wr : List Nat) : Nat := match wr with | [] => n | _ => m
/-- an operation waits only for operations ahead of it -/
noncomputable def backOk (ops : Array Oper) : Bool :=
  lrec (fun _ => true) (fun o _ ih (i : Nat) => match allL (fun (e : Edge) => match Region.binds .any e with | true => Nat.ble (e.on + 1) i | false => true) o.after.toList with
    | true => ih (i + 1)
    | false => false) ops.toList 0
noncomputable def copyT (src : Tr AObj) (l : List Nat) (dst : Tr AObj) : Tr AObj := lrec dst (fun b _ ih => ih.set (src.get (pathOf b)) (pathOf b)) l
noncomputable def hideT (l : List Nat) (t : Tr AObj) : Tr AObj := lrec t (fun b _ ih => ih.set none (pathOf b)) l

noncomputable def needAI (s : St) : AI → Option Q
  | .lit _ => none
  | .at i => match ivOf s i with
    | some (lo, hi) => (match ilt lo hi with | true => some (.int i lo) | false => none)
    | none => none
/-- an atom made in a region that draws: the atoms that it is made of must be known first -/
noncomputable def needOf (s s2 : St) : DRes := match s2.sy.memo with
  | m :: _ => match needAI s m.x with
    | some q => .need q
    | none => match needAI s m.y with
      | some q => .need q
      | none => .fail "atoms in a region that draws"
  | [] => .fail "atoms in a region that draws"

variable (call : CallT)
noncomputable def drawOne (ops : Array Oper) (o : Oper) (ih : Nat → List Rec → St → Fr → DRes) (i : Nat) (recs : List Rec) (s : St) (fr : Fr) : DRes :=
  match orec (some true) (fun g => wantedA ops fr g) o.guard with
      | none => .fail "guard"
      | some false => ih (i + 1) recs s (putF fr o.dst undefA)
      | some true => match isCall o.op with
        | true => match pairsOk ops recs i true [] [] with
          | false => .fail "order of a call"
          | true => match (match s with | ⟨h, n, _, y⟩ => stepOp o.op P call Res ansRes fr ⟨hideT (hiddenOf ops recs i) h, n, n, y⟩ (fun v s => .ok v s)) with
            | .ok v s2 => match (match Nat.beq s2.sy.nint s.sy.nint with | true => Nat.ble s.next s2.next | false => false) with
              | true => (match s, s2 with | ⟨h, n, m, y⟩, ⟨h2, n2, _, _⟩ => ih (i + 1) (⟨i, n, n2, [], true, []⟩ :: recs) ⟨copyT h2 (rangeL n n2) h, n2, m, y⟩ (putF fr o.dst v))
              | false => needOf s s2
            | .need q => .need q
            | .fail m => .fail m
        | false =>
          let t := touchOf P s fr o.op
          let wr := aboveL s.base t.2
          let tch := appL t.2 (appL t.1 (globsOf o.op.operands.toList))
          match pairsOk ops recs i false (appL wr tch) wr with
          | false => .fail "order"
          | true => match wrOk s.next s.base (appL wr tch) wr with
            | false => .fail "writes"
            | true => match (match s with | ⟨h, n, m, y⟩ => stepOp o.op P call Res ansRes fr ⟨copyT h (appL wr tch) .leaf, n, baseOf n m wr, y⟩ (fun v s => .ok v s)) with
            | .ok v s2 => match (match Nat.beq s2.sy.nint s.sy.nint with | true => Nat.ble s.next s2.next | false => false) with
              | true => (match s, s2 with | ⟨h, n, m, y⟩, ⟨h2, n2, _, _⟩ => ih (i + 1) (⟨i, n, n2, wr, false, appL wr tch⟩ :: recs) ⟨copyT h2 (appL wr (rangeL n n2)) h, n2, m, y⟩ (putF fr o.dst v))
              | false => needOf s s2
            | .need q => .need q
            | .fail m => .fail m
noncomputable def drawFrom (ops : Array Oper) : List Oper → Nat → List Rec → St → Fr → DRes :=
  lrec (fun _ _ s fr => .ok s fr) (fun o _ ih i recs s fr => drawOne P call ops o ih i recs s fr)
noncomputable def drawGo (ops : Array Oper) : Nat → List Rec → St → Fr → DRes := drawFrom P call ops ops.toList

variable {R : Type} (A : Ans R)
noncomputable def drawAgain (ops : Array Oper) (k : KX R) (again : St → Fr → R) : St → Fr → R := fun s fr =>
  match drawGo P call ops 0 [] s fr with
  | .ok s fr => k .normal s fr
  | .fail m => A.fail m
  | .need (.int i m) => match ivOf s i with
    | some (lo, hi) => match ilt m lo with
      | true => A.fail "case"
      | false => match ilt m hi with
        | false => A.fail "case"
        | true => A.fork (.int i m) (again (ivSet s i lo m) fr) (again (ivSet s i (m + 1) hi) fr)
    | none => A.fail "atom"
  | .need (.str i l n) => match s.sy.strs.get (pathOf i) with
    | some (.excl ls) => A.fork (.str i l n) (again (sfSet s i (.known l n)) fr) (again (sfSet s i (.excl ((l, n) :: ls))) fr)
    | _ => A.fail "string atom"
noncomputable def drawReg (ops : Array Oper) (k : KX R) (s : St) (fr : Fr) : R :=
  match tmpsOk ops with
  | false => A.fail "slots in a region that draws"
  | true => match backOk ops with
   | false => A.fail "order in a region that draws"
   | true => nrec (β := St → Fr → R) (fun _ _ => A.fail "too many cases") (fun _ again => drawAgain P call A ops k again) 40 s fr

/-- do all operations write slots of the frame? -/
noncomputable def dstsOk (n : Nat) (ops : Array Oper) : Bool := allL (fun o => match o.dst with | some d => Nat.ble (d + 1) n | none => true) ops.toList
def roundsN : Nat := 100000
/-- what follows a round -/
noncomputable def nextK {R : Type} (again : St → Fr → R) (k : KX R) : KX R := fun e s fr => match e with | .normal => again s fr | .exit i => k (.exit i) s fr | .ret => k .ret s fr
noncomputable def roundA {R : Type} (body : St → Fr → KX R → R) (k : KX R) (again : St → Fr → R) : St → Fr → R := fun s fr => body s fr (nextK again k)
/-- n: how many slots the frame has -/
noncomputable def runCode (n : Nat) (c : Code) : St → Fr → KX R → R :=
  crec (β := St → Fr → KX R → R)
    (fun s fr k => k .normal s fr)
    (fun ops draw s fr k => match dstsOk n ops with
      | false => A.fail "slots"
      | true => match draw with
        | false => runOps P call A ops k s fr
        | true => drawReg P call A ops k s fr)
    (fun iha ihb s fr k => iha s fr fun e s fr => match e with | .normal => ihb s fr k | .exit i => k (.exit i) s fr | .ret => k .ret s fr)
    (fun c iha ihb s fr k => match evalO P s fr c with | .bool true => iha s fr k | .bool false => ihb s fr k | _ => A.fail "cond")
    (fun id ih s fr k => ih s fr fun e s fr => match e with
      | .exit id' => (match Nat.beq id' id with | true => k .normal s fr | false => k (.exit id') s fr)
      | .normal => k .normal s fr
      | .ret => k .ret s fr)
    (fun ih s fr k => nrec (β := St → Fr → R) (fun _ _ => A.fail "too many rounds") (fun _ again => roundA ih k again) roundsN s fr)
    (fun id s fr k => k (.exit id) s fr)
    (fun s fr k => k .ret s fr)
    (fun m _ _ _ => A.fail m) c

noncomputable def argsFr (args : List AV) : Nat → Fr → Fr := lrec (fun _ fr => fr) (fun v _ ih i fr => ih (i + 1) (fr.set (some v) (pathOf i))) args
noncomputable def resultsA (s : St) (fr : Fr) (rs : List ResultVar) (k : List AV → R) : R :=
  lrec (fun k => k []) (fun r _ ih k => match r with
    | .tmp t => ih fun l => k (evalO P s fr (.tmp t) :: l)
    | .cell a t => match evalO P s fr (.tmp a) with
      | .ptr b off => loadA P A t s b off fun v => ih fun l => k (v :: l)
      | _ => A.fail "result cell") rs k
end

def avEq : AV → AV → Bool
  | .bool a, .bool b => (match a with | true => b | false => bnot b)
  | .int k a, .int k' b => match Nat.beq (kIdx k) (kIdx k') with | true => ieq a b | false => false
  | .str l n, .str l' n' => strEq l n l' n'
  | .nilp, .nilp => true
  | .nils, .nils => true
  | .nilm, .nilm => true
  | .nilf, .nilf => true
  | .nili, .nili => true
  | _, _ => false
/-- the same, one level deep -/
noncomputable def avsEq (l : List AV) : List AV → Bool := lrec (fun m => match m with | [] => true | _ => false) (fun x _ ih m => match m with | [] => false | y :: m => match avEq x y with | true => ih m | false => false) l
noncomputable def avEq1 : AV → AV → Bool
  | .agg l, .agg m => avsEq l m
  | x, y => avEq x y
noncomputable def avsEq1 (l : List AV) : List AV → Bool := lrec (fun m => match m with | [] => true | _ => false) (fun x _ ih m => match m with | [] => false | y :: m => match avEq1 x y with | true => ih m | false => false) l
noncomputable def avEq2 : AV → AV → Bool
  | .tuple l, .tuple m => avsEq1 l m
  | x, y => avEq1 x y
/-! results that are known: of a function, for its arguments: the value, and the blocks it made (their names from 1000 on), where the listed variables are as they were -/
structure Ent where
  gl : List (Nat × List AV)
  args : List AV
  val : AV
  objs : List (Nat × AObj)
  top : Nat
/-! functions without a body -/
noncomputable def cntB (c : Nat) (l : Nat) : Nat → Nat := nrec (fun _ => 0) (fun _ ih n => match Nat.beq (Nat.mod n 256) (Nat.mod c 256) with | true => Nat.add (ih (Nat.div n 256)) 1 | false => ih (Nat.div n 256)) l
noncomputable def idxB (c l n : Nat) : Int := nrec (β := Nat → Int) (fun _ => .negSucc 0) (fun _ ih i => match Nat.beq (Nat.mod (Nat.div n (Nat.pow 256 (Nat.sub (Nat.sub l 1) i))) 256) (Nat.mod c 256) with | true => .ofNat i | false => ih (Nat.add i 1)) l 0
noncomputable def cntX : List AV → Option AV
  | [.str l n, .int .u8 (.ofNat c)] => some (.int .i64 (.ofNat (cntB c l n)))
  | _ => none
noncomputable def idxX : List AV → Option AV
  | [.str l n, .int .u8 (.ofNat c)] => some (.int .i64 (idxB c l n))
  | _ => none
/-! results that are known of functions over slices whose contents are known -/
structure PSl where
  tail : Bool
  off : Nat
  len : Nat
  cap : Nat
  l : List AV
  t : Nat
  full : Bool
structure HEnt where
  args : List PSl
  val : AV
noncomputable def beqB : Bool → Bool → Bool
  | true, b => b
  | false, b => bnot b
noncomputable def objIs (s : St) (b : Nat) (p : PSl) : Bool := match hget s b with
  | some (.cells l t full) => match beqB full p.full with
    | true => (match Nat.beq t p.t with | true => avsEq l p.l | false => false)
    | false => false
  | _ => false
noncomputable def slIs (s : St) (p : PSl) : AV → Option Nat
  | .slice b off len cap => match p.tail with
    | true => none
    | false => match Nat.beq off p.off, Nat.beq len p.len, Nat.beq cap p.cap with
      | true, true, true => (match objIs s b p with | true => some b | false => none)
      | _, _, _ => none
  | .sliceT b off len es => match p.tail with
    | false => none
    | true => match Nat.beq off p.off, Nat.beq len p.len, Nat.beq es p.cap with
      | true, true, true => (match objIs s b p with | true => some b | false => none)
      | _, _, _ => none
  | _ => none
noncomputable def memB (b : Nat) (l : List Nat) : Bool := lrec false (fun x _ ih => match Nat.beq b x with | true => true | false => ih) l
/-- the blocks of the slices, if all are as is said, and no two the same -/
noncomputable def slsIs (s : St) (ps : List PSl) : List AV → Option (List Nat) :=
  lrec (fun vs => match vs with | [] => some [] | _ => none) (fun p _ ih vs => match vs with
    | [] => none
    | v :: vs => match slIs s p v with
      | none => none
      | some b => match ih vs with
        | none => none
        | some bs => match memB b bs with | true => none | false => some (b :: bs)) ps
noncomputable def hFind (s : St) (args : List AV) (l : List HEnt) : Option (AV × St) :=
  lrec none (fun e _ ih => match slsIs s e.args args with | some _ => some (e.val, s) | none => ih) l
structure Sm where
  fs : Tr (List Ent)
  xs : Tr (List AV → Option AV)
  hs : Tr (List HEnt)
noncomputable def shiftN (n b : Nat) : Nat := b - 1000 + n
noncomputable def renB (n : Nat) (b : Nat) (f : Nat → AV) : AV := match Nat.ble 1000 b with | true => f (shiftN n b) | false => .any
noncomputable def renS (n : Nat) : AV → AV
  | .bool b => .bool b
  | .int k m => .int k m
  | .str l m => .str l m
  | .ptr b off => renB n b fun b => .ptr b off
  | .nilp => .nilp
  | .slice b off len cap => renB n b fun b => .slice b off len cap
  | .sliceT b off len es => renB n b fun b => .sliceT b off len es
  | .nils => .nils
  | .map b => renB n b fun b => .map b
  | .nilm => .nilm
  | .nilf => .nilf
  | .nili => .nili
  | _ => .any
noncomputable def renC (n : Nat) : AV → AV
  | .func f cap => .func f (mapL (renS n) cap)
  | .iface t v => .iface t (renS n v)
  | v => renS n v
noncomputable def renD (n : Nat) : AV → AV
  | .agg l => .agg (mapL (renC n) l)
  | v => renC n v
noncomputable def renV (n : Nat) : AV → AV
  | .tuple l => .tuple (mapL (renD n) l)
  | v => renD n v
noncomputable def renO (n : Nat) : AObj → AObj
  | .cells l t full => .cells (mapL (renD n) l) t full
  | .map es => .map (mapL (fun p => (renD n p.1, renD n p.2)) es)
noncomputable def glOk (gl : List (Nat × List AV)) (s : St) : Bool := allL (fun g => match hget s g.1 with | some (.cells l _ true) => avsEq l g.2 | _ => false) gl
noncomputable def entHeap (n : Nat) (h : Tr AObj) (l : List (Nat × AObj)) : Tr AObj := lrec h (fun x _ ih => ih.set (some (renO n x.2)) (pathOf (shiftN n x.1))) l
noncomputable def entSt (e : Ent) (s : St) : St := ⟨entHeap s.next s.heap e.objs, s.next + (e.top - 1000), s.base, s.sy⟩
noncomputable def smFind (sm : Sm) (s : St) (f : Nat) (args : List AV) : Option (AV × St) :=
  orec (orec (orec none (fun l => hFind s args l) (sm.hs.get (pathOf f))) (fun g => orec none (fun v => some (v, s)) (g args)) (sm.xs.get (pathOf f)))
    (fun l => lrec none (fun e _ ih => match avsEq args e.args with
    | true => (match glOk e.gl s with | true => some (renV s.next e.val, entSt e s) | false => none)
    | false => ih) l) (sm.fs.get (pathOf f))
noncomputable def callBody (P : Program) (call : CallT) (R : Type) (A : Ans R) (f : Nat) (args : List AV) (s : St) (k : KV R) : R :=
  match bodyOf P f with
  | some fn => match fn.body with
    | some c => match Nat.ble (lenL args) fn.ntmps with
      | true => runCode P call A fn.ntmps c s (argsFr args 0 .leaf) fun e s fr =>
        match e with
        | .exit _ => A.fail "exit"
        | _ => resultsA P A s fr fn.results.toList fun l => match l with
          | [v] => k v s
          | l => k (.tuple l) s
      | false => A.fail "slots"
    | none => A.fail "no body"
  | none => A.fail "no function"
noncomputable def callF (P : Program) (sm : Sm) (fuel : Nat) : CallT :=
  nrec1 (β := CallT) (fun _ A _ _ _ _ => A.fail "depth") (fun _ ih R A f args s k => orec (callBody P ih R A f args s k) (fun p => k p.1 p.2) (smFind sm s f args)) fuel
def ansB : Ans Bool := ⟨fun _ => false, fun _ a b => match a with | true => b | false => false⟩
noncomputable def sm0 : Sm := ⟨.leaf, .leaf, .leaf⟩
end Go.Proofs.YtlnfollgpbcafaaGreatDoor.Xq
