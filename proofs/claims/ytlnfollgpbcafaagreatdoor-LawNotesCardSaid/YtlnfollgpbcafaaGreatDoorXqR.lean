import Derived.Calls
import Derived.KernelRfl
set_option autoImplicit false
set_option linter.unusedVariables false
namespace Go.Proofs.YtlnfollgpbcafaaGreatDoor.Xq
open Go
/-! ### recursion by the recursors themselves (the kernel runs these faster) -/
noncomputable def lrec {α β : Type} (z : β) (f : α → List α → β → β) (l : List α) : β := List.rec z f l
noncomputable def nrec {β : Type} (z : β) (f : Nat → β → β) (n : Nat) : β := Nat.rec z f n
noncomputable def nrec1 {β : Type 1} (z : β) (f : Nat → β → β) (n : Nat) : β := Nat.rec z f n
inductive Path where | e | a (p : Path) | b (p : Path) | c (p : Path) | d (p : Path)
noncomputable def prec {β : Type} (z : β) (fa fb fc fd : β → β) (p : Path) : β := Path.rec z (fun _ => fa) (fun _ => fb) (fun _ => fc) (fun _ => fd) p
inductive Tr (α : Type) where | leaf | node (v : Option α) (ta tb tc td : Tr α)
noncomputable abbrev trec {α β : Type} (z : β) (f : Option α → Tr α → Tr α → Tr α → Tr α → β) (t : Tr α) : β := Tr.rec z (fun v a b c d _ _ _ _ => f v a b c d) t
noncomputable abbrev orec {α β : Type} (z : β) (f : α → β) (o : Option α) : β := Option.rec z f o
noncomputable abbrev oprec {β : Type} (t : Nat → β) (c : Value → β) (g : Nat → β) (f : Nat → β) (x : Operand) : β := Operand.rec t c g f x
noncomputable def crec {β : Type} (skip : β) (region : Array Oper → Bool → β) (seq : β → β → β) (cond : Operand → β → β → β) (block : Nat → β → β) (loop : β → β) (exit : Nat → β) (ret : β) (bad : String → β) (c : Code) : β :=
  Code.rec (motive := fun _ => β) skip (fun _ ops d => region ops d) (fun _ _ a b => seq a b) (fun c _ _ a b => cond c a b) (fun id _ b => block id b) (fun _ b => loop b)
    (fun _ _ _ _ _ _ => bad "range over a function") exit (fun _ _ => bad "scope") (fun _ => bad "label") (fun _ => bad "goto") ret (fun _ => bad "refuse") c
end Go.Proofs.YtlnfollgpbcafaaGreatDoor.Xq
