/-
  No cell of these rows narrows 'for every input' (looked for: loops, veiled, ifaces, maps, wideKeys, modest, calm, conditions, laid).
  DERIVED. THE GIVEN ROWS OF THIS SEAT. 4 by the template 'for every input the law returns true; each argument reads behind the call as it read before'; 0 by the template 'total and deterministic' (their statements: YteemdonegpnkcaaTotals.lean).
  GIVEN WITH THE SEED: the statements are not yours to turn. If you find one false, say at which input.
  Laid BY PROGRAM, IN A SANDBOX (cutbox-rows.mjs): the forced cells as the released guide's own fill.sh prints them over the translation 8926fb3240976965… (all of the seat's roots in one cut). By AI agents, Wed Nov 11 2026. No macro, syntax, notation, axiom, sorry.
-/
import Derived.Test.YteemdonegpnkcaaChecked
import GoSem.Claim
import GoSem.ClaimJoined
import GoSem.ClaimMapViews
import Derived.JoinedTies
import Derived.KernelRfl
namespace Go.Proofs.Yteemdonegpnkcaa
/- THE CELL 'sum', in the pinned program and in every row, IS THE sha256 OF THE DUMP (.gsa) THAT YteemdonegpnkcaaProg.lean LOADS. Nothing in Lean hashes anything: it is a label: what it is worth is what the hold of that sum in a sandbox is worth. -/
noncomputable def Try.pinned : Pinned := { name := "yteemdonegpnkcaa", sum := "8926fb3240976965f522841376ff9eeec3b39dae47f2beedb2dca4abd29a2bf8", checked := Try.checked }
namespace Rows
def none {H : Type} : Left H := { results := [], args := [] }

/-- 'pentroughlaw06.CasingIs': WHATEVER THE INPUT: true; the input reads as it did. -/
def casingIsSpec : ChangeSpec := { name := "casingIs", fn := fun _ => fun
  | [d1, d2] => { results := [.lit (.bool true)], args := [d1, d2] }
  | _ => none }
def casingIsRow : OpenClaim := { program := "yteemdonegpnkcaa", sum := "8926fb3240976965f522841376ff9eeec3b39dae47f2beedb2dca4abd29a2bf8", func := "pentrough/pentroughlaw06.CasingIs", spec := "casingIs", apart := false }
def CasingIsSaid : Prop := casingIsRow.holds Try.pinned (OpenSpec.ofChange casingIsSpec)

/-- ITS FALSE NEIGHBOUR: 'it returns false'. Refute it at one input. -/
def casingIsWrong : ChangeSpec := { name := "casingIs", fn := fun _ => fun
  | [d1, d2] => { results := [.lit (.bool false)], args := [d1, d2] }
  | _ => none }
def CasingIsWrongFalsely : Prop := casingIsRow.holds Try.pinned (OpenSpec.ofChange casingIsWrong)

/-- 'pentroughlaw06.CasingRows': WHATEVER THE INPUT: true; the input reads as it did. -/
def casingRowsSpec : ChangeSpec := { name := "casingRows", fn := fun _ => fun
  | [d1, d2] => { results := [.lit (.bool true)], args := [d1, d2] }
  | _ => none }
def casingRowsRow : OpenClaim := { program := "yteemdonegpnkcaa", sum := "8926fb3240976965f522841376ff9eeec3b39dae47f2beedb2dca4abd29a2bf8", func := "pentrough/pentroughlaw06.CasingRows", spec := "casingRows", apart := false }
def CasingRowsSaid : Prop := casingRowsRow.holds Try.pinned (OpenSpec.ofChange casingRowsSpec)

/-- ITS FALSE NEIGHBOUR: 'it returns false'. Refute it at one input. -/
def casingRowsWrong : ChangeSpec := { name := "casingRows", fn := fun _ => fun
  | [d1, d2] => { results := [.lit (.bool false)], args := [d1, d2] }
  | _ => none }
def CasingRowsWrongFalsely : Prop := casingRowsRow.holds Try.pinned (OpenSpec.ofChange casingRowsWrong)

/-- 'pentroughlaw06.CasingLetters': WHATEVER THE INPUT: true; the input reads as it did. -/
def casingLettersSpec : ChangeSpec := { name := "casingLetters", fn := fun _ => fun
  | [d] => { results := [.lit (.bool true)], args := [d] }
  | _ => none }
def casingLettersRow : OpenClaim := { program := "yteemdonegpnkcaa", sum := "8926fb3240976965f522841376ff9eeec3b39dae47f2beedb2dca4abd29a2bf8", func := "pentrough/pentroughlaw06.CasingLetters", spec := "casingLetters", apart := false }
def CasingLettersSaid : Prop := casingLettersRow.holds Try.pinned (OpenSpec.ofChange casingLettersSpec)

/-- ITS FALSE NEIGHBOUR: 'it returns false'. Refute it at one input. -/
def casingLettersWrong : ChangeSpec := { name := "casingLetters", fn := fun _ => fun
  | [d] => { results := [.lit (.bool false)], args := [d] }
  | _ => none }
def CasingLettersWrongFalsely : Prop := casingLettersRow.holds Try.pinned (OpenSpec.ofChange casingLettersWrong)

/-- 'pentroughlaw06.CasingOnce': WHATEVER THE INPUT: true; the input reads as it did. -/
def casingOnceSpec : ChangeSpec := { name := "casingOnce", fn := fun _ => fun
  | [d] => { results := [.lit (.bool true)], args := [d] }
  | _ => none }
def casingOnceRow : OpenClaim := { program := "yteemdonegpnkcaa", sum := "8926fb3240976965f522841376ff9eeec3b39dae47f2beedb2dca4abd29a2bf8", func := "pentrough/pentroughlaw06.CasingOnce", spec := "casingOnce", apart := false }
def CasingOnceSaid : Prop := casingOnceRow.holds Try.pinned (OpenSpec.ofChange casingOnceSpec)

/-- ITS FALSE NEIGHBOUR: 'it returns false'. Refute it at one input. -/
def casingOnceWrong : ChangeSpec := { name := "casingOnce", fn := fun _ => fun
  | [d] => { results := [.lit (.bool false)], args := [d] }
  | _ => none }
def CasingOnceWrongFalsely : Prop := casingOnceRow.holds Try.pinned (OpenSpec.ofChange casingOnceWrong)

/- THE SECOND FORM. 'bulk': how many values and letters a reading holds, each counted each time it is reached (what is shared counts as often as it is met; a slice's spare places count too). A statement '..UptoSaid' is the law's where the arguments, and the package variables that the reading takes, are together of bulk at most 1048576: NARROWER than '..Said'. Prove '..Said' where nothing that the law and all that it calls make is longer than what came in: it says more and counts as full. Else prove '..UptoSaid'. A law counts once. -/
mutual
def uptoBulk {H : Type} : DataW H → Nat
  | .lit (.string bytes) => bytes.length + 1
  | .lit _ => 1
  | .nil => 1
  | .ptr d => uptoBulk d + 1
  | .slice elems spare => uptoBulkAll elems + uptoBulkAll spare + 1
  | .agg parts => uptoBulkAll parts + 1
  | .iface _ d => uptoBulk d + 1
  | .map entries => uptoBulkEntries entries + 1
  | .held _ => 1
def uptoBulkAll {H : Type} : List (DataW H) → Nat
  | [] => 0
  | d :: r => uptoBulk d + uptoBulkAll r
def uptoBulkEntries {H : Type} : List (Lit × DataW H) → Nat
  | [] => 0
  | x :: r => uptoBulkEntry x + uptoBulkEntries r
def uptoBulkEntry {H : Type} : Lit × DataW H → Nat
  | (.string bytes, d) => bytes.length + uptoBulk d + 1
  | (_, d) => uptoBulk d + 1
 end
def uptoSmall : (H : Type) → List (DataW H) → Bool := fun _ ds => decide (uptoBulkAll ds ≤ 1048576)
def OpenSpec.upto (s : _root_.Go.ChangeSpec) : _root_.Go.OpenSpec := { _root_.Go.OpenSpec.ofChange s with cond := some uptoSmall }

/-- 'pentroughlaw06.CasingIs', WHERE WHAT IT READS IS OF BULK AT MOST 1048576: true; the input reads as it did. -/
def casingIsUptoRow : OpenClaim := { program := "yteemdonegpnkcaa", sum := "8926fb3240976965f522841376ff9eeec3b39dae47f2beedb2dca4abd29a2bf8", func := "pentrough/pentroughlaw06.CasingIs", spec := "casingIs", apart := false, narrowed := true }
def CasingIsUptoSaid : Prop := casingIsUptoRow.holds Try.pinned (OpenSpec.upto casingIsSpec)

/-- 'pentroughlaw06.CasingRows', WHERE WHAT IT READS IS OF BULK AT MOST 1048576: true; the input reads as it did. -/
def casingRowsUptoRow : OpenClaim := { program := "yteemdonegpnkcaa", sum := "8926fb3240976965f522841376ff9eeec3b39dae47f2beedb2dca4abd29a2bf8", func := "pentrough/pentroughlaw06.CasingRows", spec := "casingRows", apart := false, narrowed := true }
def CasingRowsUptoSaid : Prop := casingRowsUptoRow.holds Try.pinned (OpenSpec.upto casingRowsSpec)

/-- 'pentroughlaw06.CasingLetters', WHERE WHAT IT READS IS OF BULK AT MOST 1048576: true; the input reads as it did. -/
def casingLettersUptoRow : OpenClaim := { program := "yteemdonegpnkcaa", sum := "8926fb3240976965f522841376ff9eeec3b39dae47f2beedb2dca4abd29a2bf8", func := "pentrough/pentroughlaw06.CasingLetters", spec := "casingLetters", apart := false, narrowed := true }
def CasingLettersUptoSaid : Prop := casingLettersUptoRow.holds Try.pinned (OpenSpec.upto casingLettersSpec)

/-- 'pentroughlaw06.CasingOnce', WHERE WHAT IT READS IS OF BULK AT MOST 1048576: true; the input reads as it did. -/
def casingOnceUptoRow : OpenClaim := { program := "yteemdonegpnkcaa", sum := "8926fb3240976965f522841376ff9eeec3b39dae47f2beedb2dca4abd29a2bf8", func := "pentrough/pentroughlaw06.CasingOnce", spec := "casingOnce", apart := false, narrowed := true }
def CasingOnceUptoSaid : Prop := casingOnceUptoRow.holds Try.pinned (OpenSpec.upto casingOnceSpec)

end Rows
end Go.Proofs.Yteemdonegpnkcaa
