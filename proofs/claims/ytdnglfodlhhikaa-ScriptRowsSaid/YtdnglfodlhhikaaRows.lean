/-
  No cell of these rows narrows 'for every input' (looked for: loops, veiled, ifaces, maps, wideKeys, modest, calm, conditions, laid).
  DERIVED. THE GIVEN ROWS OF THIS SEAT. 6 by the template 'for every input the law returns true; each argument reads behind the call as it read before'; 0 by the template 'total and deterministic' (their statements: YtdnglfodlhhikaaTotals.lean).
  GIVEN WITH THE SEED: the statements are not yours to turn. If you find one false, say at which input.
  Laid BY PROGRAM, IN A SANDBOX (cutbox-rows.mjs): the forced cells as the released guide's own fill.sh prints them over the translation 240d769b07035aa9… (all of the seat's roots in one cut). By AI agents, Wed Nov 11 2026. No macro, syntax, notation, axiom, sorry.
-/
import Derived.Test.YtdnglfodlhhikaaChecked
import GoSem.Claim
import GoSem.ClaimJoined
import GoSem.ClaimMapViews
import Derived.JoinedTies
import Derived.KernelRfl
namespace Go.Proofs.Ytdnglfodlhhikaa
/- THE CELL 'sum', in the pinned program and in every row, IS THE sha256 OF THE DUMP (.gsa) THAT YtdnglfodlhhikaaProg.lean LOADS. Nothing in Lean hashes anything: it is a label: what it is worth is what the hold of that sum in a sandbox is worth. -/
noncomputable def Try.pinned : Pinned := { name := "ytdnglfodlhhikaa", sum := "240d769b07035aa9c05796c2d483986b9db15ac66ee216cb7803505adffd7a0f", checked := Try.checked }
namespace Rows
def none {H : Type} : Left H := { results := [], args := [] }

/-- 'pentroughlaw23.ScriptBack': WHATEVER THE INPUT: true; the input reads as it did. -/
def scriptBackSpec : ChangeSpec := { name := "scriptBack", fn := fun _ => fun
  | [d1, d2] => { results := [.lit (.bool true)], args := [d1, d2] }
  | _ => none }
def scriptBackRow : OpenClaim := { program := "ytdnglfodlhhikaa", sum := "240d769b07035aa9c05796c2d483986b9db15ac66ee216cb7803505adffd7a0f", func := "pentrough/pentroughlaw23.ScriptBack", spec := "scriptBack", unfollowed := true, recurses := true, apart := false }
def ScriptBackSaid : Prop := scriptBackRow.holds Try.pinned (OpenSpec.ofChange scriptBackSpec)

/-- ITS FALSE NEIGHBOUR: 'it returns false'. Refute it at one input. -/
def scriptBackWrong : ChangeSpec := { name := "scriptBack", fn := fun _ => fun
  | [d1, d2] => { results := [.lit (.bool false)], args := [d1, d2] }
  | _ => none }
def ScriptBackWrongFalsely : Prop := scriptBackRow.holds Try.pinned (OpenSpec.ofChange scriptBackWrong)

/-- 'pentroughlaw23.ScriptOnce': WHATEVER THE INPUT: true; the input reads as it did. -/
def scriptOnceSpec : ChangeSpec := { name := "scriptOnce", fn := fun _ => fun
  | [d] => { results := [.lit (.bool true)], args := [d] }
  | _ => none }
def scriptOnceRow : OpenClaim := { program := "ytdnglfodlhhikaa", sum := "240d769b07035aa9c05796c2d483986b9db15ac66ee216cb7803505adffd7a0f", func := "pentrough/pentroughlaw23.ScriptOnce", spec := "scriptOnce", unfollowed := true, recurses := true, apart := false }
def ScriptOnceSaid : Prop := scriptOnceRow.holds Try.pinned (OpenSpec.ofChange scriptOnceSpec)

/-- ITS FALSE NEIGHBOUR: 'it returns false'. Refute it at one input. -/
def scriptOnceWrong : ChangeSpec := { name := "scriptOnce", fn := fun _ => fun
  | [d] => { results := [.lit (.bool false)], args := [d] }
  | _ => none }
def ScriptOnceWrongFalsely : Prop := scriptOnceRow.holds Try.pinned (OpenSpec.ofChange scriptOnceWrong)

/-- 'pentroughlaw23.ScriptSizes': WHATEVER THE INPUT: true; the input reads as it did. -/
def scriptSizesSpec : ChangeSpec := { name := "scriptSizes", fn := fun _ => fun
  | [d] => { results := [.lit (.bool true)], args := [d] }
  | _ => none }
def scriptSizesRow : OpenClaim := { program := "ytdnglfodlhhikaa", sum := "240d769b07035aa9c05796c2d483986b9db15ac66ee216cb7803505adffd7a0f", func := "pentrough/pentroughlaw23.ScriptSizes", spec := "scriptSizes", unfollowed := true, recurses := true, apart := false }
def ScriptSizesSaid : Prop := scriptSizesRow.holds Try.pinned (OpenSpec.ofChange scriptSizesSpec)

/-- ITS FALSE NEIGHBOUR: 'it returns false'. Refute it at one input. -/
def scriptSizesWrong : ChangeSpec := { name := "scriptSizes", fn := fun _ => fun
  | [d] => { results := [.lit (.bool false)], args := [d] }
  | _ => none }
def ScriptSizesWrongFalsely : Prop := scriptSizesRow.holds Try.pinned (OpenSpec.ofChange scriptSizesWrong)

/-- 'pentroughlaw23.ScriptIs': WHATEVER THE INPUT: true; the input reads as it did. -/
def scriptIsSpec : ChangeSpec := { name := "scriptIs", fn := fun _ => fun
  | [d1, d2] => { results := [.lit (.bool true)], args := [d1, d2] }
  | _ => none }
def scriptIsRow : OpenClaim := { program := "ytdnglfodlhhikaa", sum := "240d769b07035aa9c05796c2d483986b9db15ac66ee216cb7803505adffd7a0f", func := "pentrough/pentroughlaw23.ScriptIs", spec := "scriptIs", unfollowed := true, recurses := true, apart := false }
def ScriptIsSaid : Prop := scriptIsRow.holds Try.pinned (OpenSpec.ofChange scriptIsSpec)

/-- ITS FALSE NEIGHBOUR: 'it returns false'. Refute it at one input. -/
def scriptIsWrong : ChangeSpec := { name := "scriptIs", fn := fun _ => fun
  | [d1, d2] => { results := [.lit (.bool false)], args := [d1, d2] }
  | _ => none }
def ScriptIsWrongFalsely : Prop := scriptIsRow.holds Try.pinned (OpenSpec.ofChange scriptIsWrong)

/-- 'pentroughlaw23.ScriptRows': WHATEVER THE INPUT: true; the input reads as it did. -/
def scriptRowsSpec : ChangeSpec := { name := "scriptRows", fn := fun _ => fun
  | [d1, d2] => { results := [.lit (.bool true)], args := [d1, d2] }
  | _ => none }
def scriptRowsRow : OpenClaim := { program := "ytdnglfodlhhikaa", sum := "240d769b07035aa9c05796c2d483986b9db15ac66ee216cb7803505adffd7a0f", func := "pentrough/pentroughlaw23.ScriptRows", spec := "scriptRows", unfollowed := true, recurses := true, apart := false }
def ScriptRowsSaid : Prop := scriptRowsRow.holds Try.pinned (OpenSpec.ofChange scriptRowsSpec)

/-- ITS FALSE NEIGHBOUR: 'it returns false'. Refute it at one input. -/
def scriptRowsWrong : ChangeSpec := { name := "scriptRows", fn := fun _ => fun
  | [d1, d2] => { results := [.lit (.bool false)], args := [d1, d2] }
  | _ => none }
def ScriptRowsWrongFalsely : Prop := scriptRowsRow.holds Try.pinned (OpenSpec.ofChange scriptRowsWrong)

/-- 'pentroughlaw23.ScriptWhole': WHATEVER THE INPUT: true; the input reads as it did. -/
def scriptWholeSpec : ChangeSpec := { name := "scriptWhole", fn := fun _ => fun
  | [d] => { results := [.lit (.bool true)], args := [d] }
  | _ => none }
def scriptWholeRow : OpenClaim := { program := "ytdnglfodlhhikaa", sum := "240d769b07035aa9c05796c2d483986b9db15ac66ee216cb7803505adffd7a0f", func := "pentrough/pentroughlaw23.ScriptWhole", spec := "scriptWhole", unfollowed := true, recurses := true, apart := false }
def ScriptWholeSaid : Prop := scriptWholeRow.holds Try.pinned (OpenSpec.ofChange scriptWholeSpec)

/-- ITS FALSE NEIGHBOUR: 'it returns false'. Refute it at one input. -/
def scriptWholeWrong : ChangeSpec := { name := "scriptWhole", fn := fun _ => fun
  | [d] => { results := [.lit (.bool false)], args := [d] }
  | _ => none }
def ScriptWholeWrongFalsely : Prop := scriptWholeRow.holds Try.pinned (OpenSpec.ofChange scriptWholeWrong)

/- THE SECOND FORM. 'bulk': how many values and letters a reading holds, each counted each time it is reached (what is shared counts as often as it is met; a slice's spare places count too). A statement '..UptoSaid' is the law's where the arguments, and the package variables that the reading takes, are together of bulk at most 1048576: NARROWER than '..Said'. Prove '..Said' where nothing that the law and all that it calls make is longer than what came in: it says more and counts as full. Else prove '..UptoSaid'. A law counts once. -/
mutual
def uptoBulk {H : Type} : DataW H → Nat
  | .lit (.string bytes) => bytes.length + 1
  | .lit _ => 1
  | .nil => 1
  | .ptr d => uptoBulk d + 1
  | .slice elems spare => uptoBulkAll elems + uptoBulkAll spare + 1
  | .agg parts => uptoBulkAll parts + 1
  | .iface _ d => uptoBulk d + 1
  | .map entries => uptoBulkEntries entries + 1
  | .held _ => 1
def uptoBulkAll {H : Type} : List (DataW H) → Nat
  | [] => 0
  | d :: r => uptoBulk d + uptoBulkAll r
def uptoBulkEntries {H : Type} : List (Lit × DataW H) → Nat
  | [] => 0
  | x :: r => uptoBulkEntry x + uptoBulkEntries r
def uptoBulkEntry {H : Type} : Lit × DataW H → Nat
  | (.string bytes, d) => bytes.length + uptoBulk d + 1
  | (_, d) => uptoBulk d + 1
 end
def uptoSmall : (H : Type) → List (DataW H) → Bool := fun _ ds => decide (uptoBulkAll ds ≤ 1048576)
def OpenSpec.upto (s : _root_.Go.ChangeSpec) : _root_.Go.OpenSpec := { _root_.Go.OpenSpec.ofChange s with cond := some uptoSmall }

/-- 'pentroughlaw23.ScriptBack', WHERE WHAT IT READS IS OF BULK AT MOST 1048576: true; the input reads as it did. -/
def scriptBackUptoRow : OpenClaim := { program := "ytdnglfodlhhikaa", sum := "240d769b07035aa9c05796c2d483986b9db15ac66ee216cb7803505adffd7a0f", func := "pentrough/pentroughlaw23.ScriptBack", spec := "scriptBack", unfollowed := true, recurses := true, apart := false, narrowed := true }
def ScriptBackUptoSaid : Prop := scriptBackUptoRow.holds Try.pinned (OpenSpec.upto scriptBackSpec)

/-- 'pentroughlaw23.ScriptOnce', WHERE WHAT IT READS IS OF BULK AT MOST 1048576: true; the input reads as it did. -/
def scriptOnceUptoRow : OpenClaim := { program := "ytdnglfodlhhikaa", sum := "240d769b07035aa9c05796c2d483986b9db15ac66ee216cb7803505adffd7a0f", func := "pentrough/pentroughlaw23.ScriptOnce", spec := "scriptOnce", unfollowed := true, recurses := true, apart := false, narrowed := true }
def ScriptOnceUptoSaid : Prop := scriptOnceUptoRow.holds Try.pinned (OpenSpec.upto scriptOnceSpec)

/-- 'pentroughlaw23.ScriptSizes', WHERE WHAT IT READS IS OF BULK AT MOST 1048576: true; the input reads as it did. -/
def scriptSizesUptoRow : OpenClaim := { program := "ytdnglfodlhhikaa", sum := "240d769b07035aa9c05796c2d483986b9db15ac66ee216cb7803505adffd7a0f", func := "pentrough/pentroughlaw23.ScriptSizes", spec := "scriptSizes", unfollowed := true, recurses := true, apart := false, narrowed := true }
def ScriptSizesUptoSaid : Prop := scriptSizesUptoRow.holds Try.pinned (OpenSpec.upto scriptSizesSpec)

/-- 'pentroughlaw23.ScriptIs', WHERE WHAT IT READS IS OF BULK AT MOST 1048576: true; the input reads as it did. -/
def scriptIsUptoRow : OpenClaim := { program := "ytdnglfodlhhikaa", sum := "240d769b07035aa9c05796c2d483986b9db15ac66ee216cb7803505adffd7a0f", func := "pentrough/pentroughlaw23.ScriptIs", spec := "scriptIs", unfollowed := true, recurses := true, apart := false, narrowed := true }
def ScriptIsUptoSaid : Prop := scriptIsUptoRow.holds Try.pinned (OpenSpec.upto scriptIsSpec)

/-- 'pentroughlaw23.ScriptRows', WHERE WHAT IT READS IS OF BULK AT MOST 1048576: true; the input reads as it did. -/
def scriptRowsUptoRow : OpenClaim := { program := "ytdnglfodlhhikaa", sum := "240d769b07035aa9c05796c2d483986b9db15ac66ee216cb7803505adffd7a0f", func := "pentrough/pentroughlaw23.ScriptRows", spec := "scriptRows", unfollowed := true, recurses := true, apart := false, narrowed := true }
def ScriptRowsUptoSaid : Prop := scriptRowsUptoRow.holds Try.pinned (OpenSpec.upto scriptRowsSpec)

/-- 'pentroughlaw23.ScriptWhole', WHERE WHAT IT READS IS OF BULK AT MOST 1048576: true; the input reads as it did. -/
def scriptWholeUptoRow : OpenClaim := { program := "ytdnglfodlhhikaa", sum := "240d769b07035aa9c05796c2d483986b9db15ac66ee216cb7803505adffd7a0f", func := "pentrough/pentroughlaw23.ScriptWhole", spec := "scriptWhole", unfollowed := true, recurses := true, apart := false, narrowed := true }
def ScriptWholeUptoSaid : Prop := scriptWholeUptoRow.holds Try.pinned (OpenSpec.upto scriptWholeSpec)

end Rows
end Go.Proofs.Ytdnglfodlhhikaa
