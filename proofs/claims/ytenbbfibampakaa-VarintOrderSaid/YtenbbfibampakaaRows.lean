/-
  No cell of these rows narrows 'for every input' (looked for: loops, veiled, ifaces, maps, wideKeys, modest, calm, conditions, laid).
  DERIVED. THE GIVEN ROWS OF THIS SEAT. 5 by the template 'for every input the law returns true; each argument reads behind the call as it read before'; 0 by the template 'total and deterministic' (their statements: YtenbbfibampakaaTotals.lean).
  GIVEN WITH THE SEED: the statements are not yours to turn. If you find one false, say at which input.
  Laid BY PROGRAM, IN A SANDBOX (cutbox-rows.mjs): the forced cells as the released guide's own fill.sh prints them over the translation ae0aa3f7ca52afcd… (all of the seat's roots in one cut). By AI agents, Wed Nov 11 2026. No macro, syntax, notation, axiom, sorry.
-/
import Derived.Test.YtenbbfibampakaaChecked
import GoSem.Claim
import GoSem.ClaimJoined
import GoSem.ClaimMapViews
import Derived.JoinedTies
import Derived.KernelRfl
namespace Go.Proofs.Ytenbbfibampakaa
/- THE CELL 'sum', in the pinned program and in every row, IS THE sha256 OF THE DUMP (.gsa) THAT YtenbbfibampakaaProg.lean LOADS. Nothing in Lean hashes anything: it is a label: what it is worth is what the hold of that sum in a sandbox is worth. -/
noncomputable def Try.pinned : Pinned := { name := "ytenbbfibampakaa", sum := "ae0aa3f7ca52afcdf3adee1379abc0d197cf0a33ac509f381c5a39f3280bad4a", checked := Try.checked }
namespace Rows
def none {H : Type} : Left H := { results := [], args := [] }

/-- 'pentroughlaw02.VarintIs': WHATEVER THE INPUT: true; the input reads as it did. -/
def varintIsSpec : ChangeSpec := { name := "varintIs", fn := fun _ => fun
  | [d1, d2] => { results := [.lit (.bool true)], args := [d1, d2] }
  | _ => none }
def varintIsRow : OpenClaim := { program := "ytenbbfibampakaa", sum := "ae0aa3f7ca52afcdf3adee1379abc0d197cf0a33ac509f381c5a39f3280bad4a", func := "pentrough/pentroughlaw02.VarintIs", spec := "varintIs", apart := false }
def VarintIsSaid : Prop := varintIsRow.holds Try.pinned (OpenSpec.ofChange varintIsSpec)

/-- ITS FALSE NEIGHBOUR: 'it returns false'. Refute it at one input. -/
def varintIsWrong : ChangeSpec := { name := "varintIs", fn := fun _ => fun
  | [d1, d2] => { results := [.lit (.bool false)], args := [d1, d2] }
  | _ => none }
def VarintIsWrongFalsely : Prop := varintIsRow.holds Try.pinned (OpenSpec.ofChange varintIsWrong)

/-- 'pentroughlaw02.VarintBack': WHATEVER THE INPUT: true; the input reads as it did. -/
def varintBackSpec : ChangeSpec := { name := "varintBack", fn := fun _ => fun
  | [d1, d2] => { results := [.lit (.bool true)], args := [d1, d2] }
  | _ => none }
def varintBackRow : OpenClaim := { program := "ytenbbfibampakaa", sum := "ae0aa3f7ca52afcdf3adee1379abc0d197cf0a33ac509f381c5a39f3280bad4a", func := "pentrough/pentroughlaw02.VarintBack", spec := "varintBack", apart := false }
def VarintBackSaid : Prop := varintBackRow.holds Try.pinned (OpenSpec.ofChange varintBackSpec)

/-- ITS FALSE NEIGHBOUR: 'it returns false'. Refute it at one input. -/
def varintBackWrong : ChangeSpec := { name := "varintBack", fn := fun _ => fun
  | [d1, d2] => { results := [.lit (.bool false)], args := [d1, d2] }
  | _ => none }
def VarintBackWrongFalsely : Prop := varintBackRow.holds Try.pinned (OpenSpec.ofChange varintBackWrong)

/-- 'pentroughlaw02.VarintOnce': WHATEVER THE INPUT: true; the input reads as it did. -/
def varintOnceSpec : ChangeSpec := { name := "varintOnce", fn := fun _ => fun
  | [d] => { results := [.lit (.bool true)], args := [d] }
  | _ => none }
def varintOnceRow : OpenClaim := { program := "ytenbbfibampakaa", sum := "ae0aa3f7ca52afcdf3adee1379abc0d197cf0a33ac509f381c5a39f3280bad4a", func := "pentrough/pentroughlaw02.VarintOnce", spec := "varintOnce", apart := false }
def VarintOnceSaid : Prop := varintOnceRow.holds Try.pinned (OpenSpec.ofChange varintOnceSpec)

/-- ITS FALSE NEIGHBOUR: 'it returns false'. Refute it at one input. -/
def varintOnceWrong : ChangeSpec := { name := "varintOnce", fn := fun _ => fun
  | [d] => { results := [.lit (.bool false)], args := [d] }
  | _ => none }
def VarintOnceWrongFalsely : Prop := varintOnceRow.holds Try.pinned (OpenSpec.ofChange varintOnceWrong)

/-- 'pentroughlaw02.VarintOrder': WHATEVER THE INPUT: true; the input reads as it did. -/
def varintOrderSpec : ChangeSpec := { name := "varintOrder", fn := fun _ => fun
  | [d1, d2] => { results := [.lit (.bool true)], args := [d1, d2] }
  | _ => none }
def varintOrderRow : OpenClaim := { program := "ytenbbfibampakaa", sum := "ae0aa3f7ca52afcdf3adee1379abc0d197cf0a33ac509f381c5a39f3280bad4a", func := "pentrough/pentroughlaw02.VarintOrder", spec := "varintOrder", apart := false }
def VarintOrderSaid : Prop := varintOrderRow.holds Try.pinned (OpenSpec.ofChange varintOrderSpec)

/-- ITS FALSE NEIGHBOUR: 'it returns false'. Refute it at one input. -/
def varintOrderWrong : ChangeSpec := { name := "varintOrder", fn := fun _ => fun
  | [d1, d2] => { results := [.lit (.bool false)], args := [d1, d2] }
  | _ => none }
def VarintOrderWrongFalsely : Prop := varintOrderRow.holds Try.pinned (OpenSpec.ofChange varintOrderWrong)

/-- 'pentroughlaw02.VarintDigits': WHATEVER THE INPUT: true; the input reads as it did. -/
def varintDigitsSpec : ChangeSpec := { name := "varintDigits", fn := fun _ => fun
  | [d] => { results := [.lit (.bool true)], args := [d] }
  | _ => none }
def varintDigitsRow : OpenClaim := { program := "ytenbbfibampakaa", sum := "ae0aa3f7ca52afcdf3adee1379abc0d197cf0a33ac509f381c5a39f3280bad4a", func := "pentrough/pentroughlaw02.VarintDigits", spec := "varintDigits", apart := false }
def VarintDigitsSaid : Prop := varintDigitsRow.holds Try.pinned (OpenSpec.ofChange varintDigitsSpec)

/-- ITS FALSE NEIGHBOUR: 'it returns false'. Refute it at one input. -/
def varintDigitsWrong : ChangeSpec := { name := "varintDigits", fn := fun _ => fun
  | [d] => { results := [.lit (.bool false)], args := [d] }
  | _ => none }
def VarintDigitsWrongFalsely : Prop := varintDigitsRow.holds Try.pinned (OpenSpec.ofChange varintDigitsWrong)

/- THE SECOND FORM. 'bulk': how many values and letters a reading holds, each counted each time it is reached (what is shared counts as often as it is met; a slice's spare places count too). A statement '..UptoSaid' is the law's where the arguments, and the package variables that the reading takes, are together of bulk at most 1048576: NARROWER than '..Said'. Prove '..Said' where nothing that the law and all that it calls make is longer than what came in: it says more and counts as full. Else prove '..UptoSaid'. A law counts once. -/
mutual
def uptoBulk {H : Type} : DataW H → Nat
  | .lit (.string bytes) => bytes.length + 1
  | .lit _ => 1
  | .nil => 1
  | .ptr d => uptoBulk d + 1
  | .slice elems spare => uptoBulkAll elems + uptoBulkAll spare + 1
  | .agg parts => uptoBulkAll parts + 1
  | .iface _ d => uptoBulk d + 1
  | .map entries => uptoBulkEntries entries + 1
  | .held _ => 1
def uptoBulkAll {H : Type} : List (DataW H) → Nat
  | [] => 0
  | d :: r => uptoBulk d + uptoBulkAll r
def uptoBulkEntries {H : Type} : List (Lit × DataW H) → Nat
  | [] => 0
  | x :: r => uptoBulkEntry x + uptoBulkEntries r
def uptoBulkEntry {H : Type} : Lit × DataW H → Nat
  | (.string bytes, d) => bytes.length + uptoBulk d + 1
  | (_, d) => uptoBulk d + 1
 end
def uptoSmall : (H : Type) → List (DataW H) → Bool := fun _ ds => decide (uptoBulkAll ds ≤ 1048576)
def OpenSpec.upto (s : _root_.Go.ChangeSpec) : _root_.Go.OpenSpec := { _root_.Go.OpenSpec.ofChange s with cond := some uptoSmall }

/-- 'pentroughlaw02.VarintIs', WHERE WHAT IT READS IS OF BULK AT MOST 1048576: true; the input reads as it did. -/
def varintIsUptoRow : OpenClaim := { program := "ytenbbfibampakaa", sum := "ae0aa3f7ca52afcdf3adee1379abc0d197cf0a33ac509f381c5a39f3280bad4a", func := "pentrough/pentroughlaw02.VarintIs", spec := "varintIs", apart := false, narrowed := true }
def VarintIsUptoSaid : Prop := varintIsUptoRow.holds Try.pinned (OpenSpec.upto varintIsSpec)

/-- 'pentroughlaw02.VarintBack', WHERE WHAT IT READS IS OF BULK AT MOST 1048576: true; the input reads as it did. -/
def varintBackUptoRow : OpenClaim := { program := "ytenbbfibampakaa", sum := "ae0aa3f7ca52afcdf3adee1379abc0d197cf0a33ac509f381c5a39f3280bad4a", func := "pentrough/pentroughlaw02.VarintBack", spec := "varintBack", apart := false, narrowed := true }
def VarintBackUptoSaid : Prop := varintBackUptoRow.holds Try.pinned (OpenSpec.upto varintBackSpec)

/-- 'pentroughlaw02.VarintOnce', WHERE WHAT IT READS IS OF BULK AT MOST 1048576: true; the input reads as it did. -/
def varintOnceUptoRow : OpenClaim := { program := "ytenbbfibampakaa", sum := "ae0aa3f7ca52afcdf3adee1379abc0d197cf0a33ac509f381c5a39f3280bad4a", func := "pentrough/pentroughlaw02.VarintOnce", spec := "varintOnce", apart := false, narrowed := true }
def VarintOnceUptoSaid : Prop := varintOnceUptoRow.holds Try.pinned (OpenSpec.upto varintOnceSpec)

/-- 'pentroughlaw02.VarintOrder', WHERE WHAT IT READS IS OF BULK AT MOST 1048576: true; the input reads as it did. -/
def varintOrderUptoRow : OpenClaim := { program := "ytenbbfibampakaa", sum := "ae0aa3f7ca52afcdf3adee1379abc0d197cf0a33ac509f381c5a39f3280bad4a", func := "pentrough/pentroughlaw02.VarintOrder", spec := "varintOrder", apart := false, narrowed := true }
def VarintOrderUptoSaid : Prop := varintOrderUptoRow.holds Try.pinned (OpenSpec.upto varintOrderSpec)

/-- 'pentroughlaw02.VarintDigits', WHERE WHAT IT READS IS OF BULK AT MOST 1048576: true; the input reads as it did. -/
def varintDigitsUptoRow : OpenClaim := { program := "ytenbbfibampakaa", sum := "ae0aa3f7ca52afcdf3adee1379abc0d197cf0a33ac509f381c5a39f3280bad4a", func := "pentrough/pentroughlaw02.VarintDigits", spec := "varintDigits", apart := false, narrowed := true }
def VarintDigitsUptoSaid : Prop := varintDigitsUptoRow.holds Try.pinned (OpenSpec.upto varintDigitsSpec)

end Rows
end Go.Proofs.Ytenbbfibampakaa
