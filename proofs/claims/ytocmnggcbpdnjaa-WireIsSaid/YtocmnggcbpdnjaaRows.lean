/-
  No cell of these rows narrows 'for every input' (looked for: loops, veiled, ifaces, maps, wideKeys, modest, calm, conditions, laid).
  DERIVED. THE GIVEN ROWS OF THIS SEAT. 6 by the template 'for every input the law returns true; each argument reads behind the call as it read before'; 0 by the template 'total and deterministic' (their statements: YtocmnggcbpdnjaaTotals.lean).
  GIVEN WITH THE SEED: the statements are not yours to turn. If you find one false, say at which input.
  Laid BY PROGRAM, IN A SANDBOX (cutbox-rows.mjs): the forced cells as the released guide's own fill.sh prints them over the translation 6f31fdef6869e9ef… (all of the seat's roots in one cut). By AI agents, Wed Nov 11 2026. No macro, syntax, notation, axiom, sorry.
-/
import Derived.Test.YtocmnggcbpdnjaaChecked
import GoSem.Claim
import GoSem.ClaimJoined
import GoSem.ClaimMapViews
import Derived.JoinedTies
import Derived.KernelRfl
namespace Go.Proofs.Ytocmnggcbpdnjaa
/- THE CELL 'sum', in the pinned program and in every row, IS THE sha256 OF THE DUMP (.gsa) THAT YtocmnggcbpdnjaaProg.lean LOADS. Nothing in Lean hashes anything: it is a label: what it is worth is what the hold of that sum in a sandbox is worth. -/
noncomputable def Try.pinned : Pinned := { name := "ytocmnggcbpdnjaa", sum := "6f31fdef6869e9effcec2294d72cbb40dea391a5024f607378c7d574e5675aa7", checked := Try.checked }
namespace Rows
def none {H : Type} : Left H := { results := [], args := [] }

/-- 'pentroughlaw19.WireGrants': WHATEVER THE INPUT: true; the input reads as it did. -/
def wireGrantsSpec : ChangeSpec := { name := "wireGrants", fn := fun _ => fun
  | [d] => { results := [.lit (.bool true)], args := [d] }
  | _ => none }
def wireGrantsRow : OpenClaim := { program := "ytocmnggcbpdnjaa", sum := "6f31fdef6869e9effcec2294d72cbb40dea391a5024f607378c7d574e5675aa7", func := "pentrough/pentroughlaw19.WireGrants", spec := "wireGrants", apart := false }
def WireGrantsSaid : Prop := wireGrantsRow.holds Try.pinned (OpenSpec.ofChange wireGrantsSpec)

/-- ITS FALSE NEIGHBOUR: 'it returns false'. Refute it at one input. -/
def wireGrantsWrong : ChangeSpec := { name := "wireGrants", fn := fun _ => fun
  | [d] => { results := [.lit (.bool false)], args := [d] }
  | _ => none }
def WireGrantsWrongFalsely : Prop := wireGrantsRow.holds Try.pinned (OpenSpec.ofChange wireGrantsWrong)

/-- 'pentroughlaw19.WireApart': WHATEVER THE INPUT: true; the input reads as it did. -/
def wireApartSpec : ChangeSpec := { name := "wireApart", fn := fun _ => fun
  | [d1, d2, d3] => { results := [.lit (.bool true)], args := [d1, d2, d3] }
  | _ => none }
def wireApartRow : OpenClaim := { program := "ytocmnggcbpdnjaa", sum := "6f31fdef6869e9effcec2294d72cbb40dea391a5024f607378c7d574e5675aa7", func := "pentrough/pentroughlaw19.WireApart", spec := "wireApart", apart := false }
def WireApartSaid : Prop := wireApartRow.holds Try.pinned (OpenSpec.ofChange wireApartSpec)

/-- ITS FALSE NEIGHBOUR: 'it returns false'. Refute it at one input. -/
def wireApartWrong : ChangeSpec := { name := "wireApart", fn := fun _ => fun
  | [d1, d2, d3] => { results := [.lit (.bool false)], args := [d1, d2, d3] }
  | _ => none }
def WireApartWrongFalsely : Prop := wireApartRow.holds Try.pinned (OpenSpec.ofChange wireApartWrong)

/-- 'pentroughlaw19.WireParts': WHATEVER THE INPUT: true; the input reads as it did. -/
def wirePartsSpec : ChangeSpec := { name := "wireParts", fn := fun _ => fun
  | [d1, d2, d3, d4] => { results := [.lit (.bool true)], args := [d1, d2, d3, d4] }
  | _ => none }
def wirePartsRow : OpenClaim := { program := "ytocmnggcbpdnjaa", sum := "6f31fdef6869e9effcec2294d72cbb40dea391a5024f607378c7d574e5675aa7", func := "pentrough/pentroughlaw19.WireParts", spec := "wireParts", apart := false }
def WirePartsSaid : Prop := wirePartsRow.holds Try.pinned (OpenSpec.ofChange wirePartsSpec)

/-- ITS FALSE NEIGHBOUR: 'it returns false'. Refute it at one input. -/
def wirePartsWrong : ChangeSpec := { name := "wireParts", fn := fun _ => fun
  | [d1, d2, d3, d4] => { results := [.lit (.bool false)], args := [d1, d2, d3, d4] }
  | _ => none }
def WirePartsWrongFalsely : Prop := wirePartsRow.holds Try.pinned (OpenSpec.ofChange wirePartsWrong)

/-- 'pentroughlaw19.WireIs': WHATEVER THE INPUT: true; the input reads as it did. -/
def wireIsSpec : ChangeSpec := { name := "wireIs", fn := fun _ => fun
  | [d1, d2, d3] => { results := [.lit (.bool true)], args := [d1, d2, d3] }
  | _ => none }
def wireIsRow : OpenClaim := { program := "ytocmnggcbpdnjaa", sum := "6f31fdef6869e9effcec2294d72cbb40dea391a5024f607378c7d574e5675aa7", func := "pentrough/pentroughlaw19.WireIs", spec := "wireIs", apart := false }
def WireIsSaid : Prop := wireIsRow.holds Try.pinned (OpenSpec.ofChange wireIsSpec)

/-- ITS FALSE NEIGHBOUR: 'it returns false'. Refute it at one input. -/
def wireIsWrong : ChangeSpec := { name := "wireIs", fn := fun _ => fun
  | [d1, d2, d3] => { results := [.lit (.bool false)], args := [d1, d2, d3] }
  | _ => none }
def WireIsWrongFalsely : Prop := wireIsRow.holds Try.pinned (OpenSpec.ofChange wireIsWrong)

/-- 'pentroughlaw19.WireOrder': WHATEVER THE INPUT: true; the input reads as it did. -/
def wireOrderSpec : ChangeSpec := { name := "wireOrder", fn := fun _ => fun
  | [d] => { results := [.lit (.bool true)], args := [d] }
  | _ => none }
def wireOrderRow : OpenClaim := { program := "ytocmnggcbpdnjaa", sum := "6f31fdef6869e9effcec2294d72cbb40dea391a5024f607378c7d574e5675aa7", func := "pentrough/pentroughlaw19.WireOrder", spec := "wireOrder", apart := false }
def WireOrderSaid : Prop := wireOrderRow.holds Try.pinned (OpenSpec.ofChange wireOrderSpec)

/-- ITS FALSE NEIGHBOUR: 'it returns false'. Refute it at one input. -/
def wireOrderWrong : ChangeSpec := { name := "wireOrder", fn := fun _ => fun
  | [d] => { results := [.lit (.bool false)], args := [d] }
  | _ => none }
def WireOrderWrongFalsely : Prop := wireOrderRow.holds Try.pinned (OpenSpec.ofChange wireOrderWrong)

/-- 'pentroughlaw19.WireEnds': WHATEVER THE INPUT: true; the input reads as it did. -/
def wireEndsSpec : ChangeSpec := { name := "wireEnds", fn := fun _ => fun
  | [d1, d2] => { results := [.lit (.bool true)], args := [d1, d2] }
  | _ => none }
def wireEndsRow : OpenClaim := { program := "ytocmnggcbpdnjaa", sum := "6f31fdef6869e9effcec2294d72cbb40dea391a5024f607378c7d574e5675aa7", func := "pentrough/pentroughlaw19.WireEnds", spec := "wireEnds", apart := false }
def WireEndsSaid : Prop := wireEndsRow.holds Try.pinned (OpenSpec.ofChange wireEndsSpec)

/-- ITS FALSE NEIGHBOUR: 'it returns false'. Refute it at one input. -/
def wireEndsWrong : ChangeSpec := { name := "wireEnds", fn := fun _ => fun
  | [d1, d2] => { results := [.lit (.bool false)], args := [d1, d2] }
  | _ => none }
def WireEndsWrongFalsely : Prop := wireEndsRow.holds Try.pinned (OpenSpec.ofChange wireEndsWrong)

/- THE SECOND FORM. 'bulk': how many values and letters a reading holds, each counted each time it is reached (what is shared counts as often as it is met; a slice's spare places count too). A statement '..UptoSaid' is the law's where the arguments, and the package variables that the reading takes, are together of bulk at most 1048576: NARROWER than '..Said'. Prove '..Said' where nothing that the law and all that it calls make is longer than what came in: it says more and counts as full. Else prove '..UptoSaid'. A law counts once. -/
mutual
def uptoBulk {H : Type} : DataW H → Nat
  | .lit (.string bytes) => bytes.length + 1
  | .lit _ => 1
  | .nil => 1
  | .ptr d => uptoBulk d + 1
  | .slice elems spare => uptoBulkAll elems + uptoBulkAll spare + 1
  | .agg parts => uptoBulkAll parts + 1
  | .iface _ d => uptoBulk d + 1
  | .map entries => uptoBulkEntries entries + 1
  | .held _ => 1
def uptoBulkAll {H : Type} : List (DataW H) → Nat
  | [] => 0
  | d :: r => uptoBulk d + uptoBulkAll r
def uptoBulkEntries {H : Type} : List (Lit × DataW H) → Nat
  | [] => 0
  | x :: r => uptoBulkEntry x + uptoBulkEntries r
def uptoBulkEntry {H : Type} : Lit × DataW H → Nat
  | (.string bytes, d) => bytes.length + uptoBulk d + 1
  | (_, d) => uptoBulk d + 1
 end
def uptoSmall : (H : Type) → List (DataW H) → Bool := fun _ ds => decide (uptoBulkAll ds ≤ 1048576)
def OpenSpec.upto (s : _root_.Go.ChangeSpec) : _root_.Go.OpenSpec := { _root_.Go.OpenSpec.ofChange s with cond := some uptoSmall }

/-- 'pentroughlaw19.WireGrants', WHERE WHAT IT READS IS OF BULK AT MOST 1048576: true; the input reads as it did. -/
def wireGrantsUptoRow : OpenClaim := { program := "ytocmnggcbpdnjaa", sum := "6f31fdef6869e9effcec2294d72cbb40dea391a5024f607378c7d574e5675aa7", func := "pentrough/pentroughlaw19.WireGrants", spec := "wireGrants", apart := false, narrowed := true }
def WireGrantsUptoSaid : Prop := wireGrantsUptoRow.holds Try.pinned (OpenSpec.upto wireGrantsSpec)

/-- 'pentroughlaw19.WireApart', WHERE WHAT IT READS IS OF BULK AT MOST 1048576: true; the input reads as it did. -/
def wireApartUptoRow : OpenClaim := { program := "ytocmnggcbpdnjaa", sum := "6f31fdef6869e9effcec2294d72cbb40dea391a5024f607378c7d574e5675aa7", func := "pentrough/pentroughlaw19.WireApart", spec := "wireApart", apart := false, narrowed := true }
def WireApartUptoSaid : Prop := wireApartUptoRow.holds Try.pinned (OpenSpec.upto wireApartSpec)

/-- 'pentroughlaw19.WireParts', WHERE WHAT IT READS IS OF BULK AT MOST 1048576: true; the input reads as it did. -/
def wirePartsUptoRow : OpenClaim := { program := "ytocmnggcbpdnjaa", sum := "6f31fdef6869e9effcec2294d72cbb40dea391a5024f607378c7d574e5675aa7", func := "pentrough/pentroughlaw19.WireParts", spec := "wireParts", apart := false, narrowed := true }
def WirePartsUptoSaid : Prop := wirePartsUptoRow.holds Try.pinned (OpenSpec.upto wirePartsSpec)

/-- 'pentroughlaw19.WireIs', WHERE WHAT IT READS IS OF BULK AT MOST 1048576: true; the input reads as it did. -/
def wireIsUptoRow : OpenClaim := { program := "ytocmnggcbpdnjaa", sum := "6f31fdef6869e9effcec2294d72cbb40dea391a5024f607378c7d574e5675aa7", func := "pentrough/pentroughlaw19.WireIs", spec := "wireIs", apart := false, narrowed := true }
def WireIsUptoSaid : Prop := wireIsUptoRow.holds Try.pinned (OpenSpec.upto wireIsSpec)

/-- 'pentroughlaw19.WireOrder', WHERE WHAT IT READS IS OF BULK AT MOST 1048576: true; the input reads as it did. -/
def wireOrderUptoRow : OpenClaim := { program := "ytocmnggcbpdnjaa", sum := "6f31fdef6869e9effcec2294d72cbb40dea391a5024f607378c7d574e5675aa7", func := "pentrough/pentroughlaw19.WireOrder", spec := "wireOrder", apart := false, narrowed := true }
def WireOrderUptoSaid : Prop := wireOrderUptoRow.holds Try.pinned (OpenSpec.upto wireOrderSpec)

/-- 'pentroughlaw19.WireEnds', WHERE WHAT IT READS IS OF BULK AT MOST 1048576: true; the input reads as it did. -/
def wireEndsUptoRow : OpenClaim := { program := "ytocmnggcbpdnjaa", sum := "6f31fdef6869e9effcec2294d72cbb40dea391a5024f607378c7d574e5675aa7", func := "pentrough/pentroughlaw19.WireEnds", spec := "wireEnds", apart := false, narrowed := true }
def WireEndsUptoSaid : Prop := wireEndsUptoRow.holds Try.pinned (OpenSpec.upto wireEndsSpec)

end Rows
end Go.Proofs.Ytocmnggcbpdnjaa
