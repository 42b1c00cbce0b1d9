/-
  No cell of these rows narrows 'for every input' (looked for: loops, veiled, ifaces, maps, wideKeys, modest, calm, conditions, laid).
  DERIVED. THE GIVEN ROWS OF THIS SEAT. 6 by the template 'for every input the law returns true; each argument reads behind the call as it read before'; 0 by the template 'total and deterministic' (their statements: YtneomcnfbnfjbaaTotals.lean).
  GIVEN WITH THE SEED: the statements are not yours to turn. If you find one false, say at which input.
  Laid BY PROGRAM, IN A SANDBOX (cutbox-rows.mjs): the forced cells as the released guide's own fill.sh prints them over the translation fac47d9d414eab36… (all of the seat's roots in one cut). By AI agents, Wed Nov 11 2026. No macro, syntax, notation, axiom, sorry.
-/
import Derived.Test.YtneomcnfbnfjbaaChecked
import GoSem.Claim
import GoSem.ClaimJoined
import GoSem.ClaimMapViews
import Derived.JoinedTies
import Derived.KernelRfl
namespace Go.Proofs.Ytneomcnfbnfjbaa
/- THE CELL 'sum', in the pinned program and in every row, IS THE sha256 OF THE DUMP (.gsa) THAT YtneomcnfbnfjbaaProg.lean LOADS. Nothing in Lean hashes anything: it is a label: what it is worth is what the hold of that sum in a sandbox is worth. -/
noncomputable def Try.pinned : Pinned := { name := "ytneomcnfbnfjbaa", sum := "fac47d9d414eab3662f8bbe6a4f7d3cdb37fe321777a1642b9a10fb66695ab46", checked := Try.checked }
namespace Rows
def none {H : Type} : Left H := { results := [], args := [] }

/-- 'pentroughlaw16.ChansRoom': WHATEVER THE INPUT: true; the input reads as it did. -/
def chansRoomSpec : ChangeSpec := { name := "chansRoom", fn := fun _ => fun
  | [d1, d2] => { results := [.lit (.bool true)], args := [d1, d2] }
  | _ => none }
def chansRoomRow : OpenClaim := { program := "ytneomcnfbnfjbaa", sum := "fac47d9d414eab3662f8bbe6a4f7d3cdb37fe321777a1642b9a10fb66695ab46", func := "pentrough/pentroughlaw16.ChansRoom", spec := "chansRoom", unfollowed := true, recurses := true, apart := false }
def ChansRoomSaid : Prop := chansRoomRow.holds Try.pinned (OpenSpec.ofChange chansRoomSpec)

/-- ITS FALSE NEIGHBOUR: 'it returns false'. Refute it at one input. -/
def chansRoomWrong : ChangeSpec := { name := "chansRoom", fn := fun _ => fun
  | [d1, d2] => { results := [.lit (.bool false)], args := [d1, d2] }
  | _ => none }
def ChansRoomWrongFalsely : Prop := chansRoomRow.holds Try.pinned (OpenSpec.ofChange chansRoomWrong)

/-- 'pentroughlaw16.ChansOrder': WHATEVER THE INPUT: true; the input reads as it did. -/
def chansOrderSpec : ChangeSpec := { name := "chansOrder", fn := fun _ => fun
  | [d] => { results := [.lit (.bool true)], args := [d] }
  | _ => none }
def chansOrderRow : OpenClaim := { program := "ytneomcnfbnfjbaa", sum := "fac47d9d414eab3662f8bbe6a4f7d3cdb37fe321777a1642b9a10fb66695ab46", func := "pentrough/pentroughlaw16.ChansOrder", spec := "chansOrder", unfollowed := true, recurses := true, apart := false }
def ChansOrderSaid : Prop := chansOrderRow.holds Try.pinned (OpenSpec.ofChange chansOrderSpec)

/-- ITS FALSE NEIGHBOUR: 'it returns false'. Refute it at one input. -/
def chansOrderWrong : ChangeSpec := { name := "chansOrder", fn := fun _ => fun
  | [d] => { results := [.lit (.bool false)], args := [d] }
  | _ => none }
def ChansOrderWrongFalsely : Prop := chansOrderRow.holds Try.pinned (OpenSpec.ofChange chansOrderWrong)

/-- 'pentroughlaw16.ChansKeeps': WHATEVER THE INPUT: true; the input reads as it did. -/
def chansKeepsSpec : ChangeSpec := { name := "chansKeeps", fn := fun _ => fun
  | [d1, d2] => { results := [.lit (.bool true)], args := [d1, d2] }
  | _ => none }
def chansKeepsRow : OpenClaim := { program := "ytneomcnfbnfjbaa", sum := "fac47d9d414eab3662f8bbe6a4f7d3cdb37fe321777a1642b9a10fb66695ab46", func := "pentrough/pentroughlaw16.ChansKeeps", spec := "chansKeeps", unfollowed := true, recurses := true, apart := false }
def ChansKeepsSaid : Prop := chansKeepsRow.holds Try.pinned (OpenSpec.ofChange chansKeepsSpec)

/-- ITS FALSE NEIGHBOUR: 'it returns false'. Refute it at one input. -/
def chansKeepsWrong : ChangeSpec := { name := "chansKeeps", fn := fun _ => fun
  | [d1, d2] => { results := [.lit (.bool false)], args := [d1, d2] }
  | _ => none }
def ChansKeepsWrongFalsely : Prop := chansKeepsRow.holds Try.pinned (OpenSpec.ofChange chansKeepsWrong)

/-- 'pentroughlaw16.ChansIs': WHATEVER THE INPUT: true; the input reads as it did. -/
def chansIsSpec : ChangeSpec := { name := "chansIs", fn := fun _ => fun
  | [d1, d2] => { results := [.lit (.bool true)], args := [d1, d2] }
  | _ => none }
def chansIsRow : OpenClaim := { program := "ytneomcnfbnfjbaa", sum := "fac47d9d414eab3662f8bbe6a4f7d3cdb37fe321777a1642b9a10fb66695ab46", func := "pentrough/pentroughlaw16.ChansIs", spec := "chansIs", unfollowed := true, recurses := true, apart := false }
def ChansIsSaid : Prop := chansIsRow.holds Try.pinned (OpenSpec.ofChange chansIsSpec)

/-- ITS FALSE NEIGHBOUR: 'it returns false'. Refute it at one input. -/
def chansIsWrong : ChangeSpec := { name := "chansIs", fn := fun _ => fun
  | [d1, d2] => { results := [.lit (.bool false)], args := [d1, d2] }
  | _ => none }
def ChansIsWrongFalsely : Prop := chansIsRow.holds Try.pinned (OpenSpec.ofChange chansIsWrong)

/-- 'pentroughlaw16.ChansClosed': WHATEVER THE INPUT: true; the input reads as it did. -/
def chansClosedSpec : ChangeSpec := { name := "chansClosed", fn := fun _ => fun
  | [d1, d2] => { results := [.lit (.bool true)], args := [d1, d2] }
  | _ => none }
def chansClosedRow : OpenClaim := { program := "ytneomcnfbnfjbaa", sum := "fac47d9d414eab3662f8bbe6a4f7d3cdb37fe321777a1642b9a10fb66695ab46", func := "pentrough/pentroughlaw16.ChansClosed", spec := "chansClosed", unfollowed := true, recurses := true, apart := false }
def ChansClosedSaid : Prop := chansClosedRow.holds Try.pinned (OpenSpec.ofChange chansClosedSpec)

/-- ITS FALSE NEIGHBOUR: 'it returns false'. Refute it at one input. -/
def chansClosedWrong : ChangeSpec := { name := "chansClosed", fn := fun _ => fun
  | [d1, d2] => { results := [.lit (.bool false)], args := [d1, d2] }
  | _ => none }
def ChansClosedWrongFalsely : Prop := chansClosedRow.holds Try.pinned (OpenSpec.ofChange chansClosedWrong)

/-- 'pentroughlaw16.ChansPass': WHATEVER THE INPUT: true; the input reads as it did. -/
def chansPassSpec : ChangeSpec := { name := "chansPass", fn := fun _ => fun
  | [d1, d2] => { results := [.lit (.bool true)], args := [d1, d2] }
  | _ => none }
def chansPassRow : OpenClaim := { program := "ytneomcnfbnfjbaa", sum := "fac47d9d414eab3662f8bbe6a4f7d3cdb37fe321777a1642b9a10fb66695ab46", func := "pentrough/pentroughlaw16.ChansPass", spec := "chansPass", unfollowed := true, recurses := true, apart := false }
def ChansPassSaid : Prop := chansPassRow.holds Try.pinned (OpenSpec.ofChange chansPassSpec)

/-- ITS FALSE NEIGHBOUR: 'it returns false'. Refute it at one input. -/
def chansPassWrong : ChangeSpec := { name := "chansPass", fn := fun _ => fun
  | [d1, d2] => { results := [.lit (.bool false)], args := [d1, d2] }
  | _ => none }
def ChansPassWrongFalsely : Prop := chansPassRow.holds Try.pinned (OpenSpec.ofChange chansPassWrong)

/- THE SECOND FORM. 'bulk': how many values and letters a reading holds, each counted each time it is reached (what is shared counts as often as it is met; a slice's spare places count too). A statement '..UptoSaid' is the law's where the arguments, and the package variables that the reading takes, are together of bulk at most 1048576: NARROWER than '..Said'. Prove '..Said' where nothing that the law and all that it calls make is longer than what came in: it says more and counts as full. Else prove '..UptoSaid'. A law counts once. -/
mutual
def uptoBulk {H : Type} : DataW H → Nat
  | .lit (.string bytes) => bytes.length + 1
  | .lit _ => 1
  | .nil => 1
  | .ptr d => uptoBulk d + 1
  | .slice elems spare => uptoBulkAll elems + uptoBulkAll spare + 1
  | .agg parts => uptoBulkAll parts + 1
  | .iface _ d => uptoBulk d + 1
  | .map entries => uptoBulkEntries entries + 1
  | .held _ => 1
def uptoBulkAll {H : Type} : List (DataW H) → Nat
  | [] => 0
  | d :: r => uptoBulk d + uptoBulkAll r
def uptoBulkEntries {H : Type} : List (Lit × DataW H) → Nat
  | [] => 0
  | x :: r => uptoBulkEntry x + uptoBulkEntries r
def uptoBulkEntry {H : Type} : Lit × DataW H → Nat
  | (.string bytes, d) => bytes.length + uptoBulk d + 1
  | (_, d) => uptoBulk d + 1
 end
def uptoSmall : (H : Type) → List (DataW H) → Bool := fun _ ds => decide (uptoBulkAll ds ≤ 1048576)
def OpenSpec.upto (s : _root_.Go.ChangeSpec) : _root_.Go.OpenSpec := { _root_.Go.OpenSpec.ofChange s with cond := some uptoSmall }

/-- 'pentroughlaw16.ChansRoom', WHERE WHAT IT READS IS OF BULK AT MOST 1048576: true; the input reads as it did. -/
def chansRoomUptoRow : OpenClaim := { program := "ytneomcnfbnfjbaa", sum := "fac47d9d414eab3662f8bbe6a4f7d3cdb37fe321777a1642b9a10fb66695ab46", func := "pentrough/pentroughlaw16.ChansRoom", spec := "chansRoom", unfollowed := true, recurses := true, apart := false, narrowed := true }
def ChansRoomUptoSaid : Prop := chansRoomUptoRow.holds Try.pinned (OpenSpec.upto chansRoomSpec)

/-- 'pentroughlaw16.ChansOrder', WHERE WHAT IT READS IS OF BULK AT MOST 1048576: true; the input reads as it did. -/
def chansOrderUptoRow : OpenClaim := { program := "ytneomcnfbnfjbaa", sum := "fac47d9d414eab3662f8bbe6a4f7d3cdb37fe321777a1642b9a10fb66695ab46", func := "pentrough/pentroughlaw16.ChansOrder", spec := "chansOrder", unfollowed := true, recurses := true, apart := false, narrowed := true }
def ChansOrderUptoSaid : Prop := chansOrderUptoRow.holds Try.pinned (OpenSpec.upto chansOrderSpec)

/-- 'pentroughlaw16.ChansKeeps', WHERE WHAT IT READS IS OF BULK AT MOST 1048576: true; the input reads as it did. -/
def chansKeepsUptoRow : OpenClaim := { program := "ytneomcnfbnfjbaa", sum := "fac47d9d414eab3662f8bbe6a4f7d3cdb37fe321777a1642b9a10fb66695ab46", func := "pentrough/pentroughlaw16.ChansKeeps", spec := "chansKeeps", unfollowed := true, recurses := true, apart := false, narrowed := true }
def ChansKeepsUptoSaid : Prop := chansKeepsUptoRow.holds Try.pinned (OpenSpec.upto chansKeepsSpec)

/-- 'pentroughlaw16.ChansIs', WHERE WHAT IT READS IS OF BULK AT MOST 1048576: true; the input reads as it did. -/
def chansIsUptoRow : OpenClaim := { program := "ytneomcnfbnfjbaa", sum := "fac47d9d414eab3662f8bbe6a4f7d3cdb37fe321777a1642b9a10fb66695ab46", func := "pentrough/pentroughlaw16.ChansIs", spec := "chansIs", unfollowed := true, recurses := true, apart := false, narrowed := true }
def ChansIsUptoSaid : Prop := chansIsUptoRow.holds Try.pinned (OpenSpec.upto chansIsSpec)

/-- 'pentroughlaw16.ChansClosed', WHERE WHAT IT READS IS OF BULK AT MOST 1048576: true; the input reads as it did. -/
def chansClosedUptoRow : OpenClaim := { program := "ytneomcnfbnfjbaa", sum := "fac47d9d414eab3662f8bbe6a4f7d3cdb37fe321777a1642b9a10fb66695ab46", func := "pentrough/pentroughlaw16.ChansClosed", spec := "chansClosed", unfollowed := true, recurses := true, apart := false, narrowed := true }
def ChansClosedUptoSaid : Prop := chansClosedUptoRow.holds Try.pinned (OpenSpec.upto chansClosedSpec)

/-- 'pentroughlaw16.ChansPass', WHERE WHAT IT READS IS OF BULK AT MOST 1048576: true; the input reads as it did. -/
def chansPassUptoRow : OpenClaim := { program := "ytneomcnfbnfjbaa", sum := "fac47d9d414eab3662f8bbe6a4f7d3cdb37fe321777a1642b9a10fb66695ab46", func := "pentrough/pentroughlaw16.ChansPass", spec := "chansPass", unfollowed := true, recurses := true, apart := false, narrowed := true }
def ChansPassUptoSaid : Prop := chansPassUptoRow.holds Try.pinned (OpenSpec.upto chansPassSpec)

end Rows
end Go.Proofs.Ytneomcnfbnfjbaa
