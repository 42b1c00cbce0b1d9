/- Greater numbers have no fewer bytes: the plain part, with no condition. -/
import Derived.Test.YtenbbfibampakaaQ7
namespace Go.Proofs.Ytenbbfibampakaa.Pure
open Go.RowKit Go.Proofs.Ytenbbfibampakaa.Q
theorem VarintOrder : pentroughlaw02_VarintOrder.Pure := fun a b _ _ => ⟨7, pentroughlaw02_VarintOrder.val 7 (by decide) a b⟩
end Go.Proofs.Ytenbbfibampakaa.Pure
