/- A string made of bytes that are read. -/
import Derived.Test.YtneomcnfbnfjbaaWMore
import Derived.Test.YtneomcnfbnfjbaaWFootNe
namespace Go.Proofs.Ytneomcnfbnfjbaa
open Go.RowKit Go.Proofs.YtneomcnfbnfjbaaW.PrintWords
theorem v_string {P : Program} {w : World} {src dst e e' b : Nat} {ok : Nat → Prop} {v : Value} {xs : List Int} (hs : P.underlying src = some (.slice e)) (he : P.underlying e = some (.int .u8)) (hd : P.underlying dst = some .string)
    (h : Kd.V (Kd.int .u8) e' w b ok v xs) : (convert src dst v).run P w = .ok (.string (strOfNums xs)) w := by
  obtain ⟨A, c, rfl, _, hF⟩ := h
  exact Kd.C_string hs he hd (Kd.F_now hF)
end Go.Proofs.Ytneomcnfbnfjbaa
namespace Go.Proofs.YtneomcnfbnfjbaaW.PrintWords.Kd
/-- A shared row that is not empty lies in no block that it is apart from. -/
theorem V_away {α : Type} {d : Kd α} {e b : Nat} {w : World} {ok : Nat → Prop} {ad : Addr} {n c g : Nat} {xs : List α} (h : V d e w b ok (.slice (some ad) n c) xs) (hok : ∀ k, ok k → k ≠ g) (hn : (0 : Int) < n) (hs : 0 < d.sz := by decide) : some g ≠ (Value.slice (some ad) n c).ownBlock := by
  intro he
  have h1 := F_in (V_F h) rfl (by omega) hs
  simp only [Value.ownBlock, Option.some.injEq] at he
  exact hok _ h1 he.symm
theorem V_block {α : Type} {d : Kd α} {e b : Nat} {w : World} {ok : Nat → Prop} {ad : Addr} {n c g : Nat} {xs : List α} (h : V d e w b ok (.slice (some ad) n c) xs) (hok : ∀ k, ok k → k ≠ g) (hn : (0 : Int) < n) (hs : 0 < d.sz := by decide) : ad.block ≠ g :=
  hok _ (F_in (V_F h) rfl (by omega) hs)
end Go.Proofs.YtneomcnfbnfjbaaW.PrintWords.Kd
