/- A string made of bytes that are read. -/
import Derived.Test.YtocmnggcbpdnjaaWMore
namespace Go.Proofs.Ytocmnggcbpdnjaa
open Go.RowKit Go.Proofs.YtocmnggcbpdnjaaW.PrintWords
theorem v_string {P : Program} {w : World} {src dst e e' b : Nat} {ok : Nat → Prop} {v : Value} {xs : List Int} (hs : P.underlying src = some (.slice e)) (he : P.underlying e = some (.int .u8)) (hd : P.underlying dst = some .string)
    (h : Kd.V (Kd.int .u8) e' w b ok v xs) : (convert src dst v).run P w = .ok (.string (strOfNums xs)) w := by
  obtain ⟨A, c, rfl, _, hF⟩ := h
  exact Kd.C_string hs he hd (Kd.F_now hF)
end Go.Proofs.Ytocmnggcbpdnjaa
