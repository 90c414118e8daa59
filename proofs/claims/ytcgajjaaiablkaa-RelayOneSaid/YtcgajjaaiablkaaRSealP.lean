/- Relay: bytes behind a parcel's mark, sum and digest, as a list. -/
import Derived.Test.YtcgajjaaiablkaaRHead2
namespace Go.Proofs.Ytcgajjaaiablkaa.RSealed
open Go.RowKit Go.Proofs.YtcgajjaaiablkaaW.PrintWords Go.Proofs.YtcgajjaaiablkaaW.PrintLast Go.Proofs.YtcgajjaaiablkaaW.PrintMore
open Go.Proofs.Ytcgajjaaiablkaa.Reader Go.Proofs.Ytcgajjaaiablkaa.ShaEnd Go.Proofs.Ytcgajjaaiablkaa.RHd Go.Proofs.Ytcgajjaaiablkaa.RHead Go.Proofs.Ytcgajjaaiablkaa.RHead2
set_option linter.unusedVariables false
set_option linter.unusedSimpArgs false

/-- Bytes behind a parcel's mark, sum and digest. -/
def signed (b : List Int) : List Int := sumOf b ++ b
def seal_ (b : List Int) : List Int := ptr4 ++ pw (tot (signed b)) 8 ++ signed b
theorem signed_length (b : List Int) : (signed b).length = 32 + b.length := by unfold signed; rw [List.length_append]; show (dig _ 32).length + _ = _; rw [dig_length]
theorem seal_length (b : List Int) : (seal_ b).length = 44 + b.length := by unfold seal_; rw [List.length_append, List.length_append, pw_length, signed_length]; show 4 + 8 + _ = _; omega
theorem bytes_app {a b : List Int} (ha : Bytes a) (hb : Bytes b) : Bytes (a ++ b) := fun c hc => by
  rcases List.mem_append.mp hc with h | h
  · exact ha c h
  · exact hb c h
theorem pw_bytes (s : Int) : ∀ i, Bytes (pw s i)
  | 0 => fun c hc => by simp [pw] at hc
  | i + 1 => bytes_app (pw_bytes s i) (fun c hc => by rw [List.mem_singleton] at hc; omega)
theorem seal_bytes (b : List Int) (hb : Bytes b) : Bytes (seal_ b) := bytes_app (bytes_app ptr4_bytes (pw_bytes _ 8)) (bytes_app (sum_bytes b) hb)
end Go.Proofs.Ytcgajjaaiablkaa.RSealed
