/- Floats as values: a kind beside the print's kinds. -/
import Derived.Test.YtclfambjkolckaaWMore
import Derived.Test.YtclfambjkolckaaWFoot
namespace Go.Proofs.YtclfambjkolckaaW.PrintWords
open Go.RowKit
namespace Kd
def flt : Kd Nat := scalar (Value.float .f64) (fun _ => rfl)
theorem heap_flt : Heap Kd.flt := ⟨fun _ h => h⟩
section
variable {w W : World} {A : Option Addr} {n : Nat}
theorem at_flt {xs : List Nat} (h : Kd.flt.C w A n xs) (i : Int) (h0 : 0 ≤ i) (h1 : i < n) : ∃ ad, A = some ad ∧ w.cell? (ad.add i.toNat) = some (.float .f64 (rdOf 0 xs i)) :=
  ReadsOf.at_ (reads_of_C (enc := Value.float .f64) (d := (0 : Nat)) (h1 := fun _ => rfl) h) i h0 h1
end
end Kd
end Go.Proofs.YtclfambjkolckaaW.PrintWords
