/- The library's strconv.Itoa in the form that the walks ask of a function: its text out of the number, where the library's table of powers of ten reads as it is laid. -/
import Derived.Test.YthbodcpgdllegaaDoorZFnValDoShelf
import Derived.Lib.AppendIntMem
import Derived.Test.YthbodcpgdllegaaDoorZFnValDoWLast
namespace Go.Proofs.YthbodcpgdllegaaDoorW.PrintWords
open Go Go.RowKit
def strconv_Itoa.f (n : Int) : Option ByteArray := if -9223372036854775808 ≤ n ∧ n ≤ 9223372036854775807 then some ⟨(Lib.itoa n).toArray⟩ else none
def TabOk (w : World) : Prop := Lib.TabBelow Tryd.prog w.heap.size w "internal/strconv.uint64pow10" .u64 Lib.pow10Tab
theorem tabAt {w w' : World} (h : TabOk w) (hb : Below w.heap.size w w') : TabOk w' := Lib.tabBelow_of_tabIs (h w' hb)
theorem strconv_Itoa.calls (a0 : Int) (r : ByteArray) (w : World) (h : strconv_Itoa.f a0 = some r) (ht : TabOk w) :
  Calls Tryd.prog 26 #[.int .i64 a0] w fun e w' => e = .returned (.string r) ∧ Below w.heap.size w w' := by
 unfold strconv_Itoa.f at h
 split at h
 ·rename_i hn
  obtain rfl := Option.some.inj h
  exact (Tryd.strconv_Itoa a0 hn.1 hn.2 w ht.here).mono fun e w' ⟨he, k, os, hw⟩ => ⟨he, hw ▸ Lib.below_grow _ _ (Nat.le_refl _) _ _⟩
 ·cases h
end Go.Proofs.YthbodcpgdllegaaDoorW.PrintWords
