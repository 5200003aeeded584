/- Words that the walks use (lines of the print; no condition). -/
import Derived.Test.YtgbbcebjgpoioaaZFnExactHistRedoWN
namespace Go.Proofs.YtgbbcebjgpoioaaW.PrintWords
open Go.RowKit
namespace Kd
section
variable {α : Type} {d : Kd α} {W : World} {g n : Nat} {S ok : Nat → Prop} {A : Option Addr} {ad : Addr} {xs : List α}
end
end Kd
end Go.Proofs.YtgbbcebjgpoioaaW.PrintWords

