/- Lemmas for this claim's walks: cut by this work's own tool out of the words that the kit's print lays, to what the claim uses; no condition. -/
import Derived.Test.YtifkaefccghgdaaWN
namespace Go.Proofs.YtifkaefccghgdaaW.PrintWords
open Go.RowKit
namespace Kd
section
variable {α : Type} {d : Kd α} {W : World} {g n : Nat} {S ok : Nat → Prop} {A : Option Addr} {ad : Addr} {xs : List α}
end
end Kd
end Go.Proofs.YtifkaefccghgdaaW.PrintWords
