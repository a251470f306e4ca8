/- Lemmas for this claim's walks: cut by this work's own tool out of the words that the kit's print lays, to what the claim uses; no condition. -/
import Derived.Test.YtialimbdkokdcaaDoorWWords
import Derived.Test.YtialimbdkokdcaaDoorWLast
namespace Go.Proofs.YtialimbdkokdcaaDoorW.PrintWords
open Go.RowKit
namespace Kd
section
variable {α : Type} {d : Kd α} {e base g o n cap : Nat} {ok okp : Nat → Prop} {w W : World} {v : Value} {xs : List α}
end
section
variable {α : Type} {enc : α → Value} {h1 : ∀ x, (enc x).oneCell' = true} {e base g o n cap : Nat} {ok : Nat → Prop} {W : World} {xs : List α}
end
end Kd
end Go.Proofs.YtialimbdkokdcaaDoorW.PrintWords
