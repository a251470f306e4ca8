/- Lemmas for this claim's walks: cut by this work's own tool out of the words that the kit's print lays, to what the claim uses; no condition. -/
import Derived.Test.YtialimbdkokdcaaDoorWApart
import Derived.Test.YtialimbdkokdcaaDoorWArr
namespace Go.Proofs.YtialimbdkokdcaaDoorW.PrintWords
open Go.RowKit
section
variable {P : Program}
end
namespace Kd
section
variable {P : Program} {ops : Array Oper} {rest : List Oper} {o : Oper} {a : Act} {Q : Exit → Act → World → Prop} {Kc : Act → World → Prop} {α : Type}
end
section
variable {α : Type} {d : Kd α} {e : Nat} {w : World} {base : Nat} {ok : Nat → Prop} {v : Value} {xs : List α}
end
section
variable {P : Program} {ops : Array Oper} {rest : List Oper} {o : Oper} {a : Act} {Q : Exit → Act → World → Prop} {Kc : Act → World → Prop} {α : Type}
end
end Kd
end Go.Proofs.YtialimbdkokdcaaDoorW.PrintWords
