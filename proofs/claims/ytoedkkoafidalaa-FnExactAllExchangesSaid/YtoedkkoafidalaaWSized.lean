/- Lemmas for this claim's walks: cut by this work's own tool out of the words that the kit's print lays, to what the claim uses; no condition. -/
-- PRINTED WORDS (module Derived/Print/Sized.lean): go-gate-2's, for the rows of laws over slices: an AI agent of Go's test side, Tue Nov 17 2026; no person has read it. Lean checks it.
import Derived.SizedLaws
import Derived.ChangeSlices
namespace Go.Proofs.YtoedkkoafidalaaW.PrintWords
open Go.ChangeShapes Go.WideShapes
end Go.Proofs.YtoedkkoafidalaaW.PrintWords
