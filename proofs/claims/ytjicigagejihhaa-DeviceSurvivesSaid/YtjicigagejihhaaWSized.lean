-- The words that this seat's texts use, out of what the kit's print program wrote (wip/prune.py).
-- PRINTED WORDS (module Derived/Print/Sized.lean): go-gate-2's, for the rows of laws over slices: an AI agent of Go's test side, Tue Nov 17 2026; no person has read it. Lean checks it.
import Derived.SizedLaws
import Derived.ChangeSlices
namespace Go.Proofs.YtjicigagejihhaaW.PrintWords
open Go.ChangeShapes Go.WideShapes
end Go.Proofs.YtjicigagejihhaaW.PrintWords
