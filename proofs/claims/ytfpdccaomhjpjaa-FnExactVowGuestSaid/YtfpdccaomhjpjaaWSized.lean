/- Words of a printed walk: those of the kit's print that this claim's texts name. -/
import Derived.SizedLaws
import Derived.ChangeSlices
namespace Go.Proofs.YtfpdccaomhjpjaaW.PrintWords
open Go.ChangeShapes Go.WideShapes
end Go.Proofs.YtfpdccaomhjpjaaW.PrintWords
