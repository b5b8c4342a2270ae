/- Words of a printed walk: those of the kit's print that this claim's texts name. -/
import Derived.Test.YtfpdccaomhjpjaaWN
namespace Go.Proofs.YtfpdccaomhjpjaaW.PrintWords
open Go.RowKit
namespace Kd
section
variable {α : Type} {d : Kd α} {W : World} {g n : Nat} {S ok : Nat → Prop} {A : Option Addr} {ad : Addr} {xs : List α}
end
end Kd
end Go.Proofs.YtfpdccaomhjpjaaW.PrintWords
