/- FnCell: a region of the law's own, by itself. -/
import Derived.Test.YtgeeaieapkfnoaaFnCellPl
import Derived.Test.YtgeeaieapkfnoaaSt0
set_option linter.unusedVariables false
set_option linter.unusedSimpArgs false
namespace Go.Proofs.Ytgeeaieapkfnoaa.PFnCell
open Go.RowKit Go.Proofs.YtgeeaieapkfnoaaW.PrintWords Go.Proofs.YtgeeaieapkfnoaaW.PrintLast Go.Proofs.YtgeeaieapkfnoaaW.PrintMore Go.Proofs.Ytgeeaieapkfnoaa.Pl Go.Proofs.Ytgeeaieapkfnoaa.Cl Go.Proofs.Ytgeeaieapkfnoaa.St0

def regionOf (n : Nat) : Code → Option Code
  | .region i ops d => if i == n then some (.region i ops d) else none
  | .seq a b => match regionOf n a with
    | some c => some c
    | none => regionOf n b
  | .block _ c => regionOf n c
  | .cond _ a b => match regionOf n a with
    | some c => some c
    | none => regionOf n b
  | _ => none
noncomputable def R16 : Code := ((Try.f10.body.bind (regionOf 16)).getD .skip)
end Go.Proofs.Ytgeeaieapkfnoaa.PFnCell
