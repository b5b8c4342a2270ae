/- The doors' words, as 'Doors'. -/
import Derived.Test.YtfpdccaomhjpjaaHb
import Derived.Test.YtfpdccaomhjpjaaPSCellDoorx1
import Derived.Test.YtfpdccaomhjpjaaPICellDoorx1
import Derived.Test.YtfpdccaomhjpjaaPl
set_option linter.unusedVariables false
set_option linter.unusedSimpArgs false
namespace Go.Proofs.Ytfpdccaomhjpjaa.Gv
open Go.RowKit Go.Proofs.Ytfpdccaomhjpjaa.PSCellDoor Go.Proofs.Ytfpdccaomhjpjaa.PICellDoor Go.Proofs.YtfpdccaomhjpjaaW.PrintWords Go.Proofs.YtfpdccaomhjpjaaW.PrintLast Go.Proofs.YtfpdccaomhjpjaaW.PrintMore Go.Proofs.Ytfpdccaomhjpjaa.Pl Go.Proofs.Ytfpdccaomhjpjaa.Gu
theorem low_eq (n m : Int) : spec_l1Low.f n m = some (cl n m) := by
  unfold spec_l1Low.f cl
  by_cases a : n < 0
  · rw [if_pos a, if_pos a]
  · rw [if_neg a, if_neg a]
    by_cases b : n > m
    · rw [if_pos b, if_pos b]
    · rw [if_neg b, if_neg b]
theorem spack_eq (v s : Int) : spec_CellPack.f v s = some (pack v s) := by
  unfold spec_CellPack.f; simp only [low_eq, Option.bind_some]; rw [pack_spec]
theorem sdoor_eq (a b c d : Int) : spec_CellDoor.f a b c d = some (pack (cl a 2 + 4 * cl b 7 + 32 * cl c 4095) d) := by
  unfold spec_CellDoor.f
  have := cl_lo a 2 (by omega); have := cl_hi a 2 (by omega); have := cl_lo b 7 (by omega); have := cl_hi b 7 (by omega); have := cl_lo c 4095 (by omega); have := cl_hi c 4095 (by omega)
  simp only [low_eq, Option.bind_some, spack_eq]
  rw [w64 (n := 4 * cl b 7) (by omega) (by omega), w64 (n := 32 * cl c 4095) (by omega) (by omega), w64 (n := cl a 2 + 4 * cl b 7) (by omega) (by omega), w64 (by omega) (by omega)]
theorem clamp_eq (n m : Int) (h : 0 ≤ m) : impl_clamp.f n m = some (cl n m) := by
  unfold impl_clamp.f; rw [cl_mx n m h]
theorem ipack_eq (v s : Int) : impl_CellPack.f v s = some (pack v s) := by
  unfold impl_CellPack.f; rw [clamp_eq _ _ (by omega), clamp_eq _ _ (by omega)]; simp only [Option.bind_some]; rw [pack_impl]
theorem idoor_eq (a b c d : Int) : impl_CellDoor.f a b c d = some (pack (cl a 2 + 4 * cl b 7 + 32 * cl c 4095) d) := by
  unfold impl_CellDoor.f
  have := cl_lo a 2 (by omega); have := cl_hi a 2 (by omega); have := cl_lo b 7 (by omega); have := cl_hi b 7 (by omega); have := cl_lo c 4095 (by omega); have := cl_hi c 4095 (by omega)
  simp only [clamp_eq _ 2 (by omega), clamp_eq _ 7 (by omega), clamp_eq _ 4095 (by omega), Option.bind_some, ipack_eq]
  rw [w64 (n := 4 * cl b 7) (by omega) (by omega), w64 (n := 32 * cl c 4095) (by omega) (by omega), w64 (n := cl a 2 + 4 * cl b 7) (by omega) (by omega), w64 (by omega) (by omega)]

def dv (s e q : Int) : Int := pack (cl 1 2 + 4 * cl s 7 + 32 * cl e 4095) q
theorem doors28 : Doors 28 dv := fun s e q w => (spec_CellDoor.calls 1 s e q _ w (sdoor_eq 1 s e q)).mono fun x w' h => ⟨h.1, h.2.below⟩
theorem doors58 : Doors 58 dv := fun s e q w => impl_CellDoor.calls 1 s e q _ w (idoor_eq 1 s e q)
theorem chk_len (l : List Int) (h : (chk l).2.2.2 = true) : 2 < l.length := by
  rcases chk_cases l with q | ⟨a, b, c, q, hp, hn⟩
  · rw [q] at h; cases h
  · unfold pok at hp; unfold hsize at hn; omega
end Go.Proofs.Ytfpdccaomhjpjaa.Gv
