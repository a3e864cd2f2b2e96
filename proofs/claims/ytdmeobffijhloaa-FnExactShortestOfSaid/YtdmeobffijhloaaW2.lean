
/- bits.Mul: the shelf's laying at this program, in plain words (printed by the kit's lay-plain). -/

import Derived.Shelf.Bits.Mul64

import Derived.Test.YtdmeobffijhloaaProg
set_option linter.unusedVariables false
set_option linter.unusedSimpArgs false

namespace Go.Proofs.Ytdmeobffijhloaa

open Go.Shelf

def mulA_ren : Go.Shelf.Ren := ⟨fun | 212 => 41 | 263 => 44 | 264 => 45 | n => n, fun | 46 => 63 | 51 => 68 | 146 => 69 | 53 => 71 | 148 => 72 | n => n, fun | n => n⟩
theorem mulA : Go.Proofs.Lays.n212 Try.prog mulA_ren := {
  mixed := by kernel_rfl
  f212 := Try.func41.trans (congrArg some (by kernel_rfl))
  f263 := Try.func44.trans (congrArg some (by kernel_rfl))
  f264 := Try.func45.trans (congrArg some (by kernel_rfl))
  t46 := Try.underlying63
  a46 := Try.isAgg63
  z46 := Try.sizeOf63
  v46 := Try.zeroValue63
  t51 := Try.underlying68
  a51 := Try.isAgg68
  z51 := Try.sizeOf68
  v51 := Try.zeroValue68
  t53 := Try.underlying71
  a53 := Try.isAgg71
  z53 := Try.sizeOf71
  v53 := Try.zeroValue71
  t146 := Try.underlying69
  a146 := Try.isAgg69
  z146 := Try.sizeOf69
  v146 := Try.zeroValue69
  t148 := Try.underlying72
  a148 := Try.isAgg72
  z148 := Try.sizeOf72
  v148 := Try.zeroValue72 }
end Go.Proofs.Ytdmeobffijhloaa
