
import Derived.Test.YtdmeobffijhloaaProg

import Derived.Test.YtdmeobffijhloaaF0

import Derived.Deep.QuietTactic

import Derived.BigQuiet

import Derived.Deep.RegionHeld3

import Derived.Deep.DeepCutAuto

import Derived.KernelRfl

import Derived.Shelf.Abstract
set_option linter.unusedVariables false
set_option linter.unusedSimpArgs false

namespace Go.Proofs.Ytdmeobffijhloaa

open Go.RowKit

end Go.Proofs.Ytdmeobffijhloaa
