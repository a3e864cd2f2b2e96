
import Derived.Test.YtkifpligpobiaaaK2
set_option linter.unusedVariables false
set_option linter.unusedSimpArgs false

namespace Go.Proofs.Ytkifpligpobiaaa

open Go.RowKit


set_option maxRecDepth 20000 in
set_option maxHeartbeats 1000000 in
theorem numbers1_any (b cnt n i j x pm pr : Nat) (M : Sqr) (hn : n ≤ 32) (hi : i < n) (hj : j < n) (hc : cnt < 1048576) (w : World) (hm : MapV w b cnt n M) (c0 : w.cell? ⟨pm, 0, none⟩ = some (.map (some b))) (c1 : w.cell? ⟨pr, 0, none⟩ = some (.int .i64 i)) :
    Calls Try.prog 133 #[.int .i64 j, .float .f32 x, .pointer (some ⟨pm, 0, none⟩), .pointer (some ⟨pr, 0, none⟩)] w fun e w' => e = .returned (.tuple #[]) ∧ MapV w' b (cnt + 1) n (updM M i j (some (c32 x))) ∧ w.grownBy w' (some b) := by
  obtain ⟨D, ho, h1, h2⟩ := hm
  obtain ⟨w1, hrun, ho1, hg1⟩ := ho.update (t := 92) place_law Try.underlying92 (by unfold maxLen; omega) (kp_key (nat_wf (i := i) (by omega)) (nat_wf (i := j) (by omega))) (show fltR (.float .f32 x) = some (.lit (.float .f32 x), []) from rfl)
  simp only [placeV] at hrun
  go_enter Try.func133, Try.ntmps133
  go_upto_region 1 with (fail)
  go_wp2_with fail
  refine bodyPost_end (v := .tuple #[]) (by simp only [results, Try.results133]; simp [go_sem]) rfl ⟨rfl, ?_, hg1⟩
  exact MapV.put hn hi hj x (ho.isMap) h1 h2 ho1

end Go.Proofs.Ytkifpligpobiaaa
