/- Contracts: the impl's side: isCached, cached. -/
import Derived.Test.YtfnpjdgjceiklaaGreatDoorKI1
namespace Go.Proofs.YtfnpjdgjceiklaaGreatDoor
open Go.RowKit

set_option maxHeartbeats 1000000 in
theorem isCached_c (x : Kx.Cached) (w : World) : Calls Tryz.prog 150 #[cachedV x] w fun e w' => e = .returned (.bool (Kx.cachedOk x)) ∧ Below w.heap.size w w' := by
  have hb := Lib.hid (show Below w.heap.size w (w.alloc (.cells #[.int .i64 x.env, .int .i64 x.page, .int .i64 x.frame, .bool x.write] 123)) from (Below.refl _ _).alloc (Nat.le_refl _) _)
  have hv := Lib.hid (show Kx.cachedOk x = (Kx.inR x.env 0 2 && Kx.inR x.page 0 15 && Kx.inR x.frame 0 11) from rfl)
  unfold cachedV
  go_enter Tryz.func150, Tryz.ntmps150
  go_wp2_with fail
  refine (isEnv_c _ _).mono ?_; rintro e w' ⟨rfl, rfl⟩
  cases h1 : Kx.inR x.env 0 2
  · rw [h1] at hv
    clear h1
    go_wp2_with fail
    go_ret
    exact ⟨ret_bool (by rw [hv.out]; rfl), hb.out⟩
  · rw [h1] at hv
    clear h1
    go_wp2_with fail
    refine (isPageK_c _ _).mono ?_; rintro e w' ⟨rfl, rfl⟩
    cases h1 : Kx.inR x.page 0 15
    · rw [h1] at hv
      clear h1
      go_wp2_with fail
      go_ret
      exact ⟨ret_bool (by rw [hv.out]; rfl), hb.out⟩
    · rw [h1] at hv
      clear h1
      go_wp2_with fail
      refine (isFrame_c _ _).mono ?_; rintro e w' ⟨rfl, rfl⟩
      go_wp2_with fail
      go_ret
      exact ⟨ret_bool (by rw [hv.out]; rfl), hb.out⟩
end Go.Proofs.YtfnpjdgjceiklaaGreatDoor
