/- Contracts: marks written into a slice, and held against it. -/
import Derived.Test.YtagemgimccocdaaWalkA
namespace Go.Proofs.Ytagemgimccocdaa
open Go.RowKit

set_option maxHeartbeats 400000 in
theorem markIntS_c (xs : List Int) (k0 : Int) (base : Nat) (v : Value) (w : World) (h : OI w base v xs) (h0 : 0 ≤ k0) (h1 : k0 ≤ 1099511627776) :
    Calls Try.prog 16 #[v, .int .i64 k0] w fun e w' => e = .returned (.int .i64 (k0 + xs.length)) ∧ OI w' base v (marks k0 xs.length) ∧ w.grownBy w' v.ownBlock := by
  obtain ⟨a, cap, rfl⟩ := h.ri.val
  have hl := h.2
  have H := Lib.hid h; clear h
  go_enter Try.func16, Try.ntmps16
  go_wp2_with fail
  go_loopw [1, 5] (fun k i wr => ∃ j : Nat, i = .int .i64 j ∧ j ≤ xs.length ∧ k = .int .i64 (k0 + (j : Int)) ∧ Hid (OI wr base (.slice a xs.length cap) (marks k0 j ++ xs.drop j)) ∧ Hid (w.grownBy wr (Value.slice a xs.length cap).ownBlock))
    (fun _ i _ => xs.length - (intOf i).toNat)
  case atStart => exact ⟨0, rfl, Nat.zero_le _, by simp, by simpa [Hid, marks] using H.out, World.grownBy.refl _ _⟩
  case round =>
    obtain ⟨j, rfl, hj, rfl, ho, hg⟩ := hrel
    have hlen : (marks k0 j ++ xs.drop j).length = xs.length := by rw [List.length_append, marks_length, List.length_drop]; omega
    by_cases hlt : j < xs.length
    · obtain ⟨g, cap', e, _, hc, hf⟩ := ho.out.at (k := j) (by omega)
      simp only [Value.slice.injEq] at e
      obtain ⟨rfl, he, rfl⟩ := e
      clear he
      have hlI : (j : Int) < (xs.length : Int) := by omega
      obtain ⟨ho2, hg2⟩ := ho.out.stored hlen j (k0 + (j : Int))
      rw [marks_set k0 xs j hlt] at ho2
      have hg2 : w.grownBy _ (Value.slice (some ⟨g, 0, none⟩) xs.length cap).ownBlock := grownBy_trans hg.out hg2
      have Ho2 := Lib.hid ho2; clear ho2
      have Hg2 := Lib.hid hg2
      obtain ⟨z, hz⟩ : ∃ z, wr.cell? ⟨g, j, none⟩ = some z := ⟨_, hc⟩
      clear hg2 hc hlen
      go_wp2_with fail
      go_roundw
      case rel => exact ⟨j + 1, by go_num, by omega, by first | rfl | (congr 1; omega), Ho2.out, Hg2.out⟩
      case measure => simp [intOf]; omega
    · have : j = xs.length := by omega
      subst this
      go_wp2_with fail
      go_ret
      exact ⟨rfl, by simpa using ho.out, hg.out⟩
set_option maxHeartbeats 400000 in
theorem heldIntS_c (n : Nat) (k0 : Int) (v : Value) (w : World) (h : RI w v (marks k0 n)) (h0 : 0 ≤ k0) (h1 : k0 ≤ 1099511627776) :
    Calls Try.prog 17 #[v, .int .i64 k0] w fun e w' => e = .returned (.int .i64 (k0 + n)) ∧ w = w' := by
  obtain ⟨a, cap, rfl⟩ := h.val
  have hl := h.1
  rw [marks_length] at hl ⊢
  have H := Lib.hid h; clear h
  go_enter Try.func17, Try.ntmps17
  go_wp2_with fail
  go_loop [1, 5] (fun k i => ∃ j : Nat, i = .int .i64 j ∧ j ≤ n ∧ k = .int .i64 (k0 + (j : Int))) (fun _ i => n - (intOf i).toNat)
  case atStart => exact ⟨0, rfl, Nat.zero_le _, by simp⟩
  case round =>
    obtain ⟨j, rfl, hj, rfl⟩ := hrel
    by_cases hlt : j < n
    · obtain ⟨b, off, cap', e, _, hc⟩ := H.out.at (k := j) (by rw [marks_length]; exact hlt)
      rw [marks_get] at hc
      simp only [Value.slice.injEq] at e
      obtain ⟨rfl, _, rfl⟩ := e
      have hlI : (j : Int) < (n : Int) := by omega
      have hne : ((k0 + (j : Int)) != (k0 + (j : Int))) = false := by simp
      go_wp2_with fail
      go_round
      case rel => exact ⟨j + 1, by go_num, by omega, by first | rfl | (congr 1; omega)⟩
      case measure => simp [intOf]; omega
    · have : j = n := by omega
      subst this
      go_wp2_with fail
      go_ret
      exact ⟨rfl, rfl⟩
end Go.Proofs.Ytagemgimccocdaa
