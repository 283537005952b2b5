/- Contracts: the place of the page that is used the latest: impl's function value, spec's l33Next and l33Latest. -/
import Derived.Test.YtdmjpikkgfedmaaWalkP
import Derived.Test.YtdmjpikkgfedmaaLatest
import Derived.Test.YtdmjpikkgfedmaaWalkX
namespace Go.Proofs.Ytdmjpikkgfedmaa
open Go.RowKit

/-- the elements from k on -/
theorem RI.drop {w : World} {b off n cap : Nat} {xs : List Int} (h : RI w (.slice (some ⟨b, off, none⟩) n cap) xs) (k : Nat) (hk : k < n) : RI w (.slice (some ⟨b, off + k, none⟩) (n - k) (cap - k)) (xs.drop k) := by
  obtain ⟨h1, h2⟩ := h
  rcases h2 with ⟨rfl, a', cap', e, hn⟩ | ⟨b', off', cap', e, hb, hc⟩
  · simp only [Value.slice.injEq] at e
    omega
  · simp only [Value.slice.injEq, Option.some.injEq, Addr.mk.injEq, and_true] at e
    obtain ⟨⟨rfl, rfl⟩, rfl, rfl⟩ := e
    refine ⟨by simp; omega, .inr ⟨b, off + k, cap - k, by simp, hb, fun i hi => ?_⟩⟩
    rw [List.getElem_drop, Nat.add_assoc]
    exact hc (k + i) (by simp at hi; omega)

set_option maxHeartbeats 1000000 in
set_option maxRecDepth 100000 in
theorem best1_c (xs : List Int) (a : Option Addr) (cap : Nat) (bx : Nat) (w0 : World) (hbx : bx < w0.heap.size) (hcell : w0.cell? ⟨bx, 0, none⟩ = some (.slice a xs.length cap)) (hL : RI w0 (.slice a xs.length cap) xs) (hco : CapOk (.slice a xs.length cap)) :
    GoesC 31 #[.pointer (some ⟨bx, 0, none⟩)] Xp.goesBest xs w0 := by
  intro held at_ v w hne hat hv hb
  have hc1 : w.cell? ⟨bx, 0, none⟩ = some (.slice a xs.length cap) := (hb.cell (p := ⟨bx, 0, none⟩) hbx).trans hcell
  obtain ⟨b, off, cap', e, hbb, _⟩ := (hL.below hb).at hat
  simp only [Value.slice.injEq] at e
  obtain ⟨rfl, _, rfl⟩ := e
  obtain ⟨hcn, hcm⟩ := hco _ _ _ rfl
  have hD := Lib.hid ((hL.below hb).drop at_ hat)
  have hl := hL.1
  have hatI : (at_ : Int) < (xs.length : Int) := by omega
  have hatle : (at_ : Int) ≤ (xs.length : Int) := by omega
  obtain ⟨t, ht⟩ : ∃ t, xs.drop at_ = t := ⟨_, rfl⟩
  rw [ht] at hD ⊢
  have htl : t.length ≤ 1099511627776 := by rw [← ht]; simp; omega
  obtain ⟨av, cv, rfl⟩ := hv.val
  have hhl := hv.1
  have Hv := Lib.hid hv
  have hpos : 0 < held.length := List.length_pos_iff.2 hne
  clear hb hcell hL hco hbb ht hv hne
  show Calls Try.prog 31 #[.slice av held.length cv, .int .i64 at_, .pointer (some ⟨bx, 0, none⟩)] w _
  go_enter Try.func31, Try.ntmps31
  go_wp2_with fail
  go_loop [6, 7, 13] (fun bv lv i => ∃ (k bst : Nat) (lat : Int), i = .int .i64 k ∧ k ≤ held.length ∧ bv = .int .i64 bst ∧ lv = .int .i64 lat ∧ Hid (∀ j (hj : j < held.length), j < k → held[j] ∈ t) ∧ -1 ≤ lat ∧ lat ≤ 1099511627776 ∧
      Hid ((k = 0 ∧ bst = 0 ∧ lat = -1) ∨ (Xp.IsArg (fun v => t.idxOf v) (held.take k) bst ∧ ∃ h : bst < held.length, lat = (t.idxOf held[bst] : Nat)))) (fun _ _ i => held.length - (intOf i).toNat)
  case atStart => exact ⟨0, 0, -1, rfl, Nat.zero_le _, rfl, rfl, fun j hj h => by omega, by omega, by omega, .inl ⟨rfl, rfl, rfl⟩⟩
  case round =>
    obtain ⟨k, bst, lat, rfl, hk, rfl, rfl, hin, hl0, hl1, harg⟩ := hrel
    by_cases hlt : k < held.length
    · have hlI : (k : Int) < (held.length : Int) := by omega
      obtain ⟨b2, off2, cap2, e, _, hc⟩ := Hv.out.at hlt
      simp only [Value.slice.injEq] at e
      obtain ⟨rfl, _, rfl⟩ := e
      have hnev : Hid (held[k] ∉ t → k = Xp.goesBest held t) := fun h => (Xp.IsArg.never hlt (fun j hj => hin.out j (by omega) hj) h).eq
      have hnext : Hid (held[k] ∈ t → ∀ j (hj : j < held.length), j < k + 1 → held[j] ∈ t) := fun h j hj hjk => by
        by_cases hj2 : j < k
        · exact hin.out j hj hj2
        · have : j = k := by omega
          subst this; exact h
      have hgt : Hid (lat < (t.idxOf held[k] : Nat) → Xp.IsArg (fun v => t.idxOf v) (held.take (k + 1)) k ∧ ∃ h : k < held.length, ((t.idxOf held[k] : Nat) : Int) = (t.idxOf held[k] : Nat)) := fun h => by
        refine ⟨?_, hlt, rfl⟩
        rcases harg.out with ⟨rfl, _, _⟩ | ⟨ha, hbl, rfl⟩
        · exact Xp.IsArg.one (by omega)
        · have := ha.step hlt hbl
          rwa [if_pos (by omega)] at this
      have hle : Hid (¬ lat < (t.idxOf held[k] : Nat) → Xp.IsArg (fun v => t.idxOf v) (held.take (k + 1)) bst ∧ ∃ h : bst < held.length, lat = (t.idxOf held[bst] : Nat)) := fun h => by
        rcases harg.out with ⟨_, _, rfl⟩ | ⟨ha, hbl, rfl⟩
        · omega
        · have := ha.step hlt hbl
          rw [if_neg (by omega)] at this
          exact ⟨this, hbl, rfl⟩
      obtain ⟨x, hx⟩ : ∃ x, held[k] = x := ⟨_, rfl⟩
      have Hx := Lib.hid hx
      rw [hx] at hc
      simp only [hx] at hnev hnext hgt hle
      clear hx harg hin
      by_cases hxt : x ∈ t
      · obtain ⟨m, hm⟩ : ∃ m, t.idxOf x = m := ⟨_, rfl⟩
        have hidx : idx t x = (m : Nat) := by rw [idx, if_pos hxt, hm]
        have hml : m ≤ t.length := hm ▸ List.idxOf_le_length
        have Hm := Lib.hid hm
        have Hidx := Lib.hid hidx
        have Hnext := Lib.hid (hnext.out hxt)
        simp only [hm] at hgt hle
        clear hm hidx hxt hnev hnext
        go_wp2_with fail
        refine (Index_c t x _ _ hD.out).mono ?_; rintro e _ ⟨rfl, rfl⟩; rw [Hidx.out]
        by_cases hlat : lat < (m : Int)
        · have Hg := Lib.hid (hgt.out hlat)
          clear hgt hle
          go_wp2_with fail
          go_round
          case rel => exact ⟨k + 1, k, m, by go_num, by omega, rfl, rfl, Hnext.out, by omega, by omega, .inr ⟨Hg.out.1, hlt, by rw [Hx.out, Hm.out]⟩⟩
          case measure => simp [intOf]; omega
        · have Hg := Lib.hid (hle.out (by omega))
          clear hgt hle
          go_wp2_with fail
          go_round
          case rel => exact ⟨k + 1, bst, lat, by go_num, by omega, rfl, rfl, Hnext.out, by omega, by omega, .inr Hg.out⟩
          case measure => simp [intOf]; omega
      · have hidx : idx t x = -1 := idx_none hxt
        have Hidx := Lib.hid hidx
        have Hnev := Lib.hid (hnev.out hxt)
        clear hidx hxt hnev hnext hgt hle
        go_wp2_with fail
        refine (Index_c t x _ _ hD.out).mono ?_; rintro e _ ⟨rfl, rfl⟩; rw [Hidx.out]
        go_wp2_with fail
        go_ret
        exact ⟨ret_int (congrArg Int.ofNat Hnev.out), rfl⟩
    · have hke : k = held.length := by omega
      subst hke
      have hres : Hid (bst = Xp.goesBest held t) := by
        rcases harg.out with ⟨h0, _⟩ | ⟨ha, _⟩
        · omega
        · rw [List.take_length] at ha; exact ha.eq
      clear harg hin
      go_wp2_with fail
      go_ret
      exact ⟨ret_int (congrArg Int.ofNat hres.out), rfl⟩
end Go.Proofs.Ytdmjpikkgfedmaa
