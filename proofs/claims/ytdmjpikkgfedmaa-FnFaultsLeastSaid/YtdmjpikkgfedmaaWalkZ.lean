/- Contracts: numbers in a list; how many different ones. -/
import Derived.Test.YtdmjpikkgfedmaaWalkT
import Derived.Test.YtdmjpikkgfedmaaWalkX
import Derived.BigQuiet
namespace Go.Proofs.Ytdmjpikkgfedmaa
open Go.RowKit

set_option maxHeartbeats 400000 in
theorem hasNumber_c (xs : List Int) (p : Int) (v : Value) (w : World) (h : RI w v xs) :
    Calls Try.prog 36 #[v, .int .i64 p] w fun e w' => e = .returned (.bool (decide (p ∈ xs))) ∧ w = w' := by
  obtain ⟨a, cap, rfl⟩ := h.val
  have hl := h.1
  have H := Lib.hid h; clear h
  go_enter Try.func36, Try.ntmps36
  go_wp2_with fail
  go_loop [5] (fun i => ∃ k : Nat, i = .int .i64 k ∧ k ≤ xs.length ∧ Hid (p ∉ xs.take k)) (fun i => xs.length - (intOf i).toNat)
  case atStart => exact ⟨0, rfl, Nat.zero_le _, by simp [Hid]⟩
  case round =>
    obtain ⟨k, rfl, hk, hn⟩ := hrel
    by_cases hlt : k < xs.length
    · obtain ⟨b, off, cap', e, _, hc⟩ := H.out.at hlt
      simp only [Value.slice.injEq] at e
      obtain ⟨rfl, _, rfl⟩ := e
      have hlI : (k : Int) < (xs.length : Int) := by omega
      have hit : Hid (xs[k] = p → p ∈ xs) := fun h => h ▸ List.getElem_mem hlt
      have miss : Hid (xs[k] ≠ p → p ∉ xs.take (k + 1)) := fun h => by
        rw [List.take_succ_eq_append_getElem hlt]
        simp only [List.mem_append, List.mem_singleton, not_or]
        exact ⟨hn.out, fun e => h e.symm⟩
      generalize xs[k] = x at hc hit miss
      by_cases hx : x = p
      · have Hit := Lib.hid (hit.out hx)
        have hb : (x == p) = true := by simpa using hx
        have hb' : (p == x) = true := by simpa using hx.symm
        have Hx := Lib.hid hx
        clear hit miss hx
        go_wp2_with fail
        go_ret
        exact ⟨ret_bool (by simp [Hit.out]), rfl⟩
      · have Miss := Lib.hid (miss.out hx)
        have hb : (x == p) = false := by simpa using hx
        have hb' : (p == x) = false := by simpa using (fun e : p = x => hx e.symm)
        clear hit miss hx
        go_wp2_with fail
        go_round
        case rel => exact ⟨k + 1, by go_num, by omega, Miss.out⟩
        case measure => simp [intOf]; omega
    · go_wp2_with fail
      go_ret
      have := hn.out
      rw [List.take_of_length_le (by omega)] at this
      exact ⟨ret_bool (by simp [this]), rfl⟩

/-- how many of the first k numbers are new -/
def dn (xs : List Int) : Nat → Nat
  | 0 => 0
  | k + 1 => dn xs k + if xs[k]?.getD 0 ∈ xs.take k then 0 else 1
theorem dn_le (xs : List Int) : ∀ k, dn xs k ≤ k
  | 0 => Nat.le_refl _
  | k + 1 => by have := dn_le xs k; simp only [dn]; split <;> omega

set_option maxHeartbeats 1000000 in
theorem differentPages_c (xs : List Int) (v : Value) (w : World) (h : RI w v xs) (hv : CapOk v) :
    Calls Try.prog 21 #[v] w fun e w' => e = .returned (.int .i64 (dn xs xs.length : Nat)) ∧ ∃ n, w' = w.drewN n := by
  obtain ⟨a, cap, rfl⟩ := h.val
  have hl := h.1
  obtain ⟨hcap, hmax⟩ := hv _ _ _ rfl
  clear hv
  have H := Lib.hid h; clear h
  go_enter Try.func21, Try.ntmps21
  go_wp2_with fail
  go_loopw [3, 4] (fun n i wr => ∃ k c m : Nat, i = .int .i64 k ∧ k ≤ xs.length ∧ n = .int .i64 c ∧ c ≤ k ∧ Hid (c = dn xs k) ∧ Hid (wr = w.drewN m)) (fun _ i _ => xs.length - (intOf i).toNat)
  case atStart => exact ⟨0, 0, 0, rfl, Nat.zero_le _, rfl, Nat.le_refl _, rfl, rfl⟩
  case round =>
    obtain ⟨k, c, m, rfl, hk, rfl, hck, hc, hwq⟩ := hrel
    by_cases hlt : k < xs.length
    · have hst : Hid (dn xs (k + 1) = dn xs k + if xs[k]?.getD 0 ∈ xs.take k then 0 else 1) := rfl
      have hst2 := hst.out
      rw [List.getElem?_eq_getElem hlt] at hst2
      have Hst : Hid (dn xs (k + 1) = dn xs k + if xs[k] ∈ xs.take k then 0 else 1) := hst2
      clear hst hst2
      have hr := H.out.below (w' := wr) (hwq.out ▸ below_drewN (Below.refl _ _) m)
      obtain ⟨b, off, cap', e, _, hcell⟩ := hr.at hlt
      simp only [Value.slice.injEq] at e
      obtain ⟨rfl, _, rfl⟩ := e
      have hlI : (k : Int) < (xs.length : Int) := by omega
      have hkc : k ≤ cap := by omega
      generalize xs[k] = x at hcell Hst
      cases hd : decide (x ∈ xs.take k)
      · have Hst2 : Hid (dn xs (k + 1) = dn xs k + 1) := by rw [Hid, Hst.out, if_neg (by simpa using hd)]
        have hcall : ∀ n, Hid (Calls Try.prog 36 #[.slice (some ⟨b, off, none⟩) k cap, .int .i64 x] (wr.drewN n) fun e w' => e = .returned (.bool false) ∧ w' = wr.drewN n) := fun n => by
          have := (hasNumber_c _ x _ _ ((RI.take hr k (by omega)).below (below_drewN (Below.refl _ _) n))).mono (fun _ _ h => (⟨h.1, h.2.symm⟩ : _ ∧ _))
          rwa [hd] at this
        clear Hst hd hr
        go_wp2_with fail
        go_quiet ((go_at_call 36; exact Calls.quiet_of_same (hcall _).out))
        go_wp2_with fail
        go_roundw
        case rel => exact ⟨k + 1, c + 1, m + nq, by go_num, by omega, by go_num, by omega, by show _ = _; rw [Hst2.out, hc.out], by show _ = _; rw [hwq.out, World.drewN_drewN]⟩
        case measure => simp [intOf]; omega
      · have Hst2 : Hid (dn xs (k + 1) = dn xs k) := by rw [Hid, Hst.out, if_pos (by simpa using hd)]; rfl
        have hcall : ∀ n, Hid (Calls Try.prog 36 #[.slice (some ⟨b, off, none⟩) k cap, .int .i64 x] (wr.drewN n) fun e w' => e = .returned (.bool true) ∧ w' = wr.drewN n) := fun n => by
          have := (hasNumber_c _ x _ _ ((RI.take hr k (by omega)).below (below_drewN (Below.refl _ _) n))).mono (fun _ _ h => (⟨h.1, h.2.symm⟩ : _ ∧ _))
          rwa [hd] at this
        clear Hst hd hr
        go_wp2_with fail
        go_quiet ((go_at_call 36; exact Calls.quiet_of_same (hcall _).out))
        go_wp2_with fail
        go_roundw
        case rel => exact ⟨k + 1, c, m + nq, by go_num, by omega, rfl, by omega, by show _ = _; rw [Hst2.out, hc.out], by show _ = _; rw [hwq.out, World.drewN_drewN]⟩
        case measure => simp [intOf]; omega
    · have hke : k = xs.length := by omega
      subst hke
      go_wp2_with fail
      go_ret
      exact ⟨ret_int (by rw [hc.out]), m, hwq.out⟩
end Go.Proofs.Ytdmjpikkgfedmaa
