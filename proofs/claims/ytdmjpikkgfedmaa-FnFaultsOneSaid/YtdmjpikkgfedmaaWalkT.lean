/- Contracts: traces: finding a page, spans. -/
import Derived.Test.YtdmjpikkgfedmaaWalkA
import Derived.Test.YtdmjpikkgfedmaaPaging
namespace Go.Proofs.Ytdmjpikkgfedmaa
open Go.RowKit

/-- where a number stands first, or -1 -/
def idx (l : List Int) (p : Int) : Int := if p ∈ l then (l.idxOf p : Nat) else -1

theorem idx_hit {l : List Int} {p : Int} {k : Nat} (hk : k < l.length) (h : l[k] = p) (hn : p ∉ l.take k) : idx l p = k := by
  have hm : p ∈ l := h ▸ List.getElem_mem hk
  rw [idx, if_pos hm]
  have e : l = l.take k ++ p :: l.drop (k + 1) := by
    conv => lhs; rw [← List.take_append_drop k l, List.drop_eq_getElem_cons hk, h]
  have : l.idxOf p = k := by
    rw [e, List.idxOf_append, if_neg hn, List.idxOf_cons_self]
    simp; omega
  rw [this]
theorem idx_none {l : List Int} {p : Int} (h : p ∉ l) : idx l p = -1 := by rw [idx, if_neg h]
theorem idx_rng (l : List Int) (p : Int) : -1 ≤ idx l p ∧ idx l p < l.length + 1 := by
  unfold idx
  split
  · have := List.idxOf_lt_length_iff.2 ‹_›; omega
  · omega

set_option maxHeartbeats 400000 in
theorem l33Find_c (xs : List Int) (p : Int) (v : Value) (w : World) (h : RI w v xs) :
    Calls Try.prog 29 #[v, .int .i64 p] w fun e w' => e = .returned (.int .i64 (idx xs p)) ∧ w = w' := by
  obtain ⟨a, cap, rfl⟩ := h.val
  have hl := h.1
  have H := Lib.hid h; clear h
  go_enter Try.func29, Try.ntmps29
  go_wp2_with fail
  go_loop [5] (fun i => ∃ k : Nat, i = .int .i64 k ∧ k ≤ xs.length ∧ Hid (p ∉ xs.take k)) (fun i => xs.length - (intOf i).toNat)
  case atStart => exact ⟨0, rfl, Nat.zero_le _, by simp [Hid]⟩
  case round =>
    obtain ⟨k, rfl, hk, hn⟩ := hrel
    by_cases hlt : k < xs.length
    · obtain ⟨b, off, cap', e, _, hc⟩ := H.out.at hlt
      simp only [Value.slice.injEq] at e
      obtain ⟨rfl, _, rfl⟩ := e
      have hlI : (k : Int) < (xs.length : Int) := by omega
      have hit : Hid (xs[k] = p → idx xs p = k) := fun h => idx_hit hlt h hn.out
      have miss : Hid (xs[k] ≠ p → p ∉ xs.take (k + 1)) := fun h => by
        rw [List.take_succ_eq_append_getElem hlt]
        simp only [List.mem_append, List.mem_singleton, not_or]
        exact ⟨hn.out, fun e => h e.symm⟩
      generalize xs[k] = x at hc hit miss
      by_cases hx : x = p
      · have Hit := Lib.hid (hit.out hx)
        have hb : (x == p) = true := by simpa using hx
        have hb' : (p == x) = true := by simpa using hx.symm
        have Hx := Lib.hid hx
        clear hit miss hx
        go_wp2_with fail
        go_ret
        exact ⟨ret_int Hit.out.symm, rfl⟩
      · have Miss := Lib.hid (miss.out hx)
        have hb : (x == p) = false := by simpa using hx
        have hb' : (p == x) = false := by simpa using (fun e : p = x => hx e.symm)
        clear hit miss hx
        go_wp2_with fail
        go_round
        case rel => exact ⟨k + 1, by go_num, by omega, Miss.out⟩
        case measure => simp [intOf]; omega
    · go_wp2_with fail
      go_ret
      refine ⟨ret_int (idx_none ?_).symm, rfl⟩
      have := hn.out
      rwa [List.take_of_length_le (by omega)] at this
set_option maxHeartbeats 400000 in
theorem Index_c (xs : List Int) (p : Int) (v : Value) (w : World) (h : RI w v xs) :
    Calls Try.prog 32 #[v, .int .i64 p] w fun e w' => e = .returned (.int .i64 (idx xs p)) ∧ w = w' := by
  obtain ⟨a, cap, rfl⟩ := h.val
  have hl := h.1
  have H := Lib.hid h; clear h
  go_enter Try.func32, Try.ntmps32
  go_wp2_with fail
  go_loop [8] (fun i => ∃ k : Nat, i = .int .i64 k ∧ k ≤ xs.length ∧ Hid (p ∉ xs.take k)) (fun i => xs.length - (intOf i).toNat)
  case atStart => exact ⟨0, rfl, Nat.zero_le _, by simp [Hid]⟩
  case round =>
    obtain ⟨k, rfl, hk, hn⟩ := hrel
    by_cases hlt : k < xs.length
    · obtain ⟨b, off, cap', e, _, hc⟩ := H.out.at hlt
      simp only [Value.slice.injEq] at e
      obtain ⟨rfl, _, rfl⟩ := e
      have hlI : (k : Int) < (xs.length : Int) := by omega
      have hit : Hid (xs[k] = p → idx xs p = k) := fun h => idx_hit hlt h hn.out
      have miss : Hid (xs[k] ≠ p → p ∉ xs.take (k + 1)) := fun h => by
        rw [List.take_succ_eq_append_getElem hlt]
        simp only [List.mem_append, List.mem_singleton, not_or]
        exact ⟨hn.out, fun e => h e.symm⟩
      generalize xs[k] = x at hc hit miss
      by_cases hx : x = p
      · have Hit := Lib.hid (hit.out hx)
        have hb : (x == p) = true := by simpa using hx
        have hb' : (p == x) = true := by simpa using hx.symm
        have Hx := Lib.hid hx
        clear hit miss hx
        go_wp2_with fail
        go_ret
        exact ⟨ret_int Hit.out.symm, rfl⟩
      · have Miss := Lib.hid (miss.out hx)
        have hb : (x == p) = false := by simpa using hx
        have hb' : (p == x) = false := by simpa using (fun e : p = x => hx e.symm)
        clear hit miss hx
        go_wp2_with fail
        go_round
        case rel => exact ⟨k + 1, by go_num, by omega, Miss.out⟩
        case measure => simp [intOf]; omega
    · go_wp2_with fail
      go_ret
      refine ⟨ret_int (idx_none ?_).symm, rfl⟩
      have := hn.out
      rwa [List.take_of_length_le (by omega)] at this
end Go.Proofs.Ytdmjpikkgfedmaa
