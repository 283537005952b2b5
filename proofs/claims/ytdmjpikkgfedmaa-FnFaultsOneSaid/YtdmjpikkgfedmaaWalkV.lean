/- Contracts: the reference's spans and faults. -/
import Derived.Test.YtdmjpikkgfedmaaWalkU
namespace Go.Proofs.Ytdmjpikkgfedmaa
open Go.RowKit

theorem specTraceOk_c (xs : List Int) (v : Value) (w : World) (h : RI w v xs) : Calls Try.prog 39 #[v] w fun e w' => e = .returned (.bool (traceOk xs)) ∧ w = w' := specTraceValid_c xs v w h
theorem l33Ok_c (xs : List Int) (f : Int) (v : Value) (w : World) (h : RI w v xs) : Calls Try.prog 28 #[v, .int .i64 f] w fun e w' => e = .returned (.bool (traceOk xs && inR f 1 12)) ∧ w = w' := by
  obtain ⟨a, cap, rfl⟩ := h.val
  have H := Lib.hid h; clear h
  cases ht : traceOk xs
  · have Ht := Lib.hid ht; clear ht
    go_enter Try.func28, Try.ntmps28
    go_wp2_with (go_at_call 39; refine (specTraceOk_c xs _ _ H.out).mono ?_; rintro e _ ⟨rfl, rfl⟩; rw [Ht.out])
    go_ret
    exact ⟨rfl, rfl⟩
  · have Ht := Lib.hid ht; clear ht
    go_enter Try.func28, Try.ntmps28
    go_wp2_with fail
    refine (specTraceOk_c xs _ _ H.out).mono ?_; rintro e _ ⟨rfl, rfl⟩; rw [Ht.out]
    go_wp2_with fail
    refine (l6In_c _ _ _ _).mono ?_; rintro e _ ⟨rfl, rfl⟩
    go_wp2_with fail
    go_ret
    exact ⟨ret_bool (by simp), rfl⟩

theorem spans_take (xs : List Int) (k : Nat) (_hk : k < xs.length) : (List.range (k + 1)).map (spanAt xs) = (List.range k).map (spanAt xs) ++ [spanAt xs k] := by simp [List.range_succ]


/-- uses among the first k whose span is -1 or at least f -/
def lastCnt (xs : List Int) (f : Int) : Nat → Nat
  | 0 => 0
  | k + 1 => lastCnt xs f k + if spanAt xs k < 0 ∨ f ≤ spanAt xs k then 1 else 0
theorem lastCnt_le (xs : List Int) (f : Int) : ∀ k, lastCnt xs f k ≤ k
  | 0 => Nat.le_refl _
  | k + 1 => by have := lastCnt_le xs f k; simp only [lastCnt]; split <;> omega
def faultsL (xs : List Int) (f : Int) : Int := if traceOk xs && inR f 1 12 then (lastCnt xs f xs.length : Nat) else -1

set_option maxHeartbeats 1000000 in
theorem specFaultsLast_c (xs : List Int) (f : Int) (v : Value) (w : World) (h : RI w v xs) : Calls Try.prog 17 #[v, .int .i64 f] w fun e w' => e = .returned (.int .i64 (faultsL xs f)) ∧ Below w.heap.size w w' := by
  obtain ⟨a, cap, rfl⟩ := h.val
  have hl := h.1
  have H := Lib.hid h; clear h
  cases ht : (traceOk xs && inR f 1 12)
  · have hr : faultsL xs f = -1 := by simp only [faultsL, ht]; rfl
    rw [hr]
    have Ht := Lib.hid ht; clear ht hr
    go_enter Try.func17, Try.ntmps17
    go_wp2_with (go_at_call 28; refine (l33Ok_c xs f _ _ H.out).mono ?_; rintro e _ ⟨rfl, rfl⟩; rw [Ht.out])
    go_ret
    exact ⟨rfl, Below.refl _ _⟩
  · have hr : faultsL xs f = (lastCnt xs f xs.length : Nat) := by simp only [faultsL, ht]; rfl
    rw [hr]
    have hf : inR f 1 12 = true := by simp only [Bool.and_eq_true] at ht; exact ht.2
    obtain ⟨hf1, hf2⟩ := inR_true.1 hf
    have Ht := Lib.hid ht; clear ht hr hf
    go_enter Try.func17, Try.ntmps17
    go_wp2_with fail
    refine (l33Ok_c xs f _ _ H.out).mono ?_; rintro e _ ⟨rfl, rfl⟩; rw [Ht.out]
    go_wp2_with fail
    go_loopw [5, 6] (fun n i wr => ∃ (k c : Nat), i = .int .i64 k ∧ k ≤ xs.length ∧ n = .int .i64 c ∧ c ≤ k ∧ Hid (c = lastCnt xs f k) ∧ Hid (Below w.heap.size w wr)) (fun _ i _ => xs.length - (intOf i).toNat)
    case atStart => exact ⟨0, 0, rfl, Nat.zero_le _, rfl, Nat.le_refl _, rfl, Below.refl _ _⟩
    case round =>
      obtain ⟨k, c, rfl, hk, rfl, hck, hc, hb⟩ := hrel
      by_cases hlt : k < xs.length
      · have hlI : (k : Int) < (xs.length : Int) := by omega
        have hst : Hid (lastCnt xs f (k + 1) = lastCnt xs f k + if spanAt xs k < 0 ∨ f ≤ spanAt xs k then 1 else 0) := rfl
        go_wp2_with fail
        refine (l33Span_c xs k hlt _ _ (H.out.below hb.out)).mono ?_; rintro e w2 ⟨rfl, hb2⟩
        have Hb := Lib.hid (hb.out.trans (hb2.mono hb.out.size)); clear hb2
        generalize spanAt xs k = s at hst
        by_cases h1 : s < 0
        · have Hst := Lib.hid (hst.out.trans (by rw [if_pos (.inl h1)]))
          clear hst
          go_wp2_with fail
          go_roundw
          case rel => exact ⟨k + 1, c + 1, by go_num, by omega, by go_num, by omega, by show _ = _; rw [Hst.out, hc.out], Hb.out⟩
          case measure => simp [intOf]; omega
        · by_cases h2 : f ≤ s
          · have Hst := Lib.hid (hst.out.trans (by rw [if_pos (.inr h2)]))
            clear hst
            go_wp2_with fail
            go_roundw
            case rel => exact ⟨k + 1, c + 1, by go_num, by omega, by go_num, by omega, by show _ = _; rw [Hst.out, hc.out], Hb.out⟩
            case measure => simp [intOf]; omega
          · have Hst := Lib.hid (hst.out.trans (by rw [if_neg (by omega), Nat.add_zero]))
            clear hst
            go_wp2_with fail
            go_roundw
            case rel => exact ⟨k + 1, c, by go_num, by omega, rfl, by omega, by show _ = _; rw [Hst.out, hc.out], Hb.out⟩
            case measure => simp [intOf]; omega
      · have hke : k = xs.length := by omega
        subst hke
        go_wp2_with fail
        go_ret
        exact ⟨ret_int (by rw [hc.out]), hb.out⟩
end Go.Proofs.Ytdmjpikkgfedmaa
