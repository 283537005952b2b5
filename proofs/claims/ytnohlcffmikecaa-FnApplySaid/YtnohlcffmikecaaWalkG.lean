/- Contracts of slices.Clone and slices.Equal at []int, and of isPlace. -/
import Derived.Test.YtnohlcffmikecaaWalkA
namespace Go.Proofs.Ytnohlcffmikecaa
open Go.RowKit

theorem isPlace_c (n : Int) (w : World) : Calls Try.prog 32 #[.int .i64 n] w fun e w' => e = .returned (.bool (inR n 0 3)) ∧ w = w' := by
  go_enter Try.func32, Try.ntmps32
  go_wp2_with (go_at_call 34; refine (within_c _ _ _ _).mono ?_; rintro e w' ⟨rfl, rfl⟩)
  go_ret
  exact ⟨rfl, rfl⟩

theorem drop_two {ps : List Int} {k : Nat} (h : k + 1 < ps.length) : ps.drop k = ps[k]'(by omega) :: ps[k + 1] :: ps.drop (k + 2) := by
  rw [List.drop_eq_getElem_cons (by omega), List.drop_eq_getElem_cons (by omega)]

set_option maxHeartbeats 400000 in
theorem Clone_c (xs : List Int) (v : Value) (w : World) (h : RI w v xs) : Calls Try.prog 31 #[v] w (MadeI w xs) := by
  obtain ⟨a, cap, rfl⟩ := h.val
  have hl := h.1
  have hnil := fun w => Lib.run_eql_slice_nil (P := Try.prog) w 23 3 a xs.length cap 0 0 u22
  cases a with
  | none =>
    obtain ⟨rfl, _, rfl⟩ := h.nil_of
    simp only [List.length_nil, Option.isNone_none] at hnil
    clear h hl
    go_enter Try.func31, Try.ntmps31
    go_wp2_with fail
    go_ret
    exact ⟨_, rfl, OI.nil _ _, Below.refl _ _⟩
  | some ad =>
    simp only [Option.isNone_some] at hnil
    have hs := Lib.hid (h.below ((Below.refl _ _).alloc (Nat.le_refl _) (.cells #[] 3))).src
    clear h
    go_enter Try.func31, Try.ntmps31
    go_wp2_with (at_builtin; refine wpList_app rfl _ _ rfl w.heap.size _ [] rfl (OI.lit0 (Nat.le_refl _)) _ _ cap xs rfl rfl hs.out (by simp; omega) (by simp) ?_; intro v' w3 ho3 hg3; rw [List.nil_append] at ho3; have Ho3 := Lib.hid ho3; have Hg3 := Lib.hid hg3; clear ho3 hg3)
    go_ret
    exact ⟨_, rfl, Ho3.out, Below.app ((Below.refl _ _).alloc (Nat.le_refl _) _) (OI.lit0 (Nat.le_refl _)) Hg3.out (Nat.le_refl _) (by simp)⟩

set_option maxHeartbeats 400000 in
theorem Equal_c (xs ys : List Int) (v u : Value) (w : World) (hx : RI w v xs) (hy : RI w u ys) :
    Calls Try.prog 33 #[v, u] w fun e w' => e = .returned (.bool (decide (xs = ys))) ∧ Below w.heap.size w w' := by
  obtain ⟨a, cap, rfl⟩ := hx.val
  obtain ⟨a', cap', rfl⟩ := hy.val
  have hl := hx.1
  have hl' := hy.1
  have Hx := Lib.hid hx; clear hx
  have Hy := Lib.hid hy; clear hy
  by_cases hne : xs.length = ys.length
  · have hnb : ((xs.length : Int) != (ys.length : Int)) = false := by simp [hne]
    have Hne := Lib.hid hne; clear hne
    go_enter Try.func33, Try.ntmps33
    go_wp2_with fail
    clear hnb
    go_loopw [13] (fun i wr => ∃ k : Nat, i = .int .i64 k ∧ k ≤ xs.length ∧ Hid (xs.take k = ys.take k) ∧ Hid (Below w.heap.size w wr)) (fun i _ => xs.length - (intOf i).toNat)
    case atStart => exact ⟨0, rfl, Nat.zero_le _, by simp [Hid], Below.refl _ _⟩
    case round =>
      obtain ⟨k, rfl, hk, ht, hb⟩ := hrel
      by_cases hlt : k < xs.length
      · have hlt' : k < ys.length := by rw [← Hne.out]; exact hlt
        obtain ⟨b, off, cap1, e, _, hc⟩ := (Hx.out.below hb.out).at hlt
        simp only [Value.slice.injEq] at e
        obtain ⟨rfl, _, rfl⟩ := e
        obtain ⟨b', off', cap1, e, _, hc'⟩ := (Hy.out.below hb.out).at hlt'
        simp only [Value.slice.injEq] at e
        obtain ⟨rfl, _, rfl⟩ := e
        have H1 := Lib.hid (List.take_succ_eq_append_getElem hlt)
        have H2 := Lib.hid (List.take_succ_eq_append_getElem hlt')
        have hlI : (k : Int) < (xs.length : Int) := by omega
        have hlI' : (k : Int) < (ys.length : Int) := by omega
        have H3 : Hid (xs[k] ≠ ys[k] → xs ≠ ys) := fun h e => h (by subst e; rfl)
        generalize xs[k] = x at hc H1 H3
        generalize ys[k] = y at hc' H2 H3
        by_cases hxy : x = y
        · subst hxy
          go_wp2_with fail
          go_quiet (fail)
          go_wp2_with fail
          go_roundw
          case rel => exact ⟨k + 1, by go_num, by omega, by show xs.take (k + 1) = ys.take (k + 1); rw [H1.out, H2.out, ht.out], below_drewN hb.out _⟩
          case measure => simp [intOf]; omega
        · have hxb : (x != y) = true := by simpa using hxy
          have H4 := Lib.hid (H3.out hxy)
          clear hxy
          go_wp2_with fail
          go_quiet (fail)
          go_wp2_with fail
          go_ret
          exact ⟨ret_bool (by simpa using H4.out), below_drewN hb.out _⟩
      · go_wp2_with fail
        go_ret
        refine ⟨ret_bool ?_, hb.out⟩
        have h1 := ht.out
        rw [List.take_of_length_le (by omega), List.take_of_length_le (by rw [← Hne.out]; omega)] at h1
        simp [h1]
  · have hnb : ((xs.length : Int) != (ys.length : Int)) = true := by simp; omega
    have Hne := Lib.hid hne; clear hne
    go_enter Try.func33, Try.ntmps33
    go_wp2_with fail
    go_ret
    exact ⟨ret_bool (by simp; intro e; exact Hne.out (by rw [e])), Below.refl _ _⟩
end Go.Proofs.Ytnohlcffmikecaa
