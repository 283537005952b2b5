/- Contracts of the small functions: ranges, checks of lists, copies and comparisons of lists. -/
import Derived.Test.YtdmjpikkgfedmaaBase
namespace Go.Proofs.Ytdmjpikkgfedmaa
open Go.RowKit

theorem l6In_c (n lo hi : Int) (w : World) : Calls Try.prog 40 #[.int .i64 n, .int .i64 lo, .int .i64 hi] w fun e w' => e = .returned (.bool (inR n lo hi)) ∧ w = w' := by
  by_cases h1 : lo ≤ n
  · by_cases h2 : n ≤ hi
    · go_enter Try.func40, Try.ntmps40
      go_wp2
      go_ret
      exact ⟨ret_bool (by simp [inR, h1, h2]), rfl⟩
    · go_enter Try.func40, Try.ntmps40
      go_wp2
      go_ret
      exact ⟨ret_bool (by simp [inR, h1, h2]), rfl⟩
  · go_enter Try.func40, Try.ntmps40
    go_wp2
    go_ret
    exact ⟨ret_bool (by simp [inR]; omega), rfl⟩

set_option maxHeartbeats 400000 in
theorem specTraceValid_c (xs : List Int) (v : Value) (w : World) (h : RI w v xs) :
    Calls Try.prog 39 #[v] w fun e w' => e = .returned (.bool (xs.all (fun x => inR x 0 15) && decide (xs.length ≤ 24))) ∧ w = w' := by
  obtain ⟨a, cap, rfl⟩ := h.val
  have hl := h.1
  have H := Lib.hid h; clear h
  go_enter Try.func39, Try.ntmps39
  go_wp2_with fail
  go_loop [3] (fun i => ∃ k : Nat, i = .int .i64 k ∧ k ≤ xs.length ∧ Hid (∀ x ∈ xs.take k, inR x 0 15 = true)) (fun i => xs.length - (intOf i).toNat)
  case atStart => exact ⟨0, rfl, Nat.zero_le _, by simp [Hid]⟩
  case round =>
    obtain ⟨k, rfl, hk, hall⟩ := hrel
    by_cases hlt : k < xs.length
    · obtain ⟨b, off, cap', e, _, hc⟩ := H.out.at hlt
      simp only [Value.slice.injEq] at e
      obtain ⟨rfl, _, rfl⟩ := e
      have hx : xs[k] ∈ xs := List.getElem_mem hlt
      have htk : xs.take (k + 1) = xs.take k ++ [xs[k]] := by rw [List.take_succ_eq_append_getElem hlt]
      generalize xs[k] = x at hc hx htk
      have Ht := Lib.hid htk; clear htk
      have Hx := Lib.hid hx; clear hx
      cases hin : inR x 0 15
      · have Hin := Lib.hid hin; clear hin
        have hF : (xs.all (fun x => inR x 0 15) && decide (xs.length ≤ 24)) = false := by
          simp only [Bool.and_eq_false_iff, List.all_eq_false]
          exact .inl ⟨x, Hx.out, by simp [Hin.out]⟩
        have HF := Lib.hid hF; clear hF
        go_wp2_with (go_at_call 40; refine (l6In_c _ _ _ _).mono ?_; rintro e w' ⟨rfl, rfl⟩; rw [Hin.out])
        go_ret
        exact ⟨ret_bool HF.out.symm, rfl⟩
      · have Hin := Lib.hid hin; clear hin
        go_wp2_with (go_at_call 40; refine (l6In_c _ _ _ _).mono ?_; rintro e w' ⟨rfl, rfl⟩; rw [Hin.out])
        go_round
        case rel =>
          refine ⟨k + 1, by go_num, by omega, ?_⟩
          show ∀ y ∈ xs.take (k + 1), inR y 0 15 = true
          rw [Ht.out]
          intro y hy
          rcases List.mem_append.1 hy with hy | hy
          · exact hall y hy
          · simp at hy; rw [hy]; exact Hin.out
        case measure => simp [intOf]; omega
    · go_wp2_with fail
      go_ret
      refine ⟨ret_bool ?_, rfl⟩
      have : xs.all (fun x => inR x 0 15) = true := by
        rw [List.all_eq_true]
        intro x hx
        refine hall x ?_
        rw [List.take_of_length_le (by omega)]; exact hx
      rw [this]; simp; omega



theorem within_c (n lo hi : Int) (w : World) : Calls Try.prog 37 #[.int .i64 n, .int .i64 lo, .int .i64 hi] w fun e w' => e = .returned (.bool (inR n lo hi)) ∧ w = w' := by
  by_cases h1 : lo ≤ n
  · by_cases h2 : n ≤ hi
    · go_enter Try.func37, Try.ntmps37
      go_wp2
      go_ret
      exact ⟨ret_bool (by simp [inR, h1, h2]), rfl⟩
    · go_enter Try.func37, Try.ntmps37
      go_wp2
      go_ret
      exact ⟨ret_bool (by simp [inR, h1, h2]), rfl⟩
  · go_enter Try.func37, Try.ntmps37
    go_wp2
    go_ret
    exact ⟨ret_bool (by simp [inR]; omega), rfl⟩
theorem isPage_c (n : Int) (w : World) : Calls Try.prog 43 #[.int .i64 n] w fun e w' => e = .returned (.bool (inR n 0 15)) ∧ w = w' := by
  go_enter Try.func43, Try.ntmps43
  go_wp2_with (go_at_call 37; refine (within_c _ _ _ _).mono ?_; rintro e w' ⟨rfl, rfl⟩)
  go_ret
  exact ⟨rfl, rfl⟩
theorem TraceValid1_c (n : Int) (w : World) : Calls Try.prog 42 #[.int .i64 n] w fun e w' => e = .returned (.bool (!inR n 0 15)) ∧ w = w' := by
  go_enter Try.func42, Try.ntmps42
  go_wp2_with (go_at_call 43; refine (isPage_c _ _).mono ?_; rintro e w' ⟨rfl, rfl⟩)
  go_ret
  exact ⟨rfl, rfl⟩
/-- the first place at which p holds, or -1 -/
def firstAt (p : Int → Bool) (xs : List Int) : Int := if xs.any p then (xs.findIdx p : Nat) else -1

theorem firstAt_hit {p : Int → Bool} {xs : List Int} {k : Nat} (hk : k < xs.length) (h : p xs[k] = true) (hn : ∀ j (hj : j < xs.length), j < k → p xs[j] = false) : firstAt p xs = k := by
  unfold firstAt
  have ha : xs.any p = true := List.any_eq_true.2 ⟨xs[k], List.getElem_mem hk, h⟩
  rw [if_pos ha]
  have : xs.findIdx p = k := by
    rw [List.findIdx_eq hk]
    exact ⟨h, fun j hj => by simp [hn j (by omega) hj]⟩
  rw [this]
theorem firstAt_none {p : Int → Bool} {xs : List Int} (h : ∀ j (hj : j < xs.length), p xs[j] = false) : firstAt p xs = -1 := by
  unfold firstAt
  have ha : xs.any p = false := by
    rw [List.any_eq_false]
    intro x hx
    obtain ⟨j, hj, rfl⟩ := List.mem_iff_getElem.1 hx
    simp [h j hj]
  rw [if_neg (by simp [ha])]
theorem firstAt_nonneg (p : Int → Bool) (xs : List Int) : decide (0 ≤ firstAt p xs) = xs.any p := by
  unfold firstAt
  cases h : xs.any p <;> simp

/-- A predicate on integers, as a function value: it says p, and turns nothing that was there. -/
def Pred (g : Nat) (lb : Array Value) (p : Int → Bool) (w : World) : Prop :=
  (∀ args W, (callFunc g args).run Try.prog W = .ok (.enter g args) W) ∧
  ∀ x W, Below w.heap.size w W → Calls Try.prog g (#[.int .i64 x] ++ lb) W fun e w' => e = .returned (.bool (p x)) ∧ Below W.heap.size W w'

theorem Pred.pure {g : Nat} {p : Int → Bool} {w : World} (h : ∀ args W, (callFunc g args).run Try.prog W = .ok (.enter g args) W)
    (hg : ∀ x W, Calls Try.prog g #[.int .i64 x] W fun e w' => e = .returned (.bool (p x)) ∧ W = w') : Pred g #[] p w :=
  ⟨h, fun x W _ => (hg x W).mono fun _ _ ⟨he, hw⟩ => ⟨he, hw ▸ Below.refl _ _⟩⟩

set_option maxHeartbeats 400000 in
theorem IndexFunc_c (g : Nat) (lb : Array Value) (p : Int → Bool) (xs : List Int) (v : Value) (w : World) (h : RI w v xs) (hp : Pred g lb p w) :
    Calls Try.prog 45 #[v, .func (.func g) #[] lb] w fun e w' => e = .returned (.int .i64 (firstAt p xs)) ∧ Below w.heap.size w w' := by
  obtain ⟨a, cap, rfl⟩ := h.val
  obtain ⟨eg, hg⟩ := hp
  have hl := h.1
  have H := Lib.hid h; clear h
  have Hg := Lib.hid hg; clear hg
  go_enter Try.func45, Try.ntmps45
  go_wp2_with fail
  go_loopw [8] (fun i wr => ∃ k : Nat, i = .int .i64 k ∧ k ≤ xs.length ∧ Hid (∀ j (hj : j < xs.length), j < k → p xs[j] = false) ∧ Hid (Below w.heap.size w wr)) (fun i _ => xs.length - (intOf i).toNat)
  case atStart => exact ⟨0, rfl, Nat.zero_le _, fun j _ hj => absurd hj (Nat.not_lt_zero _), Below.refl _ _⟩
  case round =>
    obtain ⟨k, rfl, hk, hn, hb⟩ := hrel
    by_cases hlt : k < xs.length
    · obtain ⟨b, off, cap1, e, _, hc⟩ := (H.out.below hb.out).at hlt
      simp only [Value.slice.injEq] at e
      obtain ⟨rfl, _, rfl⟩ := e
      have hlI : (k : Int) < (xs.length : Int) := by omega
      have hcall := Lib.hid (Hg.out xs[k] wr hb.out)
      have hit : Hid (p xs[k] = true → firstAt p xs = k) := fun h => firstAt_hit hlt h hn.out
      have miss : Hid (p xs[k] = false → ∀ j (hj : j < xs.length), j < k + 1 → p xs[j] = false) := fun h j hj hjk => by
        by_cases e : j = k
        · subst e; exact h
        · exact hn.out j hj (by omega)
      generalize xs[k] = x at hc hcall hit miss
      cases hq : p x with
      | true =>
        have Hit := Lib.hid (hit.out hq)
        rw [hq] at hcall
        clear hit miss hq
        go_wp2_with (go_at_fn g; refine hcall.out.mono ?_; rintro e w' ⟨rfl, hb'⟩; have Hb' := Lib.hid hb'; clear hb')
        go_ret
        exact ⟨ret_int Hit.out.symm, hb.out.trans (Hb'.out.mono hb.out.size)⟩
      | false =>
        have Miss := Lib.hid (miss.out hq)
        rw [hq] at hcall
        clear hit miss hq
        go_wp2_with (go_at_fn g; refine hcall.out.mono ?_; rintro e w' ⟨rfl, hb'⟩; have Hb' := Lib.hid hb'; clear hb')
        go_roundw
        case rel => exact ⟨k + 1, by go_num, by omega, Miss.out, hb.out.trans (Hb'.out.mono hb.out.size)⟩
        case measure => simp [intOf]; omega
    · have : k = xs.length := by omega
      subst this
      go_wp2_with fail
      go_ret
      exact ⟨ret_int (firstAt_none (fun j hj => hn.out j hj hj)).symm, hb.out⟩
theorem ContainsFunc_c (g : Nat) (lb : Array Value) (p : Int → Bool) (xs : List Int) (v : Value) (w : World) (h : RI w v xs) (hp : Pred g lb p w) :
    Calls Try.prog 41 #[v, .func (.func g) #[] lb] w fun e w' => e = .returned (.bool (xs.any p)) ∧ Below w.heap.size w w' := by
  have hc := IndexFunc_c g lb p xs v w h hp
  have hn := Lib.hid (firstAt_nonneg p xs)
  have Hc := Lib.hid hc; clear hc h hp
  generalize firstAt p xs = n at hn Hc
  go_enter Try.func41, Try.ntmps41
  go_wp2_with (go_at_call 45; refine Hc.out.mono ?_; rintro e w' ⟨rfl, hb'⟩; have Hb' := Lib.hid hb'; clear hb')
  go_ret
  exact ⟨ret_bool hn.out, Hb'.out⟩
theorem implTraceValid_c (xs : List Int) (v : Value) (w : World) (h : RI w v xs) :
    Calls Try.prog 34 #[v] w fun e w' => e = .returned (.bool (xs.all (fun x => inR x 0 15) && decide (xs.length ≤ 24))) ∧ Below w.heap.size w w' := by
  obtain ⟨a, cap, rfl⟩ := h.val
  have hl := h.1
  have hc := ContainsFunc_c 42 #[] (fun x => !inR x 0 15) xs _ w h (Pred.pure (Proofs.enters_of Try.func42 (by kernel_rfl) rfl) TraceValid1_c)
  have e : (xs.any fun x => !inR x 0 15) = !(xs.all fun x => inR x 0 15) := by
    rw [List.not_all_eq_any_not]
  rw [e] at hc
  have Hc := Lib.hid hc; clear hc h e
  generalize (xs.all fun x => inR x 0 15) = t at Hc
  by_cases h24 : xs.length ≤ 24
  · go_enter Try.func34, Try.ntmps34
    go_wp2_with (go_at_call 41; refine Hc.out.mono ?_; rintro e w' ⟨rfl, hb'⟩; have Hb' := Lib.hid hb'; clear hb')
    go_ret
    exact ⟨ret_bool (by simp [h24]), Hb'.out⟩
  · go_enter Try.func34, Try.ntmps34
    go_wp2_with fail
    go_ret
    exact ⟨ret_bool (by first | (simp; done) | (simp; omega)), Below.refl _ _⟩

/-- the words of a page: four, each in range -/
def pageOk (xs : List Int) : Bool := xs.all (fun x => inR x 0 9999) && decide (xs.length = 4)
theorem pageOk_iff {xs : List Int} : pageOk xs = true ↔ (∀ x ∈ xs, 0 ≤ x ∧ x ≤ 9999) ∧ xs.length = 4 := by
  simp [pageOk, inR]


/-- the sum of words -/
def sumOf (xs : List Int) : Int := xs.foldl (fun n x => (31 * n + x) % 9973) 1
theorem sumOf_snoc (xs : List Int) (x : Int) : sumOf (xs ++ [x]) = (31 * sumOf xs + x) % 9973 := by simp [sumOf]
theorem sumOf_rng : ∀ xs : List Int, 0 ≤ sumOf xs ∧ sumOf xs < 9973 := by
  intro xs
  rcases List.eq_nil_or_concat xs with rfl | ⟨l, x, rfl⟩
  · decide
  · rw [List.concat_eq_append, sumOf_snoc]
    exact ⟨Int.emod_nonneg _ (by decide), Int.emod_lt_of_pos _ (by decide)⟩
/-- what PageSum hands back -/
def pageSum (xs : List Int) : Int := if pageOk xs then sumOf xs else -1


end Go.Proofs.Ytdmjpikkgfedmaa
