/- Contracts of the small functions: ranges, checks of lists, copies and comparisons of lists. -/
import Derived.Test.YtfnpjdgjceiklaaGreatDoorBase
namespace Go.Proofs.YtfnpjdgjceiklaaGreatDoor
open Go.RowKit

theorem l6In_c (n lo hi : Int) (w : World) : Calls Tryz.prog 41 #[.int .i64 n, .int .i64 lo, .int .i64 hi] w fun e w' => e = .returned (.bool (inR n lo hi)) ∧ w = w' := by
  by_cases h1 : lo ≤ n
  · by_cases h2 : n ≤ hi
    · go_enter Tryz.func41, Tryz.ntmps41
      go_wp2
      go_ret
      exact ⟨ret_bool (by simp [inR, h1, h2]), rfl⟩
    · go_enter Tryz.func41, Tryz.ntmps41
      go_wp2
      go_ret
      exact ⟨ret_bool (by simp [inR, h1, h2]), rfl⟩
  · go_enter Tryz.func41, Tryz.ntmps41
    go_wp2
    go_ret
    exact ⟨ret_bool (by simp [inR]; omega), rfl⟩


set_option maxHeartbeats 400000 in
theorem toIntS_c (xs : List Int) (v : Value) (w : World) (h : RI w v xs) : Calls Tryz.prog 44 #[v] w (MadeI w xs) := by
  obtain ⟨a, cap, rfl⟩ := h.val
  have hl := h.1
  have H := Lib.hid h; clear h
  obtain ⟨i0, hi, hz0, hz1, hz2⟩ := info_parts info3
  have hc1 : i0.bytes * xs.length ≤ 281474976710656 := by rw [hz2]; omega
  have hc2 : xs.length ≤ maxLen := by unfold maxLen; omega
  go_enter Tryz.func44, Tryz.ntmps44
  go_wp2_with (at_make; refine wpList_make_full _ rfl _ _ 28 rfl w.heap.size 3 i0 (.int .i64 0) 1 u22 hi hz0 hz1 .i64 .i64 _ _ xs.length rfl rfl rfl rfl hc1 hc2 (Nat.le_refl _) ?_; intro w1 hown hgrow)
  have hb1 : Below w.heap.size w w1 := Below.grownNone hgrow
  clear hi hz0 hz1 hz2 hgrow
  go_loopw [4] (fun i wr => ∃ k : Nat, i = .int .i64 k ∧ k ≤ xs.length ∧ Hid (wr.ownsRow w.heap.size 3 1 (.slice (some ⟨w.heap.size, 0, none⟩) xs.length xs.length) xs.length (ints (xs.take k) ++ List.replicate (xs.length - k) (.int .i64 0))) ∧ Hid (Below w.heap.size w wr))
    (fun i _ => xs.length - (intOf i).toNat)
  case atStart => exact ⟨0, rfl, Nat.zero_le _, by simpa [Hid, ints, Value.cells, toList_madeCells_one] using hown, hb1⟩
  case round =>
    clear hown hb1
    obtain ⟨k, rfl, hk, ho, hb⟩ := hrel
    by_cases hlt : k < xs.length
    · obtain ⟨b, off, cap', e, hbl, hc⟩ := H.out.at hlt
      simp only [Value.slice.injEq] at e
      obtain ⟨rfl, _, rfl⟩ := e
      have hc1 := (hb.out.cell (p := ⟨b, off + k, none⟩) hbl).trans hc
      have hf := ho.out.frozenAt k
      have ho2 := (ho.out.stored k (.int .i64 xs[k])).1
      rw [ints_set_fill xs k hlt] at ho2
      have hs := ho.out.cellAt k (by omega)
      obtain ⟨z, hz⟩ : ∃ z, (ints (xs.take k) ++ List.replicate (xs.length - k) (Value.int .i64 0))[k]? = some z := ⟨_, List.getElem?_eq_getElem (by simp [ints]; omega)⟩
      rw [hz] at hs
      have Ho := Lib.hid ho2
      clear hz hc ho2
      generalize xs[k] = x at hc1 Ho
      go_wp2
      go_roundw
      case rel => exact ⟨k + 1, by go_num, by omega, Ho.out, hb.out.setCell (by simp) _⟩
      case measure => simp [intOf]; omega
    · go_wp2
      go_ret
      have hk' : k = xs.length := by omega
      subst hk'
      exact ⟨_, rfl, OI.of_row ho.out (by simp) rfl hl, hb.out⟩

set_option maxHeartbeats 400000 in
theorem eqIntS_c (xs ys : List Int) (v u : Value) (w : World) (hx : RI w v xs) (hy : RI w u ys) :
    Calls Tryz.prog 27 #[v, u] w fun e w' => e = .returned (.bool (decide (xs = ys))) ∧ Below w.heap.size w w' := by
  obtain ⟨a, cap, rfl⟩ := hx.val
  obtain ⟨a', cap', rfl⟩ := hy.val
  have hl := hx.1
  have hl' := hy.1
  have Hx := Lib.hid hx; clear hx
  have Hy := Lib.hid hy; clear hy
  by_cases hne : xs.length = ys.length
  · have hnb : ((xs.length : Int) != (ys.length : Int)) = false := by simp [hne]
    have Hne := Lib.hid hne; clear hne
    go_enter Tryz.func27, Tryz.ntmps27
    go_wp2_with fail
    clear hnb
    go_loopw [5] (fun i wr => ∃ k : Nat, i = .int .i64 k ∧ k ≤ xs.length ∧ Hid (xs.take k = ys.take k) ∧ Hid (Below w.heap.size w wr)) (fun i _ => xs.length - (intOf i).toNat)
    case atStart => exact ⟨0, rfl, Nat.zero_le _, by simp [Hid], Below.refl _ _⟩
    case round =>
      obtain ⟨k, rfl, hk, ht, hb⟩ := hrel
      by_cases hlt : k < xs.length
      · have hlt' : k < ys.length := by rw [← Hne.out]; exact hlt
        obtain ⟨b, off, cap1, e, _, hc⟩ := (Hx.out.below hb.out).at hlt
        simp only [Value.slice.injEq] at e
        obtain ⟨rfl, _, rfl⟩ := e
        obtain ⟨b', off', cap1, e, _, hc'⟩ := (Hy.out.below hb.out).at hlt'
        simp only [Value.slice.injEq] at e
        obtain ⟨rfl, _, rfl⟩ := e
        have H1 := Lib.hid (List.take_succ_eq_append_getElem hlt)
        have H2 := Lib.hid (List.take_succ_eq_append_getElem hlt')
        have hlI : (k : Int) < (xs.length : Int) := by omega
        have hlI' : (k : Int) < (ys.length : Int) := by omega
        have H3 : Hid (xs[k] ≠ ys[k] → xs ≠ ys) := fun h e => h (by subst e; rfl)
        generalize xs[k] = x at hc H1 H3
        generalize ys[k] = y at hc' H2 H3
        by_cases hxy : x = y
        · subst hxy
          go_wp2_with fail
          go_quiet (fail)
          go_wp2_with fail
          go_roundw
          case rel => exact ⟨k + 1, by go_num, by omega, by show xs.take (k + 1) = ys.take (k + 1); rw [H1.out, H2.out, ht.out], below_drewN hb.out _⟩
          case measure => simp [intOf]; omega
        · have hxb : (x != y) = true := by simpa using hxy
          have H4 := Lib.hid (H3.out hxy)
          clear hxy
          go_wp2_with fail
          go_quiet (fail)
          go_wp2_with fail
          go_ret
          exact ⟨ret_bool (by simpa using H4.out), below_drewN hb.out _⟩
      · go_wp2_with fail
        go_ret
        refine ⟨ret_bool ?_, hb.out⟩
        have h1 := ht.out
        rw [List.take_of_length_le (by omega), List.take_of_length_le (by rw [← Hne.out]; omega)] at h1
        simp [h1]
  · have hnb : ((xs.length : Int) != (ys.length : Int)) = true := by simp; omega
    have Hne := Lib.hid hne; clear hne
    go_enter Tryz.func27, Tryz.ntmps27
    go_wp2_with fail
    go_ret
    exact ⟨ret_bool (by simp; intro e; exact Hne.out (by rw [e])), Below.refl _ _⟩

theorem within_c (n lo hi : Int) (w : World) : Calls Tryz.prog 51 #[.int .i64 n, .int .i64 lo, .int .i64 hi] w fun e w' => e = .returned (.bool (inR n lo hi)) ∧ w = w' := by
  by_cases h1 : lo ≤ n
  · by_cases h2 : n ≤ hi
    · go_enter Tryz.func51, Tryz.ntmps51
      go_wp2
      go_ret
      exact ⟨ret_bool (by simp [inR, h1, h2]), rfl⟩
    · go_enter Tryz.func51, Tryz.ntmps51
      go_wp2
      go_ret
      exact ⟨ret_bool (by simp [inR, h1, h2]), rfl⟩
  · go_enter Tryz.func51, Tryz.ntmps51
    go_wp2
    go_ret
    exact ⟨ret_bool (by simp [inR]; omega), rfl⟩
theorem isPage_c (n : Int) (w : World) : Calls Tryz.prog 195 #[.int .i64 n] w fun e w' => e = .returned (.bool (inR n 0 15)) ∧ w = w' := by
  go_enter Tryz.func195, Tryz.ntmps195
  go_wp2_with (go_at_call 51; refine (within_c _ _ _ _).mono ?_; rintro e w' ⟨rfl, rfl⟩)
  go_ret
  exact ⟨rfl, rfl⟩
theorem isWord_c (n : Int) (w : World) : Calls Tryz.prog 164 #[.int .i64 n] w fun e w' => e = .returned (.bool (inR n 0 9999)) ∧ w = w' := by
  go_enter Tryz.func164, Tryz.ntmps164
  go_wp2_with (go_at_call 51; refine (within_c _ _ _ _).mono ?_; rintro e w' ⟨rfl, rfl⟩)
  go_ret
  exact ⟨rfl, rfl⟩
theorem isWords1_c (n : Int) (w : World) : Calls Tryz.prog 163 #[.int .i64 n] w fun e w' => e = .returned (.bool (!inR n 0 9999)) ∧ w = w' := by
  go_enter Tryz.func163, Tryz.ntmps163
  go_wp2_with (go_at_call 164; refine (isWord_c _ _).mono ?_; rintro e w' ⟨rfl, rfl⟩)
  go_ret
  exact ⟨rfl, rfl⟩
/-- the first place at which p holds, or -1 -/
def firstAt (p : Int → Bool) (xs : List Int) : Int := if xs.any p then (xs.findIdx p : Nat) else -1

theorem firstAt_hit {p : Int → Bool} {xs : List Int} {k : Nat} (hk : k < xs.length) (h : p xs[k] = true) (hn : ∀ j (hj : j < xs.length), j < k → p xs[j] = false) : firstAt p xs = k := by
  unfold firstAt
  have ha : xs.any p = true := List.any_eq_true.2 ⟨xs[k], List.getElem_mem hk, h⟩
  rw [if_pos ha]
  have : xs.findIdx p = k := by
    rw [List.findIdx_eq hk]
    exact ⟨h, fun j hj => by simp [hn j (by omega) hj]⟩
  rw [this]
theorem firstAt_none {p : Int → Bool} {xs : List Int} (h : ∀ j (hj : j < xs.length), p xs[j] = false) : firstAt p xs = -1 := by
  unfold firstAt
  have ha : xs.any p = false := by
    rw [List.any_eq_false]
    intro x hx
    obtain ⟨j, hj, rfl⟩ := List.mem_iff_getElem.1 hx
    simp [h j hj]
  rw [if_neg (by simp [ha])]
theorem firstAt_nonneg (p : Int → Bool) (xs : List Int) : decide (0 ≤ firstAt p xs) = xs.any p := by
  unfold firstAt
  cases h : xs.any p <;> simp

/-- A predicate on integers, as a function value: it says p, and turns nothing that was there. -/
def Pred (g : Nat) (lb : Array Value) (p : Int → Bool) (w : World) : Prop :=
  (∀ args W, (callFunc g args).run Tryz.prog W = .ok (.enter g args) W) ∧
  ∀ x W, Below w.heap.size w W → Calls Tryz.prog g (#[.int .i64 x] ++ lb) W fun e w' => e = .returned (.bool (p x)) ∧ Below W.heap.size W w'

theorem Pred.pure {g : Nat} {p : Int → Bool} {w : World} (h : ∀ args W, (callFunc g args).run Tryz.prog W = .ok (.enter g args) W)
    (hg : ∀ x W, Calls Tryz.prog g #[.int .i64 x] W fun e w' => e = .returned (.bool (p x)) ∧ W = w') : Pred g #[] p w :=
  ⟨h, fun x W _ => (hg x W).mono fun _ _ ⟨he, hw⟩ => ⟨he, hw ▸ Below.refl _ _⟩⟩

set_option maxHeartbeats 400000 in
theorem IndexFunc_c (g : Nat) (lb : Array Value) (p : Int → Bool) (xs : List Int) (v : Value) (w : World) (h : RI w v xs) (hp : Pred g lb p w) :
    Calls Tryz.prog 199 #[v, .func (.func g) #[] lb] w fun e w' => e = .returned (.int .i64 (firstAt p xs)) ∧ Below w.heap.size w w' := by
  obtain ⟨a, cap, rfl⟩ := h.val
  obtain ⟨eg, hg⟩ := hp
  have hl := h.1
  have H := Lib.hid h; clear h
  have Hg := Lib.hid hg; clear hg
  go_enter Tryz.func199, Tryz.ntmps199
  go_wp2_with fail
  go_loopw [8] (fun i wr => ∃ k : Nat, i = .int .i64 k ∧ k ≤ xs.length ∧ Hid (∀ j (hj : j < xs.length), j < k → p xs[j] = false) ∧ Hid (Below w.heap.size w wr)) (fun i _ => xs.length - (intOf i).toNat)
  case atStart => exact ⟨0, rfl, Nat.zero_le _, fun j _ hj => absurd hj (Nat.not_lt_zero _), Below.refl _ _⟩
  case round =>
    obtain ⟨k, rfl, hk, hn, hb⟩ := hrel
    by_cases hlt : k < xs.length
    · obtain ⟨b, off, cap1, e, _, hc⟩ := (H.out.below hb.out).at hlt
      simp only [Value.slice.injEq] at e
      obtain ⟨rfl, _, rfl⟩ := e
      have hlI : (k : Int) < (xs.length : Int) := by omega
      have hcall := Lib.hid (Hg.out xs[k] wr hb.out)
      have hit : Hid (p xs[k] = true → firstAt p xs = k) := fun h => firstAt_hit hlt h hn.out
      have miss : Hid (p xs[k] = false → ∀ j (hj : j < xs.length), j < k + 1 → p xs[j] = false) := fun h j hj hjk => by
        by_cases e : j = k
        · subst e; exact h
        · exact hn.out j hj (by omega)
      generalize xs[k] = x at hc hcall hit miss
      cases hq : p x with
      | true =>
        have Hit := Lib.hid (hit.out hq)
        rw [hq] at hcall
        clear hit miss hq
        go_wp2_with (go_at_fn g; refine hcall.out.mono ?_; rintro e w' ⟨rfl, hb'⟩; have Hb' := Lib.hid hb'; clear hb')
        go_ret
        exact ⟨ret_int Hit.out.symm, hb.out.trans (Hb'.out.mono hb.out.size)⟩
      | false =>
        have Miss := Lib.hid (miss.out hq)
        rw [hq] at hcall
        clear hit miss hq
        go_wp2_with (go_at_fn g; refine hcall.out.mono ?_; rintro e w' ⟨rfl, hb'⟩; have Hb' := Lib.hid hb'; clear hb')
        go_roundw
        case rel => exact ⟨k + 1, by go_num, by omega, Miss.out, hb.out.trans (Hb'.out.mono hb.out.size)⟩
        case measure => simp [intOf]; omega
    · have : k = xs.length := by omega
      subst this
      go_wp2_with fail
      go_ret
      exact ⟨ret_int (firstAt_none (fun j hj => hn.out j hj hj)).symm, hb.out⟩
theorem ContainsFunc_c (g : Nat) (lb : Array Value) (p : Int → Bool) (xs : List Int) (v : Value) (w : World) (h : RI w v xs) (hp : Pred g lb p w) :
    Calls Tryz.prog 154 #[v, .func (.func g) #[] lb] w fun e w' => e = .returned (.bool (xs.any p)) ∧ Below w.heap.size w w' := by
  have hc := IndexFunc_c g lb p xs v w h hp
  have hn := Lib.hid (firstAt_nonneg p xs)
  have Hc := Lib.hid hc; clear hc h hp
  generalize firstAt p xs = n at hn Hc
  go_enter Tryz.func154, Tryz.ntmps154
  go_wp2_with (go_at_call 199; refine Hc.out.mono ?_; rintro e w' ⟨rfl, hb'⟩; have Hb' := Lib.hid hb'; clear hb')
  go_ret
  exact ⟨ret_bool hn.out, Hb'.out⟩

/-- the words of a page: four, each in range -/
def pageOk (xs : List Int) : Bool := xs.all (fun x => inR x 0 9999) && decide (xs.length = 4)
theorem pageOk_iff {xs : List Int} : pageOk xs = true ↔ (∀ x ∈ xs, 0 ≤ x ∧ x ≤ 9999) ∧ xs.length = 4 := by
  simp [pageOk, inR]

set_option maxHeartbeats 400000 in
theorem l2Words_c (xs : List Int) (v : Value) (w : World) (h : RI w v xs) :
    Calls Tryz.prog 90 #[v] w fun e w' => e = .returned (.bool (pageOk xs)) ∧ w = w' := by
  obtain ⟨a, cap, rfl⟩ := h.val
  have hl := h.1
  have H := Lib.hid h; clear h
  go_enter Tryz.func90, Tryz.ntmps90
  go_wp2_with fail
  go_loop [3] (fun i => ∃ k : Nat, i = .int .i64 k ∧ k ≤ xs.length ∧ Hid (∀ x ∈ xs.take k, inR x 0 9999 = true)) (fun i => xs.length - (intOf i).toNat)
  case atStart => exact ⟨0, rfl, Nat.zero_le _, by simp [Hid]⟩
  case round =>
    obtain ⟨k, rfl, hk, hall⟩ := hrel
    by_cases hlt : k < xs.length
    · obtain ⟨b, off, cap', e, _, hc⟩ := H.out.at hlt
      simp only [Value.slice.injEq] at e
      obtain ⟨rfl, _, rfl⟩ := e
      have hx : xs[k] ∈ xs := List.getElem_mem hlt
      have htk : xs.take (k + 1) = xs.take k ++ [xs[k]] := by rw [List.take_succ_eq_append_getElem hlt]
      generalize xs[k] = x at hc hx htk
      have Ht := Lib.hid htk; clear htk
      have Hx := Lib.hid hx; clear hx
      cases hin : inR x 0 9999
      · have Hin := Lib.hid hin; clear hin
        have hF : pageOk xs = false := by
          simp only [pageOk, Bool.and_eq_false_iff, List.all_eq_false]
          exact .inl ⟨x, Hx.out, by simp [Hin.out]⟩
        have HF := Lib.hid hF; clear hF
        go_wp2_with (go_at_call 41; refine (l6In_c _ _ _ _).mono ?_; rintro e w' ⟨rfl, rfl⟩; rw [Hin.out])
        go_ret
        exact ⟨ret_bool HF.out.symm, rfl⟩
      · have Hin := Lib.hid hin; clear hin
        go_wp2_with (go_at_call 41; refine (l6In_c _ _ _ _).mono ?_; rintro e w' ⟨rfl, rfl⟩; rw [Hin.out])
        go_round
        case rel =>
          refine ⟨k + 1, by go_num, by omega, ?_⟩
          show ∀ y ∈ xs.take (k + 1), inR y 0 9999 = true
          rw [Ht.out]
          intro y hy
          rcases List.mem_append.1 hy with hy | hy
          · exact hall y hy
          · simp at hy; rw [hy]; exact Hin.out
        case measure => simp [intOf]; omega
    · go_wp2_with fail
      go_ret
      refine ⟨ret_bool ?_, rfl⟩
      have : xs.all (fun x => inR x 0 9999) = true := by
        rw [List.all_eq_true]
        intro x hx
        refine hall x ?_
        rw [List.take_of_length_le (by omega)]; exact hx
      rw [pageOk, this]; exact Bool.eq_iff_iff.2 (by simp; omega)
theorem isWords_c (xs : List Int) (v : Value) (w : World) (h : RI w v xs) :
    Calls Tryz.prog 109 #[v] w fun e w' => e = .returned (.bool (pageOk xs)) ∧ Below w.heap.size w w' := by
  obtain ⟨a, cap, rfl⟩ := h.val
  have hl := h.1
  have hc := ContainsFunc_c 163 #[] (fun x => !inR x 0 9999) xs _ w h (Pred.pure (Proofs.enters_of Tryz.func163 (by kernel_rfl) rfl) isWords1_c)
  have e : (xs.any fun x => !inR x 0 9999) = !(xs.all fun x => inR x 0 9999) := by
    rw [List.not_all_eq_any_not]
  rw [e] at hc
  have Hc := Lib.hid hc; clear hc h e
  unfold pageOk
  generalize (xs.all fun x => inR x 0 9999) = t at Hc
  by_cases h4 : xs.length = 4
  · have hb : ((xs.length : Int) == 4) = true := by simp; omega
    have H4 := Lib.hid h4; clear h4
    go_enter Tryz.func109, Tryz.ntmps109
    go_wp2_with (go_at_call 154; refine Hc.out.mono ?_; rintro e w' ⟨rfl, hb'⟩; have Hb' := Lib.hid hb'; clear hb')
    go_ret
    exact ⟨ret_bool (by simp [H4.out]), Hb'.out⟩
  · have hb : ((xs.length : Int) == 4) = false := by simp; omega
    have H4 := Lib.hid h4; clear h4
    go_enter Tryz.func109, Tryz.ntmps109
    go_wp2_with fail
    go_ret
    exact ⟨ret_bool (by simp [H4.out]), Below.refl _ _⟩

/-- the sum of words -/
def sumOf (xs : List Int) : Int := xs.foldl (fun n x => (31 * n + x) % 9973) 1
theorem sumOf_snoc (xs : List Int) (x : Int) : sumOf (xs ++ [x]) = (31 * sumOf xs + x) % 9973 := by simp [sumOf]
theorem sumOf_rng : ∀ xs : List Int, 0 ≤ sumOf xs ∧ sumOf xs < 9973 := by
  intro xs
  rcases List.eq_nil_or_concat xs with rfl | ⟨l, x, rfl⟩
  · decide
  · rw [List.concat_eq_append, sumOf_snoc]
    exact ⟨Int.emod_nonneg _ (by decide), Int.emod_lt_of_pos _ (by decide)⟩
/-- what PageSum hands back -/
def pageSum (xs : List Int) : Int := if pageOk xs then sumOf xs else -1


end Go.Proofs.YtfnpjdgjceiklaaGreatDoor
