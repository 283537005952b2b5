/- Contracts: changes from a page to another one; runs of equal words. -/
import Derived.Test.YtnohlcffmikecaaWalkA
namespace Go.Proofs.Ytnohlcffmikecaa
open Go.RowKit

/-- the changes in the first k places -/
def diffUpto (a b : List Int) : Nat → List Int
  | 0 => []
  | k + 1 => diffUpto a b k ++ (if a[k]?.getD 0 = b[k]?.getD 0 then [] else [(k : Int), b[k]?.getD 0])
theorem diffUpto_len (a b : List Int) : ∀ k, (diffUpto a b k).length ≤ 2 * k
  | 0 => Nat.le_refl _
  | k + 1 => by have := diffUpto_len a b k; simp only [diffUpto, List.length_append]; split <;> simp <;> omega
theorem diffUpto_even (a b : List Int) : ∀ k, (diffUpto a b k).length % 2 = 0
  | 0 => rfl
  | k + 1 => by have := diffUpto_even a b k; simp only [diffUpto, List.length_append]; split <;> simp <;> omega
def diffOk (a b : List Int) : Bool := pageOk a && pageOk b
def diffL (a b : List Int) : List Int := if diffOk a b then diffUpto a b 4 else []

set_option maxHeartbeats 1000000 in
theorem specPageDiff_c (xs ys : List Int) (v u : Value) (w : World) (hx : RI w v xs) (hy : RI w u ys) : Calls Try.prog 11 #[v, u] w (MadeIB w (diffL xs ys) (diffOk xs ys)) := by
  obtain ⟨a, cap, rfl⟩ := hx.val
  obtain ⟨a', cap', rfl⟩ := hy.val
  have hl := hx.1
  have hl' := hy.1
  have hb1 : ∀ o, Below w.heap.size w (w.alloc o) := fun o => (Below.refl _ _).alloc (Nat.le_refl _) o
  cases hp : pageOk xs
  · have hr : diffL xs ys = [] := by simp [diffL, diffOk, hp]
    have ho : diffOk xs ys = false := by simp [diffOk, hp]
    rw [hr, ho]
    have Hx := Lib.hid (hx.below (hb1 (.cells #[] 3))); clear hx hy
    have Hp := Lib.hid hp; clear hp hr ho
    have Hb := Lib.hid (hb1 (.cells #[] 3)); clear hb1
    go_enter Try.func11, Try.ntmps11
    go_wp2_with (go_at_call 29; refine (l34Page_c xs _ _ Hx.out).mono ?_; rintro e w' ⟨rfl, rfl⟩; rw [Hp.out])
    go_ret2
    exact ⟨_, rfl, OI.lit0 (Nat.le_refl _), Hb.out⟩
  · cases hq : pageOk ys
    · have hr : diffL xs ys = [] := by simp [diffL, diffOk, hq]
      have ho : diffOk xs ys = false := by simp [diffOk, hq]
      rw [hr, ho]
      have Hx := Lib.hid (hx.below (hb1 (.cells #[] 3)))
      have Hy := Lib.hid (hy.below (hb1 (.cells #[] 3))); clear hx hy
      have Hp := Lib.hid hp
      have Hq := Lib.hid hq; clear hp hq hr ho
      have Hb := Lib.hid (hb1 (.cells #[] 3)); clear hb1
      go_enter Try.func11, Try.ntmps11
      go_wp2_with fail
      refine (l34Page_c xs _ _ Hx.out).mono ?_; rintro e w' ⟨rfl, rfl⟩; rw [Hp.out]
      go_wp2_with fail
      refine (l34Page_c ys _ _ Hy.out).mono ?_; rintro e w' ⟨rfl, rfl⟩; rw [Hq.out]
      go_wp2_with fail
      go_ret2
      exact ⟨_, rfl, OI.lit0 (Nat.le_refl _), Hb.out⟩
    · have hr : diffL xs ys = diffUpto xs ys 4 := by simp [diffL, diffOk, hp, hq]
      have ho : diffOk xs ys = true := by simp [diffOk, hp, hq]
      rw [hr, ho]
      have hlx := (pageOk_iff.1 hp).2
      have hly := (pageOk_iff.1 hq).2
      have Hx := Lib.hid (hx.below (hb1 (.cells #[] 3)))
      have Hy := Lib.hid (hy.below (hb1 (.cells #[] 3))); clear hl hl'
      have Hp := Lib.hid hp
      have Hq := Lib.hid hq; clear hp hq hr ho
      have Hb := Lib.hid (hb1 (.cells #[] 3)); clear hb1
      have Hx0 := Lib.hid hx; clear hx
      have Hy0 := Lib.hid hy; clear hy
      have Lx := Lib.hid hlx
      have Ly := Lib.hid hly
      rw [hlx] at Hx Hx0 ⊢
      rw [hly] at Hy Hy0 ⊢
      clear hlx hly
      go_enter Try.func11, Try.ntmps11
      go_wp2_with fail
      refine (l34Page_c xs _ _ Hx.out).mono ?_; rintro e w' ⟨rfl, rfl⟩; rw [Hp.out]
      go_wp2_with fail
      refine (l34Page_c ys _ _ Hy.out).mono ?_; rintro e w' ⟨rfl, rfl⟩; rw [Hq.out]
      go_wp2_with fail
      go_loopw [6, 7] (fun out i wr => ∃ k : Nat, i = .int .i64 k ∧ k ≤ 4 ∧ Hid (OI wr w.heap.size out (diffUpto xs ys k)) ∧ Hid (Below w.heap.size w wr)) (fun _ i _ => 4 - (intOf i).toNat)
      case atStart => exact ⟨0, rfl, Nat.zero_le _, OI.lit0 (Nat.le_refl _), Hb.out⟩
      case round =>
        obtain ⟨k, rfl, hk, ho, hb⟩ := hrel
        by_cases hlt : k < 4
        · obtain ⟨b, off, cap1, e, _, hc⟩ := (Hx0.out.below hb.out).at (k := k) (by rw [Lx.out]; exact hlt)
          simp only [Value.slice.injEq] at e
          obtain ⟨rfl, h', rfl⟩ := e
          clear h'
          obtain ⟨b', off', cap1, e, _, hc'⟩ := (Hy0.out.below hb.out).at (k := k) (by rw [Ly.out]; exact hlt)
          simp only [Value.slice.injEq] at e
          obtain ⟨rfl, h', rfl⟩ := e
          clear h'
          have hlI : (k : Int) < 4 := by omega
          have hkx : k < xs.length := by rw [Lx.out]; exact hlt
          have hky : k < ys.length := by rw [Ly.out]; exact hlt
          have hd : diffUpto xs ys (k + 1) = diffUpto xs ys k ++ (if xs[k] = ys[k] then [] else [(k : Int), ys[k]]) := by
            simp only [diffUpto, List.getElem?_eq_getElem hkx, List.getElem?_eq_getElem hky, Option.getD_some]
          have hdl := diffUpto_len xs ys k
          have Hd := Lib.hid hd; clear hd
          generalize xs[k] = x at hc Hd
          generalize ys[k] = y at hc' Hd
          by_cases hxy : x = y
          · have Hd2 := Lib.hid (Hd.out.trans (by rw [if_pos hxy, List.append_nil])); clear Hd
            subst hxy
            go_wp2_with fail
            go_quiet (fail)
            go_wp2_with fail
            go_roundw
            case rel => exact ⟨k + 1, by go_num, by omega, by rw [Hd2.out]; exact ho.out.drewN _, below_drewN hb.out _⟩
            case measure => simp [intOf]; omega
          · have Hd2 := Lib.hid (Hd.out.trans (by rw [if_neg hxy])); clear Hd
            have hxb : (x != y) = true := by simpa using hxy
            clear hxy
            go_wp2_with fail
            go_quiet (fail)
            have hs := Lib.hid hb.out.size
            go_wp2_with (at_builtin; refine wpList_app rfl _ _ rfl w.heap.size _ (diffUpto xs ys k) rfl ((ho.out.drewN _).alloc _) _ 2 2 [(k : Int), y] rfl rfl (cell_two_new _ _ _ _) (by omega) (by simp; exact Nat.le_succ_of_le hs.out) ?_; intro v' w1 ho1 hg1)
            go_roundw
            case rel => exact ⟨k + 1, by go_num, by omega, by rw [Hd2.out]; exact ho1, Below.app ((below_drewN hb.out _).alloc (by simp; exact hs.out) _) ((ho.out.drewN _).alloc _) hg1 (Nat.le_refl _) (by simp; exact Nat.le_succ_of_le hs.out)⟩
            case measure => simp [intOf]; omega
        · have : k = 4 := by omega
          subst this
          go_wp2_with fail
          go_ret2
          exact ⟨_, rfl, ho.out, hb.out⟩

set_option maxHeartbeats 1000000 in
theorem implPageDiff_c (xs ys : List Int) (v u : Value) (w : World) (hx : RI w v xs) (hy : RI w u ys) : Calls Try.prog 10 #[v, u] w (MadeIB w (diffL xs ys) (diffOk xs ys)) := by
  obtain ⟨a, cap, rfl⟩ := hx.val
  obtain ⟨a', cap', rfl⟩ := hy.val
  have hl := hx.1
  have hl' := hy.1
  cases hp : pageOk xs
  · have hr : diffL xs ys = [] := by simp [diffL, diffOk, hp]
    have ho : diffOk xs ys = false := by simp [diffOk, hp]
    rw [hr, ho]
    have Hx := Lib.hid hx; clear hx hy
    have Hp := Lib.hid hp; clear hp hr ho
    go_enter Try.func10, Try.ntmps10
    go_wp2_with (go_at_call 28; refine (isWords_c xs _ _ Hx.out).mono ?_; rintro e w1 ⟨rfl, hb⟩; rw [Hp.out]; have Hb := Lib.hid hb; clear hb)
    go_ret2
    exact ⟨_, rfl, OI.nil _ _, Hb.out⟩
  · cases hq : pageOk ys
    · have hr : diffL xs ys = [] := by simp [diffL, diffOk, hq]
      have ho : diffOk xs ys = false := by simp [diffOk, hq]
      rw [hr, ho]
      have Hx := Lib.hid hx
      have Hy := Lib.hid hy; clear hx hy
      have Hp := Lib.hid hp
      have Hq := Lib.hid hq; clear hp hq hr ho
      go_enter Try.func10, Try.ntmps10
      go_wp2_with fail
      refine (isWords_c xs _ _ Hx.out).mono ?_; rintro e w1 ⟨rfl, hb⟩; rw [Hp.out]; have Hb := Lib.hid hb; clear hb
      go_wp2_with fail
      refine (isWords_c ys _ _ (Hy.out.below Hb.out)).mono ?_; rintro e w2 ⟨rfl, hb⟩; rw [Hq.out]; have Hb2 := Lib.hid (Hb.out.trans (hb.mono Hb.out.size)); clear hb
      go_wp2_with fail
      go_ret2
      exact ⟨_, rfl, OI.nil _ _, Hb2.out⟩
    · have hr : diffL xs ys = diffUpto xs ys 4 := by simp [diffL, diffOk, hp, hq]
      have ho : diffOk xs ys = true := by simp [diffOk, hp, hq]
      rw [hr, ho]
      have hlx := (pageOk_iff.1 hp).2
      have hly := (pageOk_iff.1 hq).2
      have Hp := Lib.hid hp
      have Hq := Lib.hid hq; clear hp hq hr ho hl hl'
      have Hx0 := Lib.hid hx; clear hx
      have Hy0 := Lib.hid hy; clear hy
      have Lx := Lib.hid hlx
      have Ly := Lib.hid hly
      rw [hlx] at Hx0 ⊢
      rw [hly] at Hy0 ⊢
      clear hlx hly
      go_enter Try.func10, Try.ntmps10
      go_wp2_with fail
      refine (isWords_c xs _ _ Hx0.out).mono ?_; rintro e w1 ⟨rfl, hb⟩; rw [Hp.out]; have Hb := Lib.hid hb; clear hb
      go_wp2_with fail
      refine (isWords_c ys _ _ (Hy0.out.below Hb.out)).mono ?_; rintro e w2 ⟨rfl, hb⟩; rw [Hq.out]; have Hb2 := Lib.hid (Hb.out.trans (hb.mono Hb.out.size)); clear hb
      go_wp2_with fail
      go_loopw [6, 19] (fun out i wr => ∃ k : Nat, i = .int .i64 k ∧ k ≤ 4 ∧ Hid (OI wr w.heap.size out (diffUpto xs ys k)) ∧ Hid (Below w.heap.size w wr)) (fun _ i _ => 4 - (intOf i).toNat)
      case atStart => exact ⟨0, rfl, Nat.zero_le _, OI.nil _ _, Hb2.out⟩
      case round =>
        clear Hb Hb2
        obtain ⟨k, rfl, hk, ho, hb⟩ := hrel
        by_cases hlt : k < 4
        · obtain ⟨b, off, cap1, e, _, hc⟩ := (Hx0.out.below hb.out).at (k := k) (by rw [Lx.out]; exact hlt)
          simp only [Value.slice.injEq] at e
          obtain ⟨rfl, h', rfl⟩ := e
          clear h'
          obtain ⟨b', off', cap1, e, _, hc'⟩ := (Hy0.out.below hb.out).at (k := k) (by rw [Ly.out]; exact hlt)
          simp only [Value.slice.injEq] at e
          obtain ⟨rfl, h', rfl⟩ := e
          clear h'
          have hlI : (k : Int) < 4 := by omega
          have hkx : k < xs.length := by rw [Lx.out]; exact hlt
          have hky : k < ys.length := by rw [Ly.out]; exact hlt
          have hd : diffUpto xs ys (k + 1) = diffUpto xs ys k ++ (if xs[k] = ys[k] then [] else [(k : Int), ys[k]]) := by
            simp only [diffUpto, List.getElem?_eq_getElem hkx, List.getElem?_eq_getElem hky, Option.getD_some]
          have hdl := diffUpto_len xs ys k
          have Hd := Lib.hid hd; clear hd
          generalize xs[k] = x at hc Hd
          generalize ys[k] = y at hc' Hd
          by_cases hxy : x = y
          · have Hd2 := Lib.hid (Hd.out.trans (by rw [if_pos hxy, List.append_nil])); clear Hd
            have hxb : (y != x) = false := by simpa using hxy.symm
            have Hs := Lib.hid hxy; clear hxy
            go_wp2_with fail
            go_roundw
            case rel => exact ⟨k + 1, by go_num, by omega, by rw [Hd2.out]; exact ho.out, hb.out⟩
            case measure => simp [intOf]; omega
          · have Hd2 := Lib.hid (Hd.out.trans (by rw [if_neg hxy])); clear Hd
            have hxb : (y != x) = true := by simpa using (fun e : y = x => hxy e.symm)
            clear hxy
            have hs := Lib.hid hb.out.size
            go_wp2_with (at_builtin; refine wpList_app rfl _ _ rfl w.heap.size _ (diffUpto xs ys k) rfl (ho.out.alloc _) _ 2 2 [(k : Int), y] rfl rfl (cell_two_new _ _ _ _) (by omega) (by simp; exact Nat.le_succ_of_le hs.out) ?_; intro v' w1 ho1 hg1; have Ho1 := Lib.hid ho1; have Hg1 := Lib.hid hg1; clear ho1 hg1)
            go_roundw
            case rel => exact ⟨k + 1, by go_num, by omega, by rw [Hd2.out]; exact Ho1.out, Below.app (hb.out.alloc hs.out _) (ho.out.alloc _) Hg1.out (Nat.le_refl _) (by simp; exact Nat.le_succ_of_le hs.out)⟩
            case measure => simp [intOf]; omega
        · have : k = 4 := by omega
          subst this
          go_wp2_with fail
          go_ret2
          exact ⟨_, rfl, ho.out, hb.out⟩
end Go.Proofs.Ytnohlcffmikecaa
