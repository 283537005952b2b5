/- Contracts: runs of equal words of a page. -/
import Derived.Test.YtnohlcffmikecaaWalkA
namespace Go.Proofs.Ytnohlcffmikecaa
open Go.RowKit

/-- one more in the last pair -/
def incr (l : List Int) : List Int := l.set (l.length - 2) (l[l.length - 2]?.getD 0 + 1)
/-- the pairs of the first k words -/
def packUpto (xs : List Int) : Nat → List Int
  | 0 => []
  | k + 1 => if 0 < k ∧ xs[k]?.getD 0 = xs[k - 1]?.getD 0 then incr (packUpto xs k) else packUpto xs k ++ [1, xs[k]?.getD 0]
theorem packUpto_inv (xs : List Int) : ∀ k, (packUpto xs k).length ≤ 2 * k ∧ (0 < k → 2 ≤ (packUpto xs k).length ∧ 1 ≤ (packUpto xs k)[(packUpto xs k).length - 2]?.getD 0 ∧ (packUpto xs k)[(packUpto xs k).length - 2]?.getD 0 ≤ k)
  | 0 => ⟨Nat.le_refl _, fun h => absurd h (Nat.lt_irrefl _)⟩
  | k + 1 => by
    obtain ⟨h1, h2⟩ := packUpto_inv xs k
    unfold packUpto
    split
    · rename_i h
      obtain ⟨h3, h4, h5⟩ := h2 h.1
      unfold incr
      have hlt : (packUpto xs k).length - 2 < (packUpto xs k).length := by omega
      simp only [List.length_set, List.getElem?_set_self hlt, Option.getD_some]
      exact ⟨by omega, fun _ => ⟨h3, by omega, by omega⟩⟩
    · have e : (packUpto xs k ++ [1, xs[k]?.getD 0])[(packUpto xs k ++ [1, xs[k]?.getD 0]).length - 2]? = some 1 := by
        rw [List.length_append]
        simp only [List.length_cons, List.length_nil]
        rw [List.getElem?_append_right (by omega), show (packUpto xs k).length + (0 + 1 + 1) - 2 - (packUpto xs k).length = 0 by omega]
        rfl
      rw [e]
      simp only [List.length_append, List.length_cons, List.length_nil, Option.getD_some]
      exact ⟨by omega, fun _ => ⟨by omega, by omega, by omega⟩⟩
def packL (xs : List Int) : List Int := if pageOk xs then packUpto xs 4 else []

/-- the step of a round, by its cases -/
theorem pack_same {xs : List Int} {k : Nat} (h0 : 0 < k) (hk : k < xs.length) (h : xs[k] = xs[k - 1]'(by omega)) : packUpto xs (k + 1) = incr (packUpto xs k) := by
  rw [packUpto, if_pos ⟨h0, by rw [List.getElem?_eq_getElem hk, List.getElem?_eq_getElem (by omega)]; exact h⟩]
theorem pack_new {xs : List Int} {k : Nat} (hk : k < xs.length) (h : 0 < k → xs[k] ≠ xs[k - 1]'(by omega)) : packUpto xs (k + 1) = packUpto xs k ++ [1, xs[k]] := by
  rw [packUpto, if_neg (fun ⟨h0, e⟩ => h h0 (by rw [List.getElem?_eq_getElem hk, List.getElem?_eq_getElem (by omega)] at e; exact e)), List.getElem?_eq_getElem hk]
  rfl

set_option maxHeartbeats 1000000 in
theorem specPagePack_c (xs : List Int) (v : Value) (w : World) (hx : RI w v xs) : Calls Try.prog 21 #[v] w (MadeIB w (packL xs) (pageOk xs)) := by
  obtain ⟨a, cap, rfl⟩ := hx.val
  have hb1 : ∀ o, Below w.heap.size w (w.alloc o) := fun o => (Below.refl _ _).alloc (Nat.le_refl _) o
  cases hp : pageOk xs
  · have hr : packL xs = [] := by simp [packL, hp]
    rw [hr]
    have Hx := Lib.hid (hx.below (hb1 (.cells #[] 3))); clear hx
    have Hp := Lib.hid hp; clear hp hr
    have Hb := Lib.hid (hb1 (.cells #[] 3)); clear hb1
    go_enter Try.func21, Try.ntmps21
    go_wp2_with (go_at_call 29; refine (l34Page_c xs _ _ Hx.out).mono ?_; rintro e w' ⟨rfl, rfl⟩; rw [Hp.out])
    go_ret2
    exact ⟨_, rfl, OI.lit0 (Nat.le_refl _), Hb.out⟩
  · have hr : packL xs = packUpto xs 4 := by simp [packL, hp]
    rw [hr]
    have hlx := (pageOk_iff.1 hp).2
    have Hx := Lib.hid (hx.below (hb1 (.cells #[] 3)))
    have Hp := Lib.hid hp; clear hp hr
    have Hb := Lib.hid (hb1 (.cells #[] 3)); clear hb1
    have Hx0 := Lib.hid hx; clear hx
    have Lx := Lib.hid hlx
    rw [hlx] at Hx Hx0 ⊢
    clear hlx
    go_enter Try.func21, Try.ntmps21
    go_wp2_with fail
    refine (l34Page_c xs _ _ Hx.out).mono ?_; rintro e w' ⟨rfl, rfl⟩; rw [Hp.out]
    go_wp2_with fail
    go_loopw [4, 5] (fun out i wr => ∃ k : Nat, i = .int .i64 k ∧ k ≤ 4 ∧ Hid (OI wr w.heap.size out (packUpto xs k)) ∧ Hid (Below w.heap.size w wr)) (fun _ i _ => 4 - (intOf i).toNat)
    case atStart => exact ⟨0, rfl, Nat.zero_le _, OI.lit0 (Nat.le_refl _), Hb.out⟩
    case round =>
      clear Hb
      obtain ⟨k, rfl, hk, ho, hb⟩ := hrel
      by_cases hlt : k < 4
      · obtain ⟨b, off, cap1, e, _, hc⟩ := (Hx0.out.below hb.out).at (k := k) (by rw [Lx.out]; exact hlt)
        simp only [Value.slice.injEq] at e
        obtain ⟨rfl, h', rfl⟩ := e
        clear h'
        have hlI : (k : Int) < 4 := by omega
        have hkx : k < xs.length := by rw [Lx.out]; exact hlt
        obtain ⟨i1, i2⟩ := packUpto_inv xs k
        by_cases h0 : 0 < k
        · obtain ⟨i3, i4, i5⟩ := i2 h0
          have hkx1 : k - 1 < xs.length := by omega
          obtain ⟨b2, off2, cap2, e2, _, hc2⟩ := (Hx0.out.below hb.out).at hkx1
          simp only [Value.slice.injEq] at e2
          obtain ⟨h1, h', h2⟩ := e2
          obtain ⟨rfl, rfl⟩ : b = b2 ∧ off = off2 := by simpa using h1
          clear h' h1 h2 i2
          have hgt : (0 : Int) < (k : Int) := by omega
          by_cases hxy : xs[k] = xs[k - 1]
          · have Hs := Lib.hid (pack_same h0 hkx hxy)
            rw [hxy] at hc
            clear hxy
            generalize xs[k - 1] = x at hc hc2
            obtain ⟨g, cap', rfl, hbg, hcg, hf⟩ := ho.out.at (k := (packUpto xs k).length - 2) (by omega)
            obtain ⟨ho2, hg2⟩ := ho.out.stored rfl ((packUpto xs k).length - 2) ((packUpto xs k)[(packUpto xs k).length - 2]?.getD 0 + 1)
            have he : (packUpto xs k)[(packUpto xs k).length - 2]?.getD 0 = (packUpto xs k)[(packUpto xs k).length - 2] := by
              rw [List.getElem?_eq_getElem (by omega)]; rfl
            rw [← he] at hcg
            have hs' := Hs.out
            unfold incr at hs'
            rw [← hs'] at ho2
            have Ho2 := Lib.hid ho2
            clear hs'
            have Hbb := Lib.hid (Below.app hb.out ho.out hg2 (Nat.le_refl _) hb.out.size)
            clear ho2 hg2 he ho
            generalize (packUpto xs k)[(packUpto xs k).length - 2]?.getD 0 = y at hcg i4 i5 Ho2 Hbb
            generalize (packUpto xs k).length = n at *
            go_wp2_with fail
            go_quiet (fail)
            go_wp2_with fail
            go_roundw
            case rel => exact ⟨k + 1, by go_num, by omega, Ho2.out.drewN _, below_drewN Hbb.out _⟩
            case measure => simp [intOf]; omega
          · have Hs := Lib.hid (pack_new hkx (fun _ => hxy))
            have hxb : (xs[k] == xs[k - 1]) = false := by simpa using hxy
            clear hxy
            generalize xs[k] = x at hc hxb Hs
            generalize xs[k - 1] = y at hc2 hxb
            have hs := Lib.hid hb.out.size
            go_wp2_with fail
            go_quiet (fail)
            go_wp2_with (at_builtin; refine wpList_app rfl _ _ rfl w.heap.size _ (packUpto xs k) rfl ((ho.out.drewN _).alloc _) _ 2 2 [1, x] rfl rfl (cell_two_new _ _ _ _) (by omega) (by simp; exact Nat.le_succ_of_le hs.out) ?_; intro v' w1 ho1 hg1; have Ho1 := Lib.hid ho1; have Hg1 := Lib.hid hg1; clear ho1 hg1)
            go_roundw
            case rel => exact ⟨k + 1, by go_num, by omega, by rw [Hs.out]; exact Ho1.out, Below.app ((below_drewN hb.out _).alloc hs.out _) ((ho.out.drewN _).alloc _) Hg1.out (Nat.le_refl _) (by simp; exact Nat.le_succ_of_le hs.out)⟩
            case measure => simp [intOf]; omega
        · have hk0 : k = 0 := by omega
          subst hk0
          have Hs := Lib.hid (pack_new hkx (fun h => absurd h h0))
          clear i2
          generalize xs[0] = x at hc Hs
          simp only [Nat.add_zero] at hc
          have hs := Lib.hid hb.out.size
          go_wp2_with fail
          go_quiet (fail)
          go_wp2_with (at_builtin; refine wpList_app rfl _ _ rfl w.heap.size _ (packUpto xs 0) rfl ((ho.out.drewN _).alloc _) _ 2 2 [1, x] rfl rfl (cell_two_new _ _ _ _) (by omega) (by simp; exact Nat.le_succ_of_le hs.out) ?_; intro v' w1 ho1 hg1; have Ho1 := Lib.hid ho1; have Hg1 := Lib.hid hg1; clear ho1 hg1)
          go_roundw
          case rel => exact ⟨1, by go_num, by omega, by rw [Hs.out]; exact Ho1.out, Below.app ((below_drewN hb.out _).alloc hs.out _) ((ho.out.drewN _).alloc _) Hg1.out (Nat.le_refl _) (by simp; exact Nat.le_succ_of_le hs.out)⟩
          case measure => simp [intOf]
      · have : k = 4 := by omega
        subst this
        go_wp2_with fail
        go_ret2
        exact ⟨_, rfl, ho.out, hb.out⟩

set_option maxHeartbeats 1000000 in
theorem implPagePack_c (xs : List Int) (v : Value) (w : World) (hx : RI w v xs) : Calls Try.prog 20 #[v] w (MadeIB w (packL xs) (pageOk xs)) := by
  obtain ⟨a, cap, rfl⟩ := hx.val
  cases hp : pageOk xs
  · have hr : packL xs = [] := by simp [packL, hp]
    rw [hr]
    have Hx := Lib.hid hx; clear hx
    have Hp := Lib.hid hp; clear hp hr
    go_enter Try.func20, Try.ntmps20
    go_wp2_with (go_at_call 28; refine (isWords_c xs _ _ Hx.out).mono ?_; rintro e w1 ⟨rfl, hb⟩; rw [Hp.out]; have Hb := Lib.hid hb; clear hb)
    go_ret2
    exact ⟨_, rfl, OI.nil _ _, Hb.out⟩
  · have hr : packL xs = packUpto xs 4 := by simp [packL, hp]
    rw [hr]
    have hlx := (pageOk_iff.1 hp).2
    have Hp := Lib.hid hp; clear hp hr
    have Hx0 := Lib.hid hx; clear hx
    have Lx := Lib.hid hlx
    rw [hlx] at Hx0 ⊢
    clear hlx
    go_enter Try.func20, Try.ntmps20
    go_wp2_with fail
    refine (isWords_c xs _ _ Hx0.out).mono ?_; rintro e w1 ⟨rfl, hb⟩; rw [Hp.out]; have Hb := Lib.hid hb; clear hb
    go_wp2_with fail
    go_loopw [4, 12] (fun out i wr => ∃ k : Nat, i = .int .i64 k ∧ k ≤ 4 ∧ Hid (OI wr w.heap.size out (packUpto xs k)) ∧ Hid (Below w.heap.size w wr)) (fun _ i _ => 4 - (intOf i).toNat)
    case atStart => exact ⟨0, rfl, Nat.zero_le _, OI.nil _ _, Hb.out⟩
    case round =>
      clear Hb
      obtain ⟨k, rfl, hk, ho, hb⟩ := hrel
      by_cases hlt : k < 4
      · obtain ⟨b, off, cap1, e, _, hc⟩ := (Hx0.out.below hb.out).at (k := k) (by rw [Lx.out]; exact hlt)
        simp only [Value.slice.injEq] at e
        obtain ⟨rfl, h', rfl⟩ := e
        clear h'
        have hlI : (k : Int) < 4 := by omega
        have hkx : k < xs.length := by rw [Lx.out]; exact hlt
        obtain ⟨i1, i2⟩ := packUpto_inv xs k
        by_cases h0 : 0 < k
        · obtain ⟨i3, i4, i5⟩ := i2 h0
          have hkx1 : k - 1 < xs.length := by omega
          obtain ⟨b2, off2, cap2, e2, _, hc2⟩ := (Hx0.out.below hb.out).at hkx1
          simp only [Value.slice.injEq] at e2
          obtain ⟨h1, h', h2⟩ := e2
          obtain ⟨rfl, rfl⟩ : b = b2 ∧ off = off2 := by simpa using h1
          clear h' h1 h2 i2
          have hgt : (0 : Int) < (k : Int) := by omega
          by_cases hxy : xs[k] = xs[k - 1]
          · have Hs := Lib.hid (pack_same h0 hkx hxy)
            rw [hxy] at hc
            clear hxy
            generalize xs[k - 1] = x at hc hc2
            obtain ⟨g, cap', rfl, hbg, hcg, hf⟩ := ho.out.at (k := (packUpto xs k).length - 2) (by omega)
            obtain ⟨ho2, hg2⟩ := ho.out.stored rfl ((packUpto xs k).length - 2) ((packUpto xs k)[(packUpto xs k).length - 2]?.getD 0 + 1)
            have he : (packUpto xs k)[(packUpto xs k).length - 2]?.getD 0 = (packUpto xs k)[(packUpto xs k).length - 2] := by
              rw [List.getElem?_eq_getElem (by omega)]; rfl
            rw [← he] at hcg
            have hs' := Hs.out
            unfold incr at hs'
            rw [← hs'] at ho2
            have Ho2 := Lib.hid ho2
            clear hs'
            have Hbb := Lib.hid (Below.app hb.out ho.out hg2 (Nat.le_refl _) hb.out.size)
            clear ho2 hg2 he ho
            generalize (packUpto xs k)[(packUpto xs k).length - 2]?.getD 0 = y at hcg i4 i5 Ho2 Hbb
            generalize (packUpto xs k).length = n at *
            go_wp2_with fail
            go_roundw
            case rel => exact ⟨k + 1, by go_num, by omega, Ho2.out, Hbb.out⟩
            case measure => simp [intOf]; omega
          · have Hs := Lib.hid (pack_new hkx (fun _ => hxy))
            have hxb : (xs[k - 1] == xs[k]) = false := by simpa using (fun e : xs[k - 1] = xs[k] => hxy e.symm)
            clear hxy
            generalize xs[k] = x at hc hxb Hs
            generalize xs[k - 1] = y at hc2 hxb
            have hs := Lib.hid hb.out.size
            go_wp2_with (at_builtin; refine wpList_app rfl _ _ rfl w.heap.size _ (packUpto xs k) rfl (ho.out.alloc _) _ 2 2 [1, x] rfl rfl (cell_two_new _ _ _ _) (by omega) (by simp; exact Nat.le_succ_of_le hs.out) ?_; intro v' w1 ho1 hg1; have Ho1 := Lib.hid ho1; have Hg1 := Lib.hid hg1; clear ho1 hg1)
            go_roundw
            case rel => exact ⟨k + 1, by go_num, by omega, by rw [Hs.out]; exact Ho1.out, Below.app (hb.out.alloc hs.out _) (ho.out.alloc _) Hg1.out (Nat.le_refl _) (by simp; exact Nat.le_succ_of_le hs.out)⟩
            case measure => simp [intOf]; omega
        · have hk0 : k = 0 := by omega
          subst hk0
          have Hs := Lib.hid (pack_new hkx (fun h => absurd h h0))
          clear i2
          generalize xs[0] = x at hc Hs
          simp only [Nat.add_zero] at hc
          have hs := Lib.hid hb.out.size
          go_wp2_with (at_builtin; refine wpList_app rfl _ _ rfl w.heap.size _ (packUpto xs 0) rfl (ho.out.alloc _) _ 2 2 [1, x] rfl rfl (cell_two_new _ _ _ _) (by omega) (by simp; exact Nat.le_succ_of_le hs.out) ?_; intro v' w1 ho1 hg1; have Ho1 := Lib.hid ho1; have Hg1 := Lib.hid hg1; clear ho1 hg1)
          go_roundw
          case rel => exact ⟨1, by go_num, by omega, by rw [Hs.out]; exact Ho1.out, Below.app (hb.out.alloc hs.out _) (ho.out.alloc _) Hg1.out (Nat.le_refl _) (by simp; exact Nat.le_succ_of_le hs.out)⟩
          case measure => simp [intOf]
      · have : k = 4 := by omega
        subst this
        go_wp2_with fail
        go_ret2
        exact ⟨_, rfl, ho.out, hb.out⟩
end Go.Proofs.Ytnohlcffmikecaa
