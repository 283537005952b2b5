/- The law FnPackPairs: neighbouring pairs have different words. -/
import Derived.Test.YtachjkecgbfddaaWalkF
import Derived.Test.YtachjkecgbfddaaWalkD
namespace Go.Proofs.Ytachjkecgbfddaa
open Go.RowKit

/-- the lengths of the first j pairs, together -/
def psum (l : List Int) : Nat → Int
  | 0 => 0
  | j + 1 => psum l j + l[2 * j]?.getD 0

/-- what holds of the pairs of a page -/
def GoodPairs (l : List Int) : Prop :=
  ∃ m, m ≤ 4 ∧ l.length = 2 * m ∧ psum l m = 4 ∧ ∀ j, j < m → 1 ≤ l[2 * j]?.getD 0 ∧ l[2 * j]?.getD 0 ≤ 4 ∧ (0 < j → l[2 * j + 1]?.getD 0 ≠ l[2 * j - 1]?.getD 0)

theorem good1 (a x : Int) (h : a = 4) : GoodPairs [a, x] :=
  ⟨1, by omega, rfl, by simp [psum, h], fun j hj => by
    obtain rfl : j = 0 := by omega
    simp [h]⟩
theorem good2 (a x b y : Int) (h1 : 1 ≤ a) (h2 : 1 ≤ b) (h : a + b = 4) (hxy : y ≠ x) : GoodPairs [a, x, b, y] :=
  ⟨2, by omega, rfl, by simp [psum]; omega, fun j hj => by
    have : j = 0 ∨ j = 1 := by omega
    rcases this with rfl | rfl
    · simp; omega
    · simp; exact ⟨by omega, by omega, hxy⟩⟩
theorem good3 (a x b y c z : Int) (h1 : 1 ≤ a) (h2 : 1 ≤ b) (h3 : 1 ≤ c) (h : a + b + c = 4) (hxy : y ≠ x) (hyz : z ≠ y) : GoodPairs [a, x, b, y, c, z] :=
  ⟨3, by omega, rfl, by simp [psum]; omega, fun j hj => by
    have : j = 0 ∨ j = 1 ∨ j = 2 := by omega
    rcases this with rfl | rfl | rfl
    · simp; omega
    · simp; exact ⟨by omega, by omega, hxy⟩
    · simp; exact ⟨by omega, by omega, hyz⟩⟩
theorem good4 (x y z u : Int) (hxy : y ≠ x) (hyz : z ≠ y) (hzu : u ≠ z) : GoodPairs [1, x, 1, y, 1, z, 1, u] :=
  ⟨4, by omega, rfl, by simp [psum], fun j hj => by
    have : j = 0 ∨ j = 1 ∨ j = 2 ∨ j = 3 := by omega
    rcases this with rfl | rfl | rfl | rfl
    · simp
    · simpa using hxy
    · simpa using hyz
    · simpa using hzu⟩

theorem pack_good (xs : List Int) (h : xs.length = 4) : GoodPairs (packUpto xs 4) := by
  obtain ⟨a, b, c, d, rfl⟩ : ∃ a b c d, xs = [a, b, c, d] := by
    match xs, h with
    | [a, b, c, d], _ => exact ⟨a, b, c, d, rfl⟩
  by_cases h1 : b = a
  · subst h1
    by_cases h2 : c = b
    · subst h2
      by_cases h3 : d = c
      · subst h3; simpa [packUpto, incr] using good1 4 d rfl
      · simpa [packUpto, incr, h3] using good2 3 c 1 d (by omega) (by omega) (by omega) h3
    · by_cases h3 : d = c
      · subst h3; simpa [packUpto, incr, h2] using good2 2 b 2 d (by omega) (by omega) (by omega) h2
      · simpa [packUpto, incr, h2, h3] using good3 2 b 1 c 1 d (by omega) (by omega) (by omega) (by omega) h2 h3
  · by_cases h2 : c = b
    · subst h2
      by_cases h3 : d = c
      · subst h3; simpa [packUpto, incr, h1] using good2 1 a 3 d (by omega) (by omega) (by omega) h1
      · simpa [packUpto, incr, h1, h3] using good3 1 a 2 c 1 d (by omega) (by omega) (by omega) (by omega) h1 h3
    · by_cases h3 : d = c
      · subst h3; simpa [packUpto, incr, h1, h2] using good3 1 a 1 b 2 d (by omega) (by omega) (by omega) (by omega) h1 h2
      · simpa [packUpto, incr, h1, h2, h3] using good4 a b c d h1 h2 h3

theorem psum_rng {l : List Int} {m : Nat} (h : ∀ j, j < m → 1 ≤ l[2 * j]?.getD 0 ∧ l[2 * j]?.getD 0 ≤ 4) : ∀ j, j ≤ m → 0 ≤ psum l j ∧ psum l j ≤ 4 * j
  | 0, _ => ⟨Int.le_refl _, Int.le_refl _⟩
  | j + 1, hj => by
    have := psum_rng h j (by omega)
    have := h j (by omega)
    simp only [psum]; omega

set_option maxHeartbeats 2000000 in
set_option maxRecDepth 100000 in
theorem FnPackPairs_c (a0 : Option Addr) (len0 cap0 : Nat) (z0 : List Int) (w : World) (h0 : IsRow .u8 w a0 len0 cap0 z0) :
    Calls Try.prog 8 #[.slice a0 len0 cap0] w fun e w' => e = .returned (.bool true) ∧ Below w.heap.size w w' := by
  by_cases hl0 : len0 ≤ 1048576
  · have hI0 : ¬ (1048576 : Int) < (len0 : Int) := by omega
    have Hr := Lib.hid (IsRow.rb h0)
    clear h0
    go_enter Try.func8, Try.ntmps8
    go_wp2_with fail
    refine (DrawPagePack_c _ _ _ Hr.out).mono ?_; rintro e w1 ⟨u, xs, rfl, hx, hxl, hb⟩
    have Hx := Lib.hid hx; have Hb := Lib.hid hb; clear hx hb hxl
    obtain ⟨l, hl⟩ : ∃ l, packL xs = l := ⟨_, rfl⟩
    cases hp : pageOk xs
    · have Hp := Lib.hid hp; clear hp
      go_wp2_with fail
      refine (implPagePack_c xs _ _ Hx.out).mono ?_; rintro e w2 ⟨u2, rfl, o, hb⟩; rw [hl] at o; rw [Hp.out]
      have Hx2 := Lib.hid (Hx.out.below hb); have Hb2 := Lib.hid (Hb.out.trans (hb.mono Hb.out.size)); have O2 := Lib.hid o; clear hb o
      go_wp2_with fail
      refine (specPagePack_c xs _ _ Hx2.out).mono ?_; rintro e w3 ⟨u3, rfl, o, hb⟩; rw [hl] at o; rw [Hp.out]
      have Hb3 := Lib.hid (Hb2.out.trans (hb.mono Hb2.out.size)); have O3 := Lib.hid o; have O23 := Lib.hid (O2.out.below hb); clear hb o hl
      go_wp2_with fail
      refine (sameInts_c l l _ _ _ O23.out.ri O3.out.ri).mono ?_; rintro e w4 ⟨rfl, hb⟩
      rw [decide_eq_true (rfl : l = l)]
      have Hb4 := Lib.hid (Hb3.out.trans (hb.mono Hb3.out.size)); have O24 := Lib.hid (O23.out.below hb); have O34 := Lib.hid (O3.out.below hb); clear hb
      go_wp2_with fail
      refine (sameInts_c l l _ _ _ O24.out.ri O34.out.ri).mono ?_; rintro e w5 ⟨rfl, hb⟩
      rw [decide_eq_true (rfl : l = l)]
      have Hb5 := Lib.hid (Hb4.out.trans (hb.mono Hb4.out.size)); clear hb
      go_wp2_with fail
      go_ret
      exact ⟨rfl, Hb5.out⟩
    · have hl2 : GoodPairs l := by
        rw [← hl, packL, if_pos hp]; exact pack_good xs (pageOk_iff.1 hp).2
      obtain ⟨m, hm4, hlen, hsum, hgood⟩ := hl2
      have hrng := psum_rng (fun j hj => ⟨(hgood j hj).1, (hgood j hj).2.1⟩)
      have Hp := Lib.hid hp; have Hlen := Lib.hid hlen; have Hsum := Lib.hid hsum; have Hgood := Lib.hid hgood; have Hrng := Lib.hid hrng; clear hp hlen hsum hgood hrng
      go_wp2_with fail
      refine (implPagePack_c xs _ _ Hx.out).mono ?_; rintro e w2 ⟨u2, rfl, o, hb⟩; rw [hl] at o; rw [Hp.out]
      have Hx2 := Lib.hid (Hx.out.below hb); have Hb2 := Lib.hid (Hb.out.trans (hb.mono Hb.out.size)); have O2 := Lib.hid o; clear hb o
      go_wp2_with fail
      refine (specPagePack_c xs _ _ Hx2.out).mono ?_; rintro e w3 ⟨u3, rfl, o, hb⟩; rw [hl] at o; rw [Hp.out]
      have Hb3 := Lib.hid (Hb2.out.trans (hb.mono Hb2.out.size)); have O3 := Lib.hid o; have O23 := Lib.hid (O2.out.below hb); clear hb o hl
      go_wp2_with fail
      refine (sameInts_c l l _ _ _ O23.out.ri O3.out.ri).mono ?_; rintro e w4 ⟨rfl, hb⟩
      rw [decide_eq_true (rfl : l = l)]
      have Hb4 := Lib.hid (Hb3.out.trans (hb.mono Hb3.out.size)); have R24 := Lib.hid (O23.out.below hb).ri; clear hb
      obtain ⟨ax, capx, rfl⟩ := R24.out.val
      clear Hx Hx2 Hb Hb2 Hb3 O2 O23 O3
      rw [Hlen.out]
      rw [Hlen.out] at R24
      go_wp2_with fail
      go_loopw [8, 9] (fun n i wr => ∃ j : Nat, i = .int .i64 (2 * (j : Int)) ∧ j ≤ m ∧ n = .int .i64 (psum l j) ∧ Hid (Below w.heap.size w wr) ∧ Hid (RI wr (.slice ax (2 * m) capx) l)) (fun _ i _ => 8 - (intOf i).toNat)
      case atStart => exact ⟨0, rfl, Nat.zero_le _, rfl, Hb4.out, R24.out⟩
      case round =>
        clear Hb4 R24
        obtain ⟨j, rfl, hj, rfl, hb, hr⟩ := hrel
        obtain ⟨hs0, hs1⟩ := Hrng.out j hj
        by_cases hlt : j < m
        · obtain ⟨g1, g2, g3⟩ := Hgood.out j hlt
          have hk1 : 2 * j < l.length := by rw [Hlen.out]; omega
          have hk2 : 2 * j + 1 < l.length := by rw [Hlen.out]; omega
          obtain ⟨b, off, cp, e, _, hc1⟩ := (show RI wr (.slice ax (2 * m) capx) l from hr.out).at hk1
          simp only [Value.slice.injEq] at e
          obtain ⟨rfl, h', rfl⟩ := e
          clear h'
          obtain ⟨b2, off2, cp2, e, _, hc2⟩ := hr.out.at hk2
          simp only [Value.slice.injEq, Option.some.injEq, Addr.mk.injEq] at e
          obtain ⟨⟨rfl, rfl, _⟩, h', _⟩ := e
          clear h'
          have e1 : l[2 * j] = l[2 * j]?.getD 0 := by rw [List.getElem?_eq_getElem hk1]; rfl
          have e2 : l[2 * j + 1] = l[2 * j + 1]?.getD 0 := by rw [List.getElem?_eq_getElem hk2]; rfl
          rw [e1] at hc1
          rw [e2] at hc2
          have hps : Hid (psum l (j + 1) = psum l j + l[2 * j]?.getD 0) := rfl
          have hi1 : 2 * (j : Int) < ((2 * m : Nat) : Int) := by omega
          have hi2 : 2 * (j : Int) + 1 < ((2 * m : Nat) : Int) := by omega
          have hi3 : 2 * (j : Int) < 2 * (m : Int) := by omega
          have hi4 : 2 * (j : Int) + 1 < 2 * (m : Int) := by omega
          clear e1 e2
          generalize psum l j = s at hs0 hs1 hps
          generalize l[2 * j]?.getD 0 = x at hc1 g1 g2 hps
          have hxd : decide (x < 1) = false := by simp; omega
          by_cases hj0 : 0 < j
          · have g4 := g3 hj0
            have hk3 : 2 * j - 1 < l.length := by omega
            obtain ⟨b2, off2, cp2, e, _, hc3⟩ := hr.out.at hk3
            simp only [Value.slice.injEq, Option.some.injEq, Addr.mk.injEq] at e
            obtain ⟨⟨rfl, rfl, _⟩, h', _⟩ := e
            clear h'
            have e3 : l[2 * j - 1] = l[2 * j - 1]?.getD 0 := by rw [List.getElem?_eq_getElem hk3]; rfl
            rw [e3] at hc3
            clear e3 g3
            have hj0I : (0 : Int) < 2 * (j : Int) := by omega
            have hjd : decide ((0 : Int) < 2 * (j : Int)) = true := by simpa using hj0I
            generalize l[2 * j + 1]?.getD 0 = y at hc2 g4
            generalize l[2 * j - 1]?.getD 0 = z at hc3 g4
            have hyz : (y == z) = false := by simpa using g4
            clear g4
            go_wp2_with fail
            go_quiet (fail)
            go_wp2_with fail
            go_roundw
            case rel => exact ⟨j + 1, by go_num, by omega, by rw [hps.out], below_drewN hb.out _, hr.out.below (below_drewN (Below.refl _ _) _)⟩
            case measure => simp [intOf]; omega
          · have hj0I : ¬ (0 : Int) < 2 * (j : Int) := by omega
            have hjd : decide ((0 : Int) < 2 * (j : Int)) = false := by simpa using hj0I
            clear g3 hj0 hj0I
            go_wp2_with fail
            go_quiet (fail)
            go_wp2_with fail
            go_roundw
            case rel => exact ⟨j + 1, by go_num, by omega, by rw [hps.out], below_drewN hb.out _, hr.out.below (below_drewN (Below.refl _ _) _)⟩
            case measure => simp [intOf]; omega
        · have hjm : j = m := by omega
          subst hjm
          have hi3 : ¬ 2 * (j : Int) + 1 < 2 * (j : Int) := by omega
          rw [Hsum.out]
          have hmod : (2 * (j : Int)) % 2 = 0 := by omega
          have hmod2 : (2 * (j : Int)) % 2 == 0 := by simp [hmod]
          have Hm := Lib.hid hmod; clear hmod
          go_wp2_with fail
          go_ret
          exact ⟨rfl, hb.out⟩
  · have hI0 : (1048576 : Int) < (len0 : Int) := by omega
    clear h0
    go_enter Try.func8, Try.ntmps8
    go_wp2_with fail
    go_ret
    exact ⟨rfl, Below.refl _ _⟩
end Go.Proofs.Ytachjkecgbfddaa
