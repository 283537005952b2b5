/- Contract: a page and changes are drawn. -/
import Derived.Test.YtnohlcffmikecaaWalkL
import Derived.Deep.DeepCutAuto
namespace Go.Proofs.Ytnohlcffmikecaa
open Go.RowKit

theorem RI.blkLt {w : World} {v : Value} {xs : List Int} (h : RI w v xs) : xs = [] ∨ ∀ a n c, v = .slice (some a) n c → a.block < w.heap.size := by
  rcases h.2 with ⟨hx, _⟩ | ⟨b, off, cap, rfl, hb, _⟩
  · exact .inl hx
  · refine .inr fun a n c e => ?_
    simp only [Value.slice.injEq, Option.some.injEq] at e
    rw [← e.1]; exact hb

/-- what was there stays while what was made later is written -/
theorem RI.keptOld {w w' : World} {v : Value} {xs : List Int} {row : Option Nat} (h : RI w v xs) {m : Nat} (hg : w.grownBy w' row) (hv : xs = [] ∨ ∀ a n c, v = .slice (some a) n c → a.block < m) (hr : ∀ k, row = some k → m ≤ k) : RI w' v xs := by
  refine ⟨h.1, ?_⟩
  rcases h.2 with hn | ⟨b, off, cap, rfl, hlt, hc⟩
  · exact .inl hn
  · refine .inr ⟨b, off, cap, rfl, Nat.lt_of_lt_of_le hlt hg.size, fun i hi => ?_⟩
    rcases hv with rfl | hv
    · simp at hi
    · have hb := hv _ _ _ rfl
      exact (World.cell?_of_block (hg.block b hlt (fun e => by have := hr b e.symm; simp at hb; omega))).trans (hc i hi)

theorem diffL_len (xs ys : List Int) : (diffL xs ys).length ≤ 8 := by
  have := diffUpto_len xs ys 4
  unfold diffL
  split
  · omega
  · simp

set_option maxHeartbeats 1000000 in
theorem DrawPageApply_c (v : Value) (n : Nat) (w : World) (h : RB w v n) : Calls Try.prog 24 #[v] w (DrewII 9 w) := by
  have Ho := Lib.hid (l6Open_c v n w h)
  obtain ⟨a, cap, rfl, _⟩ := h
  go_enter Try.func24, Try.ntmps24
  go_wp2_with fail
  refine Ho.out.mono ?_; rintro e w1 ⟨rb, rfl, hrb, hr, hb⟩
  have Hb := Lib.hid hb; have hlt := hr.lt; clear hb
  go_wp2_with fail
  refine (l93Words_c rb 0 _ hr (by omega)).mono ?_; rintro e w2 ⟨u, xs, q, rfl, hri, hxl, hu, hr2, hq, hg⟩
  have Hi := Lib.hid hri; have Hu := Lib.hid hu; have Hr2 := Lib.hid hr2; have Hg := Lib.hid (Hb.out.trans (grownBy_below hg hrb Hb.out.size)); clear hri hg hu hr2 hr
  go_wp2_with fail
  refine (l93Words_c rb q _ Hr2.out (by omega)).mono ?_; rintro e w3 ⟨u2, ys, q2, rfl, hri2, hyl, hu2, hr3, hq2, hg3⟩
  have Hi3 := Lib.hid (Hi.out.keptLater hg3 Hu.out hlt); have Hy3 := Lib.hid hri2; have Hr3 := Lib.hid hr3; have Hg3 := Lib.hid (Hg.out.trans (grownBy_below hg3 hrb Hg.out.size)); clear hri2 hg3 hu2 hr3 Hi Hg
  have hdl := diffL_len xs ys
  have HuL := Lib.hid (RI.blkLt Hi3.out)
  obtain ⟨l, hl⟩ : ∃ l, diffL xs ys = l := ⟨_, rfl⟩
  rw [hl] at hdl
  have Hl := Lib.hid hl; clear hl
  go_wp2_with fail
  refine (specPageDiff_c xs ys _ _ _ Hi3.out Hy3.out).mono ?_; rintro e w4 ⟨u4, rfl, o, hb⟩; rw [Hl.out] at o
  have Hi4 := Lib.hid (Hi3.out.below hb); have Hr4 := Lib.hid (Hr3.out.keep hb); have O4 := Lib.hid o; have Hg4 := Lib.hid (Hg3.out.trans (hb.mono Hg3.out.size)); have hlt4 := Hr3.out.lt; have Hsz34 := Lib.hid hb.size; clear hb o Hi3 Hr3 Hy3
  obtain ⟨ad, cd, rfl⟩ := O4.out.ri.val
  have hs34 := Lib.hid Hsz34.out
  have hl0 : Hid (l.length = l.length) := rfl
  by_cases h0 : l.length = 0
  · have hln : l = [] := List.eq_nil_of_length_eq_zero h0
    subst hln
    simp only [List.length_nil] at O4 ⊢
    clear h0 hl0
    go_wp2_with fail
    refine (pick_c rb q2 16 _ Hr4.out (by omega) (by omega) (by omega)).mono ?_; rintro e w5 ⟨z, rfl, hz0, hz1, hrT, hgT⟩
    have HiT := Lib.hid (Hi4.out.keptLater hgT Hu.out hlt); have OT := Lib.hid (O4.out.keptRb hlt4 hgT); have HgT := Lib.hid (Hg4.out.trans (grownBy_below hgT hrb Hg4.out.size)); have hsT := Lib.hid (Nat.le_trans hs34.out hgT.size); clear hgT hrT
    by_cases hz : z = 0
    · subst hz
      have hl1 := Lib.hid (show ([] : List Int).length + 1 ≤ 1099511627776 by simp)
      have hlz := Lib.hid (show ([] ++ [1] : List Int).length ≤ 9 by simp)
      go_wp2_with (at_builtin; refine wpList_app rfl _ _ rfl w3.heap.size _ ([] : List Int) rfl (OT.out.alloc _) _ 1 1 [1] rfl rfl (cell_one_new _ _ _) hl1.out (by simp; exact Nat.le_succ_of_le hsT.out) ?_; intro v' wz hoz hgz; have Hoz := Lib.hid hoz; have Hgz := Lib.hid hgz; clear hoz hgz)
      go_ret2
      have hal := (Below.refl w5.heap.size w5).alloc (Nat.le_refl _) (.cells #[.int .i64 1] 3)
      have hb1 := HgT.out.trans (hal.mono HgT.out.size)
      have hb2 := Below.app hb1 (OT.out.alloc _) Hgz.out (Nat.le_trans Hg3.out.size (Nat.le_refl _)) hb1.size
      refine ⟨_, _, _, _, rfl, ?_, Hoz.out.ri, Nat.le_succ_of_le hxl, hlz.out, hb2⟩
      refine (HiT.out.below hal).keptOld Hgz.out (m := w3.heap.size) HuL.out (fun k hk => (OT.out.lt k hk).1)
    · have hzb : (z == 0) = false := by simpa using hz
      go_wp2_with fail
      go_ret2
      exact ⟨_, _, _, _, rfl, HiT.out, OT.out.ri, by omega, by simp, HgT.out⟩
  · have hnp : (0 : Int) < (l.length : Int) := by omega
    have h0b : decide ((0 : Int) < (l.length : Int)) = true := by simpa using hnp
    go_wp2_with fail
    refine (pick_c rb q2 3 _ Hr4.out (by omega) (by omega) (by omega)).mono ?_; rintro e w5 ⟨y, rfl, hy0, hy1, hr5, hg5⟩
    have Hi5 := Lib.hid (Hi4.out.keptLater hg5 Hu.out hlt); have O5 := Lib.hid (O4.out.keptRb hlt4 hg5); have Hg5 := Lib.hid (Hg4.out.trans (grownBy_below hg5 hrb Hg4.out.size)); have hs35 := Lib.hid (Nat.le_trans hs34.out hg5.size); have Hr5 := Lib.hid hr5; clear hg5 hr5
    by_cases hy : y = 0
    · subst hy
      go_wp2_with fail
      refine (pick_c rb (q2 + 1) l.length _ Hr5.out (by omega) (by omega) (by omega)).mono ?_; rintro e w6 ⟨x1, rfl, hx0, hx1, hr6, hg6⟩
      have Hi6 := Lib.hid (Hi5.out.keptLater hg6 Hu.out hlt); have O6 := Lib.hid (O5.out.keptRb hlt4 hg6); have Hg6 := Lib.hid (Hg5.out.trans (grownBy_below hg6 hrb Hg5.out.size)); have hs36 := Lib.hid (Nat.le_trans hs35.out hg6.size); have Hr6 := Lib.hid hr6; clear hg6 hr6
      go_wp2_with fail
      refine (pick_c rb (q2 + 1 + 1) 6 _ Hr6.out (by omega) (by omega) (by omega)).mono ?_; rintro e w7 ⟨y1, rfl, hy10, hy11, hr7, hg7⟩
      have Hi7 := Lib.hid (Hi6.out.keptLater hg7 Hu.out hlt); have O7 := Lib.hid (O6.out.keptRb hlt4 hg7); have Hg7 := Lib.hid (Hg6.out.trans (grownBy_below hg7 hrb Hg6.out.size)); have hs37 := Lib.hid (Nat.le_trans hs36.out hg7.size); have Hr7 := Lib.hid hr7; clear hg7 hr7
      obtain ⟨m, rfl⟩ := Int.eq_ofNat_of_zero_le hx0
      obtain ⟨g, cap1, e, hbg, hcg, hf⟩ := O7.out.at (k := m) (by omega)
      simp only [Value.slice.injEq] at e
      obtain ⟨rfl, h', rfl⟩ := e
      clear h'
      obtain ⟨zz, hzz⟩ : ∃ zz, w7.cell? ⟨g, m, none⟩ = some zz := ⟨_, hcg⟩
      obtain ⟨ho8, hg8⟩ := O7.out.stored rfl m (y1 - 1)
      obtain ⟨w8, hw8⟩ : ∃ w8, w7.setCell ⟨g, m, none⟩ (.int .i64 (y1 - 1)) = w8 := ⟨_, rfl⟩
      have O8 : Hid (OI w8 w3.heap.size (.slice (some ⟨g, 0, none⟩) l.length cd) (l.set m (y1 - 1))) := hw8 ▸ ho8
      have Hg8 : Hid (Below w.heap.size w w8) := hw8 ▸ Hg7.out.trans (grownBy_below hg8 (Nat.le_trans Hg3.out.size hbg) Hg7.out.size)
      have Hr8 : Hid (RD w8 rb (q2 + 1 + 1 + 1)) := hw8 ▸ Hr7.out.grown hg8 (fun k hk => by simp at hk; omega)
      have hs38 : Hid (w3.heap.size ≤ w8.heap.size) := hw8 ▸ Nat.le_trans hs37.out hg8.size
      have Hi8 : Hid (RI w8 u xs) := hw8 ▸ Hi7.out.keptOld hg8 HuL.out (fun k hk => by simp at hk; omega)
      have hl8 : Hid ((l.set m (y1 - 1)).length = l.length) := by rw [Hid, List.length_set]
      have HW := Lib.hid hw8
      clear ho8 hg8 hcg hw8 hbg
      have hmI : (m : Int) < (l.length : Int) := hx1
      go_wp2_with fail
      rw [HW.out]
      go_wp2_with fail
      refine (pick_c rb (q2 + 1 + 1 + 1) 16 _ Hr8.out (by omega) (by omega) (by omega)).mono ?_; rintro e w9 ⟨z, rfl, hz0, hz1, hrT, hgT⟩
      have HiT := Lib.hid (Hi8.out.keptLater hgT Hu.out hlt); have OT := Lib.hid (O8.out.keptRb hlt4 hgT); have HgT := Lib.hid (Hg8.out.trans (grownBy_below hgT hrb Hg8.out.size)); have hsT := Lib.hid (Nat.le_trans hs38.out hgT.size); clear hgT hrT
      by_cases hz : z = 0
      · subst hz
        have hl1 := Lib.hid (show (l.set m (y1 - 1)).length + 1 ≤ 1099511627776 by have := hl8.out; omega)
        have hlz := Lib.hid (show (l.set m (y1 - 1) ++ [1]).length ≤ 9 by rw [List.length_append, hl8.out]; simp; omega)
        go_wp2_with (at_builtin; refine wpList_app rfl _ _ rfl w3.heap.size _ (l.set m (y1 - 1)) rfl (OT.out.alloc _) _ 1 1 [1] rfl rfl (cell_one_new _ _ _) hl1.out (by simp; exact Nat.le_succ_of_le hsT.out) ?_; intro v' wz hoz hgz; have Hoz := Lib.hid hoz; have Hgz := Lib.hid hgz; clear hoz hgz)
        go_ret2
        have hal := (Below.refl w9.heap.size w9).alloc (Nat.le_refl _) (.cells #[.int .i64 1] 3)
        have hb1 := HgT.out.trans (hal.mono HgT.out.size)
        have hb2 := Below.app hb1 (OT.out.alloc _) Hgz.out (Nat.le_trans Hg3.out.size (Nat.le_refl _)) hb1.size
        refine ⟨_, _, _, _, rfl, ?_, Hoz.out.ri, Nat.le_succ_of_le hxl, hlz.out, hb2⟩
        refine (HiT.out.below hal).keptOld Hgz.out (m := w3.heap.size) HuL.out (fun k hk => (OT.out.lt k hk).1)
      · have hzb : (z == 0) = false := by simpa using hz
        go_wp2_with fail
        go_ret2
        exact ⟨_, _, _, _, rfl, HiT.out, OT.out.ri, by omega, by rw [hl8.out]; omega, HgT.out⟩
    · have hyb : (y == 0) = false := by simpa using hy
      go_wp2_with fail
      refine (pick_c rb (q2 + 1) 16 _ Hr5.out (by omega) (by omega) (by omega)).mono ?_; rintro e w6 ⟨z, rfl, hz0, hz1, hrT, hgT⟩
      have HiT := Lib.hid (Hi5.out.keptLater hgT Hu.out hlt); have OT := Lib.hid (O5.out.keptRb hlt4 hgT); have HgT := Lib.hid (Hg5.out.trans (grownBy_below hgT hrb Hg5.out.size)); have hsT := Lib.hid (Nat.le_trans hs35.out hgT.size); clear hgT hrT
      by_cases hz : z = 0
      · subst hz
        have hl1 := Lib.hid (show (l).length + 1 ≤ 1099511627776 by omega)
        have hlz := Lib.hid (show (l ++ [1]).length ≤ 9 by rw [List.length_append]; simp; omega)
        go_wp2_with (at_builtin; refine wpList_app rfl _ _ rfl w3.heap.size _ (l) rfl (OT.out.alloc _) _ 1 1 [1] rfl rfl (cell_one_new _ _ _) hl1.out (by simp; exact Nat.le_succ_of_le hsT.out) ?_; intro v' wz hoz hgz; have Hoz := Lib.hid hoz; have Hgz := Lib.hid hgz; clear hoz hgz)
        go_ret2
        have hal := (Below.refl w6.heap.size w6).alloc (Nat.le_refl _) (.cells #[.int .i64 1] 3)
        have hb1 := HgT.out.trans (hal.mono HgT.out.size)
        have hb2 := Below.app hb1 (OT.out.alloc _) Hgz.out (Nat.le_trans Hg3.out.size (Nat.le_refl _)) hb1.size
        refine ⟨_, _, _, _, rfl, ?_, Hoz.out.ri, Nat.le_succ_of_le hxl, hlz.out, hb2⟩
        refine (HiT.out.below hal).keptOld Hgz.out (m := w3.heap.size) HuL.out (fun k hk => (OT.out.lt k hk).1)
      · have hzb : (z == 0) = false := by simpa using hz
        go_wp2_with fail
        go_ret2
        exact ⟨_, _, _, _, rfl, HiT.out, OT.out.ri, by omega, by omega, HgT.out⟩
end Go.Proofs.Ytnohlcffmikecaa
