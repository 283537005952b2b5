/- Contracts: what is drawn for changes: two pages; a page and changes. -/
import Derived.Test.YtnohlcffmikecaaWalkF
import Derived.Test.YtnohlcffmikecaaWalkC
import Derived.Test.YtnohlcffmikecaaWalkG
namespace Go.Proofs.Ytnohlcffmikecaa
open Go.RowKit

/-- Two lists of numbers are drawn. -/
def DrewII (m : Nat) (w : World) (e : Ending) (w' : World) : Prop :=
  ∃ u v xs ys, e = .returned (.tuple #[u, v]) ∧ RI w' u xs ∧ RI w' v ys ∧ xs.length ≤ m ∧ ys.length ≤ m ∧ Below w.heap.size w w'

/-- what a draw made stays while the reader's block is written -/
theorem RI.keptLater {w w' : World} {rb B : Nat} {v : Value} {xs : List Int} (h : RI w v xs) (hg : w.grownBy w' (some rb)) (hv : ∀ a n c, v = .slice (some a) n c → B ≤ a.block) (hB : rb < B) : RI w' v xs :=
  h.keptRb hg (fun a n c e => by have := hv a n c e; omega)

set_option maxHeartbeats 1000000 in
theorem DrawPageDiff_c (v : Value) (n : Nat) (w : World) (h : RB w v n) : Calls Try.prog 9 #[v] w (DrewII 8 w) := by
  have Ho := Lib.hid (l6Open_c v n w h)
  obtain ⟨a, cap, rfl, _⟩ := h
  go_enter Try.func9, Try.ntmps9
  go_wp2_with fail
  refine Ho.out.mono ?_; rintro e w1 ⟨rb, rfl, hrb, hr, hb⟩
  have Hb := Lib.hid hb; have hlt := hr.lt; clear hb
  go_wp2_with fail
  refine (l93Words_c rb 0 _ hr (by omega)).mono ?_; rintro e w2 ⟨u, xs, q, rfl, hri, hxl, hu, hr2, hq, hg⟩
  have Hi := Lib.hid hri; have Hu := Lib.hid hu; have Hr2 := Lib.hid hr2; have Hg := Lib.hid (Hb.out.trans (grownBy_below hg hrb Hb.out.size)); clear hri hg hu hr2 hr
  go_wp2_with fail
  refine (pick_c rb q 3 _ Hr2.out (by omega) (by omega) (by omega)).mono ?_; rintro e w3 ⟨x, rfl, hx0, hx1, hr3, hg3⟩
  have Hr3 := Lib.hid hr3; have Hi3 := Lib.hid (Hi.out.keptLater hg3 Hu.out hlt); have Hg3 := Lib.hid (Hg.out.trans (grownBy_below hg3 (Nat.le_trans (Nat.le_refl _) hrb) Hg.out.size)); clear hr3 hg3 Hi
  have Hsz := Lib.hid Hg3.out.size
  by_cases hx : x = 0
  · subst hx
    go_wp2_with fail
    refine (l93Words_c rb (q + 1) _ Hr3.out (by omega)).mono ?_; rintro e w4 ⟨u2, ys, q2, rfl, hri2, hyl, _, _, _, hg4⟩
    have Hi4 := Lib.hid (Hi3.out.keptLater hg4 Hu.out hlt); have Hy4 := Lib.hid hri2; have Hg4 := Lib.hid (Hg3.out.trans (grownBy_below hg4 hrb Hg3.out.size)); clear hri2 hg4
    go_wp2_with fail
    go_ret2
    exact ⟨_, _, _, _, rfl, Hi4.out, Hy4.out, hxl, hyl, Hg4.out⟩
  · have hxp : 0 < x := by omega
    have hsz := Lib.hid (show w.heap.size ≤ w3.heap.size from Hg3.out.size)
    have Hi4 := Lib.hid (Hi3.out.below ((Below.refl _ _).alloc (Nat.le_refl _) (.cells #[] 3)))
    have Hr4 := Lib.hid (Hr3.out.keep ((Below.refl _ _).alloc (Nat.le_refl _) (.cells #[] 3)))
    have hrb3 := Lib.hid Hr3.out.lt
    obtain ⟨au, cu, hu'⟩ := Hi3.out.val
    subst hu'
    have hI3 := Lib.hid Hi3.out
    by_cases h0 : xs.length = 0
    · have h0I : ¬ (0 : Int) < (xs.length : Int) := by omega
      have H0 := Lib.hid h0; clear h0
      go_wp2_with (at_builtin; refine wpList_appR rfl _ _ rfl w3.heap.size _ [] rfl (OI.lit0 (Nat.le_refl _)) _ xs rfl Hi4.out (by simp; omega) (by simp) ?_; intro v' w4 ho4 hg4; rw [List.nil_append] at ho4; have Ho4 := Lib.hid ho4; have hbb := Below.app ((Below.refl w3.heap.size w3).alloc (Nat.le_refl _) _) (OI.lit0 (Nat.le_refl _)) hg4 (Nat.le_refl _) (by simp); have Hbb := Lib.hid hbb; obtain ⟨ay, cy, rfl⟩ := ho4.ri.val; clear ho4 hg4 hbb)
      go_ret2
      exact ⟨_, _, _, _, rfl, hI3.out.below Hbb.out, Ho4.out.ri, hxl, hxl, Hg3.out.trans (Hbb.out.mono hsz.out)⟩
    · have h0I : (0 : Int) < (xs.length : Int) := by omega
      go_wp2_with (at_builtin; refine wpList_appR rfl _ _ rfl w3.heap.size _ [] rfl (OI.lit0 (Nat.le_refl _)) _ xs rfl Hi4.out (by simp; omega) (by simp) ?_; intro v' w4 ho4 hg4; rw [List.nil_append] at ho4; have Ho4 := Lib.hid ho4; have hbb := Below.app ((Below.refl w3.heap.size w3).alloc (Nat.le_refl _) _) (OI.lit0 (Nat.le_refl _)) hg4 (Nat.le_refl _) (by simp); have Hbb := Lib.hid hbb; obtain ⟨ay, cy, rfl⟩ := ho4.ri.val; clear ho4 hg4 hbb)
      refine (pick_c rb (q + 1) xs.length _ (Hr3.out.keep Hbb.out) (by omega) (by omega) (by omega)).mono ?_; rintro e w5 ⟨x1, rfl, hx10, hx11, hr5, hg5⟩
      have Ho5 := Lib.hid (Ho4.out.keptRb hrb3.out hg5); have Hg5 := Lib.hid hg5; have Hr5 := Lib.hid hr5; clear hg5 hr5
      go_wp2_with fail
      refine (pick_c rb (q + 1 + 1) 9 _ Hr5.out (by omega) (by omega) (by omega)).mono ?_; rintro e w6 ⟨y1, rfl, hy10, hy11, hr6, hg6⟩
      have Ho6 := Lib.hid (Ho5.out.keptRb hrb3.out hg6); have Hg6 := Lib.hid (grownBy_trans Hg5.out hg6); clear hg6 hr6
      obtain ⟨m, rfl⟩ := Int.eq_ofNat_of_zero_le hx10
      obtain ⟨g, cap1, e, hbg, hcg, hf⟩ := Ho6.out.at (k := m) (by omega)
      simp only [Value.slice.injEq] at e
      obtain ⟨rfl, h', rfl⟩ := e
      clear h'
      obtain ⟨zz, hzz⟩ : ∃ zz, w6.cell? ⟨g, m, none⟩ = some zz := ⟨_, hcg⟩
      have hst := Lib.hid (Ho6.out.stored rfl m y1)
      have Hbg := Lib.hid hbg
      clear hcg hbg
      have hfin : Hid (Below w.heap.size w (w6.setCell ⟨g, m, none⟩ (.int .i64 y1)) ∧ RI (w6.setCell ⟨g, m, none⟩ (.int .i64 y1)) (.slice au xs.length cu) xs) := by
        have b4 := Hg3.out.trans (Hbb.out.mono hsz.out)
        have b6 := b4.trans (grownBy_below Hg6.out hrb b4.size)
        have b7 := b6.trans (grownBy_below hst.out.2 (Nat.le_trans hsz.out Hbg.out) b6.size)
        have r4 := hI3.out.below Hbb.out
        have r6 := r4.keptLater Hg6.out Hu.out hlt
        refine ⟨b7, r6.keptRb hst.out.2 (fun a n c e => ?_)⟩
        simp only [Value.slice.injEq] at e
        obtain ⟨rfl, _, _⟩ := e
        have h1 := Hbg.out
        have h2 : a.block < w3.heap.size := by
          rcases hI3.out.2 with ⟨hn, _⟩ | ⟨b, off, cap, e, hb, _⟩
          · rw [hn] at h0; simp at h0
          · simp only [Value.slice.injEq, Option.some.injEq] at e
            rw [e.1]; exact hb
        omega
      clear hzz
      obtain ⟨zz, hzz⟩ : ∃ zz, w6.cell? ⟨g, m, none⟩ = some zz := by
        obtain ⟨g2, cap2, e, _, hcg, _⟩ := Ho6.out.at (k := m) (by omega)
        simp only [Value.slice.injEq, Option.some.injEq, Addr.mk.injEq] at e
        obtain ⟨⟨rfl, _⟩, _, _⟩ := e
        exact ⟨_, hcg⟩
      have hmI : (m : Int) < (xs.length : Int) := hx11
      go_wp2_with fail
      go_ret2
      exact ⟨_, _, _, _, rfl, hfin.out.2, hst.out.1.ri, hxl, by rw [List.length_set]; exact hxl, hfin.out.1⟩
end Go.Proofs.Ytnohlcffmikecaa
