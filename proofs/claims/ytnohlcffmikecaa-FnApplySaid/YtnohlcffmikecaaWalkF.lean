/- Contracts: what is drawn from a code: words of a page. -/
import Derived.Test.YtnohlcffmikecaaWalkE
namespace Go.Proofs.Ytnohlcffmikecaa
open Go.RowKit

theorem IsRow.rb {w : World} {a : Option Addr} {len cap : Nat} {zs : List Int} (h : IsRow .u8 w a len cap zs) : RB w (.slice a len cap) len := by
  rcases h with ⟨rfl, rfl, rfl, rfl⟩ | ⟨⟨b, off, spot⟩, rfl, hlc, hcm, hz, hc, hw⟩
  · exact ⟨_, _, rfl, Nat.le_refl _, by unfold maxLen; omega, .inl rfl⟩
  · refine ⟨_, _, rfl, hlc, hcm, ?_⟩
    by_cases h0 : len = 0
    · exact .inl h0
    · right
      have hs : spot = none := by simpa [Addr.add] using World.cell?_spot (hc 0 (by omega))
      subst hs
      have hb : b < w.heap.size := World.block_lt_of_cell? w _ (hc 0 (by omega))
      refine ⟨b, off, rfl, hb, fun i hi => ?_⟩
      have hi' : i < zs.length := by omega
      have h1 := hc i hi'
      rw [Addr.add_lit] at h1
      have h2 := hw (zs.getD i 0) (by simp [List.getD, List.getElem?_eq_getElem hi'])
      have h3 : 0 ≤ zs.getD i 0 ∧ zs.getD i 0 ≤ 255 := by
        generalize zs.getD i 0 = y at h2
        simpa [Lit.wf, IntKind.min, IntKind.max, IntKind.signed, IntKind.bits] using h2
      exact ⟨(zs.getD i 0).toNat, by omega, by rw [h1]; congr 2; omega⟩

theorem RB.below {w w' : World} {v : Value} {n : Nat} (h : RB w v n) (hb : Below w.heap.size w w') : RB w' v n := by
  obtain ⟨a, cap, hv, h1, h2, h3⟩ := h
  refine ⟨a, cap, hv, h1, h2, ?_⟩
  rcases h3 with h3 | ⟨b, off, ha, hl, hc⟩
  · exact .inl h3
  · refine .inr ⟨b, off, ha, Nat.lt_of_lt_of_le hl hb.size, fun i hi => ?_⟩
    obtain ⟨x, hx, hcx⟩ := hc i hi
    exact ⟨x, hx, (hb.cell (p := ⟨b, off + i, none⟩) hl).trans hcx⟩

/-- A reader is made. -/
def Opened (w : World) (e : Ending) (w' : World) : Prop := ∃ rb, e = .returned (.pointer (some ⟨rb, 0, none⟩)) ∧ w.heap.size ≤ rb ∧ RD w' rb 0 ∧ Below w.heap.size w w'

set_option maxHeartbeats 1000000 in
theorem l6Open_c (v : Value) (n : Nat) (w : World) (h : RB w v n) : Calls Try.prog 25 #[v] w (Opened w) := by
  obtain ⟨a, cap, rfl, hnc, hcm, hb⟩ := h
  have hm : cap ≤ 9223372036854775807 := by unfold maxLen at hcm; omega
  have hb' : ∀ m, m ≤ n → ∀ o, RD (w.alloc (.cells #[.slice a m cap, .int .i64 0] 42)) w.heap.size 0 ∨ ¬ (m ≤ 2000 ∧ o = 0) := by
    intro m hmn o
    by_cases h2 : m ≤ 2000 ∧ o = 0
    · left
      refine ⟨_, m, heap_alloc_new w _, h2.1, a, cap, rfl, ?_⟩
      rcases hb with h0 | ⟨b, off, ha, hlt, hc⟩
      · exact .inl (by omega)
      · refine .inr ⟨b, off, ha, hlt, fun i hi => ?_⟩
        obtain ⟨x, hx, hcx⟩ := hc i (by omega)
        exact ⟨x, hx, ((((Below.refl w.heap.size w).alloc (Nat.le_refl _) _).cell (p := ⟨b, off + i, none⟩) hlt)).trans hcx⟩
    · exact .inr h2
  have Hb := Lib.hid hb'
  clear hb hb' hcm
  by_cases h2 : n ≤ 2000
  · go_enter Try.func25, Try.ntmps25
    go_wp2_with fail
    go_ret
    exact ⟨_, rfl, Nat.le_refl _, (Hb.out n (Nat.le_refl _) 0).resolve_right (fun h => h ⟨h2, rfl⟩), (Below.refl _ _).alloc (Nat.le_refl _) _⟩
  · go_enter Try.func25, Try.ntmps25
    go_wp2_with fail
    go_ret
    exact ⟨_, rfl, Nat.le_refl _, (Hb.out 2000 (by omega) 0).resolve_right (fun h => h ⟨by omega, rfl⟩), (Below.refl _ _).alloc (Nat.le_refl _) _⟩

/-- Numbers are drawn. -/
def DrawnI (rb p m : Nat) (w : World) (e : Ending) (w' : World) : Prop :=
  ∃ u xs q, e = .returned u ∧ RI w' u xs ∧ xs.length ≤ m ∧ (∀ a n c, u = .slice (some a) n c → w.heap.size ≤ a.block) ∧ RD w' rb q ∧ q ≤ p + 1000 ∧ w.grownBy w' (some rb)

theorem OI.blk {w : World} {base : Nat} {v : Value} {xs : List Int} (h : OI w base v xs) : ∀ a n c, v = .slice (some a) n c → base ≤ a.block := by
  rintro a n c rfl
  exact (h.lt a.block rfl).1

set_option maxHeartbeats 2000000 in
theorem l93Words_c (rb p : Nat) (w : World) (h : RD w rb p) (hp : p ≤ 900000) : Calls Try.prog 26 #[.pointer (some ⟨rb, 0, none⟩)] w (DrawnI rb p 8 w) := by
  have hlt := h.lt
  have H := Lib.hid (h.keep ((Below.refl _ _).alloc (Nat.le_refl _) (.cells #[] 3)))
  clear h
  go_enter Try.func26, Try.ntmps26
  go_wp2_with fail
  go_loopw [3, 4] (fun out i wr => ∃ (k q : Nat) (xs : List Int), i = .int .i64 k ∧ k ≤ 4 ∧ Hid (xs.length = k) ∧ Hid (OI wr w.heap.size out xs) ∧ Hid (RD wr rb q) ∧ q ≤ p + 2 * k ∧ Hid (w.grownBy wr (some rb))) (fun _ i _ => 4 - (intOf i).toNat)
  case atStart => exact ⟨0, p, [], rfl, Nat.zero_le _, rfl, OI.lit0 (Nat.le_refl _), H.out, by omega, grownBy_alloc (World.grownBy.refl _ _) _⟩
  case round =>
    clear H
    obtain ⟨k, q, xs, rfl, hk, hxl, ho, hr, hq, hg⟩ := hrel
    by_cases hk4 : k < 4
    · go_wp2_with fail
      refine (pick_c rb q 3 _ hr.out (by omega) (by omega) (by omega)).mono ?_; rintro e w1 ⟨x, rfl, hx0, hx1, hr1, hg1⟩
      have Hr1 := Lib.hid hr1; have Ho1 := Lib.hid (ho.out.keptRb hlt hg1); have Hg1 := Lib.hid (grownBy_trans hg.out hg1); clear hr1 hg1
      go_wp2_with fail
      refine (pick_c rb (q + 1) 4 _ Hr1.out (by omega) (by omega) (by omega)).mono ?_; rintro e w2 ⟨y, rfl, hy0, hy1, hr2, hg2⟩
      have Hr2 := Lib.hid hr2; have Ho2 := Lib.hid (Ho1.out.keptRb hlt hg2); have Hg2 := Lib.hid (grownBy_trans Hg1.out hg2); clear hr2 hg2
      have hm0 : 0 ≤ x * y := Int.mul_nonneg hx0 hy0
      have hm1 : x * y ≤ 2 * y := Int.mul_le_mul_of_nonneg_right (by omega) hy0
      have hsz := Lib.hid Hg2.out.size
      have hxl2 := Lib.hid (show xs.length + 1 ≤ 1099511627776 by have := hxl.out; omega)
      go_wp2_with (at_builtin; refine wpList_app rfl _ _ rfl w.heap.size _ xs rfl (Ho2.out.alloc _) _ 1 1 [x * y] rfl rfl (cell_one_new _ _ _) hxl2.out (by simp; exact Nat.le_succ_of_le hsz.out) ?_; intro v' w3 ho3 hg3; have Ho3 := Lib.hid ho3; have Hg3 := Lib.hid hg3; clear ho3 hg3)
      go_roundw
      case rel =>
        refine ⟨k + 1, q + 2, xs ++ [x * y], by go_num, by omega, by show _ = _; rw [List.length_append, hxl.out]; rfl, Ho3.out, ?_, by omega, ?_⟩
        · exact (Hr2.out.keep ((Below.refl _ _).alloc (Nat.le_refl _) _)).grown Hg3.out (fun j hj => by have := ((Ho2.out.alloc (.cells #[.int .i64 (x * y)] 3)).lt j hj).1; omega)
        · exact grownBy_later (grownBy_alloc Hg2.out _) Hg3.out (fun j hj => ((Ho2.out.alloc (.cells #[.int .i64 (x * y)] 3)).lt j hj).1)
      case measure => simp [intOf]; omega
    · have : k = 4 := by omega
      subst this
      go_wp2_with fail
      refine (pick_c rb q 20 _ hr.out (by omega) (by omega) (by omega)).mono ?_; rintro e w1 ⟨z, rfl, hz0, hz1, hr1, hg1⟩
      have Hr1 := Lib.hid hr1; have Ho1 := Lib.hid (ho.out.keptRb hlt hg1); have Hg1 := Lib.hid (grownBy_trans hg.out hg1); clear hr1 hg1
      clear ho hr hg
      by_cases h0 : z = 0
      · subst h0
        go_wp2_with fail
        refine (pick_c rb (q + 1) 4 _ Hr1.out (by omega) (by omega) (by omega)).mono ?_; rintro e w2 ⟨x, rfl, hx0, hx1, hr2, hg2⟩
        have hr3 := hr2.keep ((Below.refl _ _).alloc (Nat.le_refl _) (.cells #[.int .i64 (-1), .int .i64 9999, .int .i64 10000] 3))
        have ho3 := (Ho1.out.keptRb hlt hg2).alloc (.cells #[.int .i64 (-1), .int .i64 9999, .int .i64 10000] 3)
        have hg3 := grownBy_alloc (grownBy_trans Hg1.out hg2) (.cells #[.int .i64 (-1), .int .i64 9999, .int .i64 10000] 3)
        have hnew := heap_alloc_new w2 (.cells #[.int .i64 (-1), .int .i64 9999, .int .i64 10000] 3)
        have hrb := hr2.lt
        have Hr2 := Lib.hid hr3; have Ho2 := Lib.hid ho3; have Hg2 := Lib.hid hg3; have Hn2 := Lib.hid hnew; clear hr2 hr3 ho3 hg3 hg2 hnew
        go_wp2_with fail
        refine (pick_c rb (q + 2) 3 _ Hr2.out (by omega) (by omega) (by omega)).mono ?_; rintro e w3 ⟨y, rfl, hy0, hy1, hr3, hg3⟩
        have Hr3 := Lib.hid hr3; have Ho3 := Lib.hid (Ho2.out.keptRb hlt hg3); have Hg3 := Lib.hid (grownBy_trans Hg2.out hg3)
        have hn3 : w3.heap[w2.heap.size]? = some (.cells #[.int .i64 (-1), .int .i64 9999, .int .i64 10000] 3) := (hg3.block _ (by simp) (by simp; omega)).trans Hn2.out
        have hsz3 : w2.heap.size < w3.heap.size := (Array.getElem?_eq_some_iff.1 hn3).1
        have c0 : w3.cell? ⟨w2.heap.size, 0, none⟩ = some (.int .i64 (-1)) := by simp [World.cell?, hn3]
        have c1 : w3.cell? ⟨w2.heap.size, 1, none⟩ = some (.int .i64 9999) := by simp [World.cell?, hn3]
        have c2 : w3.cell? ⟨w2.heap.size, 2, none⟩ = some (.int .i64 10000) := by simp [World.cell?, hn3]
        clear hr3 hg3 hn3
        obtain ⟨x, rfl⟩ := Int.eq_ofNat_of_zero_le hx0
        obtain ⟨g, cap', rfl, hbg, hcg, hfg⟩ := Ho3.out.at (k := x) (by rw [hxl.out]; omega)
        obtain ⟨zz, hzz⟩ : ∃ zz, w3.cell? ⟨g, x, none⟩ = some zz := ⟨_, hcg⟩
        clear hcg
        have key : ∀ m : Int, Hid (OI (w3.setCell ⟨g, x, none⟩ (.int .i64 m)) w.heap.size (.slice (some ⟨g, 0, none⟩) xs.length cap') (xs.set x m) ∧ w3.grownBy (w3.setCell ⟨g, x, none⟩ (.int .i64 m)) (some g)) := fun m => Ho3.out.stored rfl x m
        have hgl := Lib.hid ((Ho3.out.lt g rfl).1)
        have hxlI : (x : Int) < (xs.length : Int) := by rw [hxl.out]; omega
        have fin : ∀ m : Int, Hid (DrawnI rb p 8 w (.returned (.slice (some ⟨g, 0, none⟩) xs.length cap')) (w3.setCell ⟨g, x, none⟩ (.int .i64 m))) := fun m => by
          refine ⟨_, _, q + 3, rfl, (key m).out.1.ri, by rw [List.length_set, hxl.out]; omega, (key m).out.1.blk, Hr3.out.grown (key m).out.2 (fun k hk => by simp at hk; have := hgl.out; omega), by omega, grownBy_later Hg3.out (key m).out.2 (fun k hk => by simp at hk; have := hgl.out; omega)⟩
        have hy : y = 0 ∨ y = 1 ∨ y = 2 := by omega
        rcases hy with rfl | rfl | rfl
        all_goals
          go_wp2_with fail
          go_ret
          exact (fin _).out
      · have hzb0 : (z == 0) = false := by simpa using h0
        by_cases h1 : z = 1
        · subst h1
          go_wp2_with fail
          refine (pick_c rb (q + 1) 4 _ Hr1.out (by omega) (by omega) (by omega)).mono ?_; rintro e w2 ⟨x, rfl, hx0, hx1, hr2, hg2⟩
          have Hr2 := Lib.hid hr2; have Ho2 := Lib.hid (Ho1.out.keptRb hlt hg2); have Hg2 := Lib.hid (grownBy_trans Hg1.out hg2); clear hr2 hg2
          obtain ⟨x, rfl⟩ := Int.eq_ofNat_of_zero_le hx0
          rcases Ho2.out.1.2 with ⟨_, hn⟩ | ⟨g, cap', cur, rfl, hbg, _, hnc, hcm, _⟩
          · have := hxl.out; omega
          · have hcm' : cap' ≤ 9223372036854775807 := by unfold maxLen at hcm; omega
            have hx4 : x ≤ cap' := by have := hxl.out; omega
            have hxlen : x ≤ xs.length := by rw [hxl.out]; omega
            have hblk : Hid (∀ a n c, Value.slice (some ⟨g, 0, none⟩) x cap' = .slice (some a) n c → w.heap.size ≤ a.block) := by
              intro a n c e; simp only [Value.slice.injEq, Option.some.injEq] at e; rw [← e.1]; exact hbg
            clear hcm hnc
            go_wp2_with fail
            go_ret
            exact ⟨_, _, q + 2, rfl, Ho2.out.ri.take x hxlen, by rw [List.length_take]; omega, hblk.out, Hr2.out, by omega, Hg2.out⟩
        · have hzb1 : (z == 1) = false := by simpa using h1
          by_cases h2 : z = 2
          · subst h2
            have hsz := Lib.hid Hg1.out.size
            have hxl2 := Lib.hid (show xs.length + 1 ≤ 1099511627776 by have := hxl.out; omega)
            go_wp2_with (at_builtin; refine wpList_app rfl _ _ rfl w.heap.size _ xs rfl (Ho1.out.alloc _) _ 1 1 [1] rfl rfl (cell_one_new _ _ _) hxl2.out (by simp; exact Nat.le_succ_of_le hsz.out) ?_; intro v' w3 ho3 hg3; have Ho3 := Lib.hid ho3; have Hg3 := Lib.hid hg3; clear ho3 hg3)
            go_ret
            refine ⟨_, _, q + 1, rfl, Ho3.out.ri, by rw [List.length_append, hxl.out]; decide, Ho3.out.blk, ?_, by omega, ?_⟩
            · exact (Hr1.out.keep ((Below.refl _ _).alloc (Nat.le_refl _) _)).grown Hg3.out (fun j hj => by have := ((Ho1.out.alloc (.cells #[.int .i64 1] 3)).lt j hj).1; omega)
            · exact grownBy_later (grownBy_alloc Hg1.out _) Hg3.out (fun j hj => ((Ho1.out.alloc (.cells #[.int .i64 1] 3)).lt j hj).1)
          · have hzb2 : (z == 2) = false := by simpa using h2
            go_wp2_with fail
            go_ret
            exact ⟨_, _, q + 1, rfl, Ho1.out.ri, by rw [hxl.out]; decide, Ho1.out.blk, Hr1.out, by omega, Hg1.out⟩

/-- A call of a draw from a code: numbers come out; what there was is as it was. -/
def DrewI (m : Nat) (w : World) (e : Ending) (w' : World) : Prop := ∃ u xs, e = .returned u ∧ RI w' u xs ∧ xs.length ≤ m ∧ Below w.heap.size w w'

theorem DrawPagePack_c (v : Value) (n : Nat) (w : World) (h : RB w v n) : Calls Try.prog 19 #[v] w (DrewI 8 w) := by
  have Ho := Lib.hid (l6Open_c v n w h)
  obtain ⟨a, cap, rfl, _⟩ := h
  go_enter Try.func19, Try.ntmps19
  go_wp2_with fail
  refine Ho.out.mono ?_; rintro e w1 ⟨rb, rfl, hrb, hr, hb⟩
  have Hb := Lib.hid hb; clear hb
  go_wp2_with fail
  refine (l93Words_c rb 0 _ hr (by omega)).mono ?_; rintro e w2 ⟨u, xs, q, rfl, hri, hxl, _, _, _, hg⟩
  have Hi := Lib.hid hri; have Hl := Lib.hid hxl; have Hg := Lib.hid (Hb.out.trans (grownBy_below hg hrb Hb.out.size)); clear hri hxl hg
  go_wp2_with fail
  go_ret
  exact ⟨_, _, rfl, Hi.out, Hl.out, Hg.out⟩
end Go.Proofs.Ytnohlcffmikecaa
