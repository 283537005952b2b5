/- Contracts: draws of traces. -/
import Derived.Test.YtdmjpikkgfedmaaWalkF
namespace Go.Proofs.Ytdmjpikkgfedmaa
open Go.RowKit

/-- The slice value's bounds are those of a slice. -/
def CapOk (v : Value) : Prop := ∀ a n c, v = .slice a n c → n ≤ c ∧ c ≤ 9223372036854775807
theorem OI.capOk {w : World} {base : Nat} {v : Value} {xs : List Int} (h : OI w base v xs) : CapOk v := by
  rcases h.1.2 with ⟨rfl, hn⟩ | ⟨g, cap', cur, rfl, hbg, _, hnc, hcm, _⟩
  · intro a n c e; simp only [Value.slice.injEq] at e; omega
  · intro a n c e; simp only [Value.slice.injEq] at e; unfold maxLen at hcm; omega
/-- Numbers are drawn. -/
def DrawnC (rb p m : Nat) (w : World) (e : Ending) (w' : World) : Prop :=
  ∃ u xs q, e = .returned u ∧ RI w' u xs ∧ xs.length ≤ m ∧ (∀ a n c, u = .slice (some a) n c → w.heap.size ≤ a.block) ∧ CapOk u ∧ RD w' rb q ∧ q ≤ p + 1000 ∧ w.grownBy w' (some rb)
/-- A call of a draw from a code: numbers come out; what there was is as it was. -/
def DrewC (m : Nat) (w : World) (e : Ending) (w' : World) : Prop := ∃ u xs, e = .returned u ∧ RI w' u xs ∧ xs.length ≤ m ∧ CapOk u ∧ Below w.heap.size w w'

set_option maxHeartbeats 4000000 in
theorem l93Trace_c (rb p : Nat) (w : World) (h : RD w rb p) (hp : p ≤ 900000) : Calls Try.prog 23 #[.pointer (some ⟨rb, 0, none⟩)] w (DrawnC rb p 26 w) := by
  have hlt := h.lt
  have R0 := Lib.hid (h.keep ((Below.refl _ _).alloc (Nat.le_refl _) (.cells #[] 3)))
  have O0 := Lib.hid (OI.lit0 (w := w) (Nat.le_refl w.heap.size))
  have G0 := Lib.hid (grownBy_alloc (World.grownBy.refl w (some rb)) (.cells #[] 3))
  clear h
  go_enter Try.func23, Try.ntmps23
  go_wp2_with fail
  refine (pick_c rb p 20 _ R0.out (by omega) (by omega) (by omega)).mono ?_; rintro e w1 ⟨n, rfl, n0, n1, hr, hg⟩
  have R1 := Lib.hid hr; have O1 := Lib.hid (O0.out.keptRb hlt hg); have G1 := Lib.hid (grownBy_trans G0.out hg); clear hr hg
  go_wp2_with fail
  refine (pick_c rb (p + 1) 16 _ R1.out (by omega) (by omega) (by omega)).mono ?_; rintro e w2 ⟨z, rfl, z0, z1, hr, hg⟩
  have R2 := Lib.hid hr; have O2 := Lib.hid (O1.out.keptRb hlt hg); have G2 := Lib.hid (grownBy_trans G1.out hg); clear hr hg
  clear R0 O0 G0 R1 O1 G1
  obtain ⟨n, rfl⟩ := Int.eq_ofNat_of_zero_le n0
  by_cases h0 : z = 0
  · subst h0
    go_wp2_with fail
    refine (pick_c rb (p + 2) 3 _ R2.out (by omega) (by omega) (by omega)).mono ?_; rintro e w3 ⟨y, rfl, y0, y1, hr, hg⟩
    have R3 := Lib.hid hr; have O3 := Lib.hid (O2.out.keptRb hlt hg); have G3 := Lib.hid (grownBy_trans G2.out hg); clear hr hg
    obtain ⟨y, rfl⟩ := Int.eq_ofNat_of_zero_le y0
    go_wp2_with fail
    obtain ⟨m, hm⟩ : ∃ m : Nat, m = 23 + y := ⟨_, rfl⟩
    have hmI : (23 : Int) + (y : Int) = (m : Int) := by omega
    rw [hmI]
    have hm25 : m ≤ 25 := by omega
    clear hmI hm
    refine (pick_c rb (p + 3) 6 _ R3.out (by omega) (by omega) (by omega)).mono ?_; rintro e w4 ⟨gg, rfl, g0, g1, hr, hg⟩
    have R4 := Lib.hid hr; have O4 := Lib.hid (O3.out.keptRb hlt hg); have G4 := Lib.hid (grownBy_trans G3.out hg); clear hr hg
    go_wp2_with fail
    clear R2 O2 G2 R3 O3 G3
    go_loopw [3, 6] (fun out i wr => ∃ (k q : Nat) (xs : List Int), i = .int .i64 k ∧ k ≤ m ∧ Hid (xs.length = k) ∧ Hid (OI wr w.heap.size out xs) ∧ Hid (RD wr rb q) ∧ q ≤ p + 4 + k ∧ Hid (w.grownBy wr (some rb))) (fun _ i _ => m - (intOf i).toNat)
    case atStart => exact ⟨0, p + 4, [], rfl, Nat.zero_le _, rfl, O4.out, R4.out, by omega, G4.out⟩
    case round =>
      clear R4 O4 G4
      obtain ⟨k, q, xs, rfl, hk, hxl, ho, hr, hq, hg⟩ := hrel
      by_cases hkn : k < m
      · go_wp2_with fail
        refine (pick_c rb q (2 + gg) _ hr.out (by omega) (by omega) (by omega)).mono ?_; rintro e wa ⟨x, rfl, hx0, hx1, hr1, hg1⟩
        have Hr1 := Lib.hid hr1; have Ho1 := Lib.hid (ho.out.keptRb hlt hg1); have Hg1 := Lib.hid (grownBy_trans hg.out hg1); clear hr1 hg1
        have hsz := Lib.hid Hg1.out.size
        have hxl2 := Lib.hid (show xs.length + 1 ≤ 1099511627776 by have := hxl.out; omega)
        go_wp2_with (at_builtin; refine wpList_app rfl _ _ rfl w.heap.size _ xs rfl (Ho1.out.alloc _) _ 1 1 [x] rfl rfl (cell_one_new _ _ _) hxl2.out (by simp; exact Nat.le_succ_of_le hsz.out) ?_; intro v' w3 ho3 hg3; have Ho3 := Lib.hid ho3; have Hg3 := Lib.hid hg3; clear ho3 hg3)
        go_roundw
        case rel =>
          refine ⟨k + 1, q + 1, xs ++ [x], by go_num, by omega, by show _ = _; rw [List.length_append, hxl.out]; rfl, Ho3.out, ?_, by omega, ?_⟩
          · exact (Hr1.out.keep ((Below.refl _ _).alloc (Nat.le_refl _) _)).grown Hg3.out (fun j hj => by have := ((Ho1.out.alloc (.cells #[.int .i64 x] 3)).lt j hj).1; omega)
          · exact grownBy_later (grownBy_alloc Hg1.out _) Hg3.out (fun j hj => ((Ho1.out.alloc (.cells #[.int .i64 x] 3)).lt j hj).1)
        case measure => simp [intOf]; omega
      · have hke : k = m := by omega
        subst hke
        clear hk hkn
        by_cases hk0 : k = 0
        · subst hk0
          go_wp2_with fail
          go_ret
          exact ⟨_, xs, q, rfl, ho.out.ri, by rw [hxl.out]; omega, ho.out.blk, ho.out.capOk, hr.out, by omega, hg.out⟩
        · have hkI : (0 : Int) < (k : Int) := by omega
          go_wp2_with fail
          refine (pick_c rb q 20 _ hr.out (by omega) (by omega) (by omega)).mono ?_; rintro e wa ⟨u, rfl, u0, u1, hr1, hg1⟩
          have Hr1 := Lib.hid hr1; have Ho1 := Lib.hid (ho.out.keptRb hlt hg1); have Hg1 := Lib.hid (grownBy_trans hg.out hg1); clear hr1 hg1 ho hr hg
          by_cases hu : u = 0
          · subst hu
            go_wp2_with fail
            refine (pick_c rb (q + 1) k _ Hr1.out (by omega) (by omega) (by omega)).mono ?_; rintro e wb ⟨x, rfl, hx0, hx1, hr2, hg2⟩
            have hr3 := hr2.keep ((Below.refl _ _).alloc (Nat.le_refl _) (.cells #[.int .i64 (-1), .int .i64 15, .int .i64 16] 3))
            have ho3 := (Ho1.out.keptRb hlt hg2).alloc (.cells #[.int .i64 (-1), .int .i64 15, .int .i64 16] 3)
            have hg3 := grownBy_alloc (grownBy_trans Hg1.out hg2) (.cells #[.int .i64 (-1), .int .i64 15, .int .i64 16] 3)
            have hnew := heap_alloc_new wb (.cells #[.int .i64 (-1), .int .i64 15, .int .i64 16] 3)
            have hrb := hr2.lt
            have Hr2 := Lib.hid hr3; have Ho2 := Lib.hid ho3; have Hg2 := Lib.hid hg3; have Hn2 := Lib.hid hnew; clear hr2 hr3 ho3 hg3 hg2 hnew
            go_wp2_with fail
            refine (pick_c rb (q + 2) 3 _ Hr2.out (by omega) (by omega) (by omega)).mono ?_; rintro e wc ⟨y, rfl, hy0, hy1, hr3, hg3⟩
            have Hr3 := Lib.hid hr3; have Ho3 := Lib.hid (Ho2.out.keptRb hlt hg3); have Hg3 := Lib.hid (grownBy_trans Hg2.out hg3)
            have hn3 : wc.heap[wb.heap.size]? = some (.cells #[.int .i64 (-1), .int .i64 15, .int .i64 16] 3) := (hg3.block _ (by simp) (by simp; omega)).trans Hn2.out
            have hsz3 : wb.heap.size < wc.heap.size := (Array.getElem?_eq_some_iff.1 hn3).1
            have c0 : wc.cell? ⟨wb.heap.size, 0, none⟩ = some (.int .i64 (-1)) := by simp [World.cell?, hn3]
            have c1 : wc.cell? ⟨wb.heap.size, 1, none⟩ = some (.int .i64 15) := by simp [World.cell?, hn3]
            have c2 : wc.cell? ⟨wb.heap.size, 2, none⟩ = some (.int .i64 16) := by simp [World.cell?, hn3]
            clear hr3 hg3 hn3
            obtain ⟨x, rfl⟩ := Int.eq_ofNat_of_zero_le hx0
            obtain ⟨g, cap', rfl, hbg, hcg, hfg⟩ := Ho3.out.at (k := x) (by rw [hxl.out]; omega)
            obtain ⟨zz, hzz⟩ : ∃ zz, wc.cell? ⟨g, x, none⟩ = some zz := ⟨_, hcg⟩
            clear hcg
            have key : ∀ m : Int, Hid (OI (wc.setCell ⟨g, x, none⟩ (.int .i64 m)) w.heap.size (.slice (some ⟨g, 0, none⟩) xs.length cap') (xs.set x m) ∧ wc.grownBy (wc.setCell ⟨g, x, none⟩ (.int .i64 m)) (some g)) := fun m => Ho3.out.stored rfl x m
            have hgl := Lib.hid ((Ho3.out.lt g rfl).1)
            have hxlI : (x : Int) < (xs.length : Int) := by rw [hxl.out]; omega
            have hk25 := Lib.hid (show k ≤ 25 from hm25)
            have fin : ∀ m : Int, Hid (DrawnC rb p 26 w (.returned (.slice (some ⟨g, 0, none⟩) xs.length cap')) (wc.setCell ⟨g, x, none⟩ (.int .i64 m))) := fun m => by
              have := hk25.out
              refine ⟨_, _, q + 3, rfl, (key m).out.1.ri, by rw [List.length_set, hxl.out]; omega, (key m).out.1.blk, (key m).out.1.capOk, Hr3.out.grown (key m).out.2 (fun k hk => by simp at hk; have := hgl.out; omega), by omega, grownBy_later Hg3.out (key m).out.2 (fun k hk => by simp at hk; have := hgl.out; omega)⟩
            have hy : y = 0 ∨ y = 1 ∨ y = 2 := by omega
            rcases hy with rfl | rfl | rfl
            all_goals
              go_wp2_with fail
              go_ret
              exact (fin _).out
          · have hub : (u == 0) = false := by simpa using hu
            go_wp2_with fail
            go_ret
            exact ⟨_, xs, q + 1, rfl, Ho1.out.ri, by rw [hxl.out]; omega, Ho1.out.blk, Ho1.out.capOk, Hr1.out, by omega, Hg1.out⟩
  · have hzb : (z == 0) = false := by simpa using h0
    go_wp2_with fail
    refine (pick_c rb (p + 2) 6 _ R2.out (by omega) (by omega) (by omega)).mono ?_; rintro e w4 ⟨gg, rfl, g0, g1, hr, hg⟩
    have R4 := Lib.hid hr; have O4 := Lib.hid (O2.out.keptRb hlt hg); have G4 := Lib.hid (grownBy_trans G2.out hg); clear hr hg
    go_wp2_with fail
    clear R2 O2 G2
    have hm25 : n ≤ 25 := by omega
    go_loopw [3, 6] (fun out i wr => ∃ (k q : Nat) (xs : List Int), i = .int .i64 k ∧ k ≤ n ∧ Hid (xs.length = k) ∧ Hid (OI wr w.heap.size out xs) ∧ Hid (RD wr rb q) ∧ q ≤ p + 4 + k ∧ Hid (w.grownBy wr (some rb))) (fun _ i _ => n - (intOf i).toNat)
    case atStart => exact ⟨0, p + 3, [], rfl, Nat.zero_le _, rfl, O4.out, R4.out, by omega, G4.out⟩
    case round =>
      clear R4 O4 G4
      obtain ⟨k, q, xs, rfl, hk, hxl, ho, hr, hq, hg⟩ := hrel
      by_cases hkn : k < n
      · go_wp2_with fail
        refine (pick_c rb q (2 + gg) _ hr.out (by omega) (by omega) (by omega)).mono ?_; rintro e wa ⟨x, rfl, hx0, hx1, hr1, hg1⟩
        have Hr1 := Lib.hid hr1; have Ho1 := Lib.hid (ho.out.keptRb hlt hg1); have Hg1 := Lib.hid (grownBy_trans hg.out hg1); clear hr1 hg1
        have hsz := Lib.hid Hg1.out.size
        have hxl2 := Lib.hid (show xs.length + 1 ≤ 1099511627776 by have := hxl.out; omega)
        go_wp2_with (at_builtin; refine wpList_app rfl _ _ rfl w.heap.size _ xs rfl (Ho1.out.alloc _) _ 1 1 [x] rfl rfl (cell_one_new _ _ _) hxl2.out (by simp; exact Nat.le_succ_of_le hsz.out) ?_; intro v' w3 ho3 hg3; have Ho3 := Lib.hid ho3; have Hg3 := Lib.hid hg3; clear ho3 hg3)
        go_roundw
        case rel =>
          refine ⟨k + 1, q + 1, xs ++ [x], by go_num, by omega, by show _ = _; rw [List.length_append, hxl.out]; rfl, Ho3.out, ?_, by omega, ?_⟩
          · exact (Hr1.out.keep ((Below.refl _ _).alloc (Nat.le_refl _) _)).grown Hg3.out (fun j hj => by have := ((Ho1.out.alloc (.cells #[.int .i64 x] 3)).lt j hj).1; omega)
          · exact grownBy_later (grownBy_alloc Hg1.out _) Hg3.out (fun j hj => ((Ho1.out.alloc (.cells #[.int .i64 x] 3)).lt j hj).1)
        case measure => simp [intOf]; omega
      · have hke : k = n := by omega
        subst hke
        clear hk hkn
        by_cases hk0 : k = 0
        · subst hk0
          go_wp2_with fail
          go_ret
          exact ⟨_, xs, q, rfl, ho.out.ri, by rw [hxl.out]; omega, ho.out.blk, ho.out.capOk, hr.out, by omega, hg.out⟩
        · have hkI : (0 : Int) < (k : Int) := by omega
          go_wp2_with fail
          refine (pick_c rb q 20 _ hr.out (by omega) (by omega) (by omega)).mono ?_; rintro e wa ⟨u, rfl, u0, u1, hr1, hg1⟩
          have Hr1 := Lib.hid hr1; have Ho1 := Lib.hid (ho.out.keptRb hlt hg1); have Hg1 := Lib.hid (grownBy_trans hg.out hg1); clear hr1 hg1 ho hr hg
          by_cases hu : u = 0
          · subst hu
            go_wp2_with fail
            refine (pick_c rb (q + 1) k _ Hr1.out (by omega) (by omega) (by omega)).mono ?_; rintro e wb ⟨x, rfl, hx0, hx1, hr2, hg2⟩
            have hr3 := hr2.keep ((Below.refl _ _).alloc (Nat.le_refl _) (.cells #[.int .i64 (-1), .int .i64 15, .int .i64 16] 3))
            have ho3 := (Ho1.out.keptRb hlt hg2).alloc (.cells #[.int .i64 (-1), .int .i64 15, .int .i64 16] 3)
            have hg3 := grownBy_alloc (grownBy_trans Hg1.out hg2) (.cells #[.int .i64 (-1), .int .i64 15, .int .i64 16] 3)
            have hnew := heap_alloc_new wb (.cells #[.int .i64 (-1), .int .i64 15, .int .i64 16] 3)
            have hrb := hr2.lt
            have Hr2 := Lib.hid hr3; have Ho2 := Lib.hid ho3; have Hg2 := Lib.hid hg3; have Hn2 := Lib.hid hnew; clear hr2 hr3 ho3 hg3 hg2 hnew
            go_wp2_with fail
            refine (pick_c rb (q + 2) 3 _ Hr2.out (by omega) (by omega) (by omega)).mono ?_; rintro e wc ⟨y, rfl, hy0, hy1, hr3, hg3⟩
            have Hr3 := Lib.hid hr3; have Ho3 := Lib.hid (Ho2.out.keptRb hlt hg3); have Hg3 := Lib.hid (grownBy_trans Hg2.out hg3)
            have hn3 : wc.heap[wb.heap.size]? = some (.cells #[.int .i64 (-1), .int .i64 15, .int .i64 16] 3) := (hg3.block _ (by simp) (by simp; omega)).trans Hn2.out
            have hsz3 : wb.heap.size < wc.heap.size := (Array.getElem?_eq_some_iff.1 hn3).1
            have c0 : wc.cell? ⟨wb.heap.size, 0, none⟩ = some (.int .i64 (-1)) := by simp [World.cell?, hn3]
            have c1 : wc.cell? ⟨wb.heap.size, 1, none⟩ = some (.int .i64 15) := by simp [World.cell?, hn3]
            have c2 : wc.cell? ⟨wb.heap.size, 2, none⟩ = some (.int .i64 16) := by simp [World.cell?, hn3]
            clear hr3 hg3 hn3
            obtain ⟨x, rfl⟩ := Int.eq_ofNat_of_zero_le hx0
            obtain ⟨g, cap', rfl, hbg, hcg, hfg⟩ := Ho3.out.at (k := x) (by rw [hxl.out]; omega)
            obtain ⟨zz, hzz⟩ : ∃ zz, wc.cell? ⟨g, x, none⟩ = some zz := ⟨_, hcg⟩
            clear hcg
            have key : ∀ m : Int, Hid (OI (wc.setCell ⟨g, x, none⟩ (.int .i64 m)) w.heap.size (.slice (some ⟨g, 0, none⟩) xs.length cap') (xs.set x m) ∧ wc.grownBy (wc.setCell ⟨g, x, none⟩ (.int .i64 m)) (some g)) := fun m => Ho3.out.stored rfl x m
            have hgl := Lib.hid ((Ho3.out.lt g rfl).1)
            have hxlI : (x : Int) < (xs.length : Int) := by rw [hxl.out]; omega
            have hk25 := Lib.hid (show k ≤ 25 from hm25)
            have fin : ∀ m : Int, Hid (DrawnC rb p 26 w (.returned (.slice (some ⟨g, 0, none⟩) xs.length cap')) (wc.setCell ⟨g, x, none⟩ (.int .i64 m))) := fun m => by
              have := hk25.out
              refine ⟨_, _, q + 3, rfl, (key m).out.1.ri, by rw [List.length_set, hxl.out]; omega, (key m).out.1.blk, (key m).out.1.capOk, Hr3.out.grown (key m).out.2 (fun k hk => by simp at hk; have := hgl.out; omega), by omega, grownBy_later Hg3.out (key m).out.2 (fun k hk => by simp at hk; have := hgl.out; omega)⟩
            have hy : y = 0 ∨ y = 1 ∨ y = 2 := by omega
            rcases hy with rfl | rfl | rfl
            all_goals
              go_wp2_with fail
              go_ret
              exact (fin _).out
          · have hub : (u == 0) = false := by simpa using hu
            go_wp2_with fail
            go_ret
            exact ⟨_, xs, q + 1, rfl, Ho1.out.ri, by rw [hxl.out]; omega, Ho1.out.blk, Ho1.out.capOk, Hr1.out, by omega, Hg1.out⟩
end Go.Proofs.Ytdmjpikkgfedmaa
