/- Contracts: draws of a trace and a number of frames. -/
import Derived.Test.YtdmjpikkgfedmaaWalkY
import Derived.Deep.RegionWith
namespace Go.Proofs.Ytdmjpikkgfedmaa
open Go.RowKit

/-- the literal of the wrong numbers of frames -/
def lit3 : Obj := .cells #[.int .i64 0, .int .i64 12, .int .i64 13] 3

set_option maxHeartbeats 2000000 in
set_option maxRecDepth 100000 in
theorem DrawFaultsFirst_c (v : Value) (n : Nat) (w : World) (h : RB w v n) : Calls Try.prog 11 #[v] w (DrewIn 26 w) := by
  have Ho := Lib.hid (l6Open_c v n w h)
  obtain ⟨a, cap, rfl, _⟩ := h
  go_enter Try.func11, Try.ntmps11
  go_wp2_with fail
  refine Ho.out.mono ?_; rintro e w1 ⟨rb, rfl, hrb, hr, hb⟩
  have Hb := Lib.hid hb; clear hb
  go_wp2_with fail
  refine (l93Trace_c rb 0 _ hr (by omega)).mono ?_; rintro e w2 ⟨u, xs, q, rfl, hri, hxl, hblk, hco, hrd, hq, hg⟩
  have Hi := Lib.hid hri; have Hco := Lib.hid hco; clear hco; have Hl := Lib.hid hxl; have Hg := Lib.hid (Hb.out.trans (grownBy_below hg hrb Hb.out.size)); have Rd := Lib.hid hrd
  have hs1 : rb < w1.heap.size := hr.lt
  have hne : Hid (∀ a n c, u = .slice (some a) n c → a.block ≠ rb) := fun a n c e => by have := hblk a n c e; omega
  clear hri hxl hg hrd hr hblk hs1
  go_wp2_with fail
  refine (pick_c rb q 16 _ Rd.out (by omega) (by omega) (by omega)).mono ?_; rintro e w3 ⟨z, rfl, z0, z1, hr, hg⟩
  have Hi3 := Lib.hid (Hi.out.keptRb hg hne.out)
  have Hg3 := Lib.hid (Hg.out.trans (grownBy_below hg hrb Hg.out.size))
  have Rd3 := Lib.hid hr
  clear Hi Hg Rd hr hg
  by_cases hz : z = 0
  · subst hz
    obtain ⟨au, cu, rfl⟩ := Hi3.out.val
    have hrl := Rd3.out.lt
    have RA : Hid (RD (w3.alloc lit3).drew rb (q + 1)) := (show RD (w3.alloc lit3) rb (q + 1) from Rd3.out.keep ((Below.refl _ _).alloc (Nat.le_refl _) _))
    have RB : Hid (RD w3.drew rb (q + 1)) := Rd3.out
    have IA : Hid (RI (w3.alloc lit3).drew (.slice au xs.length cu) xs) := (show RI (w3.alloc lit3) (.slice au xs.length cu) xs from Hi3.out.below ((Below.refl _ _).alloc (Nat.le_refl _) _))
    have IB : Hid (RI w3.drew (.slice au xs.length cu) xs) := Hi3.out
    have NA : Hid ((w3.alloc lit3).drew.heap[w3.heap.size]? = some lit3) := heap_alloc_new w3 lit3
    have BA : Hid (Below w.heap.size w (w3.alloc lit3).drew) := by
      have := Hg3.out.alloc Hg3.out.size lit3
      exact ⟨this.os, this.tape, this.output, this.size, this.block⟩
    have BB : Hid (Below w.heap.size w w3.drew) := ⟨Hg3.out.os, Hg3.out.tape, Hg3.out.output, Hg3.out.size, Hg3.out.block⟩
    have sz : Hid (w3.heap.size < (w3.alloc lit3).drew.heap.size) := by show w3.heap.size < (w3.alloc lit3).heap.size; simp
    have hrr : rb ≠ w3.heap.size := by omega
    have Hrr := Lib.hid hrr
    have hq3 : q + 1 ≤ 1000000 := by omega
    have look : ∀ y : Nat, y < 3 → ∃ f : Int, (#[Value.int .i64 0, .int .i64 12, .int .i64 13] : Array Value)[y]? = some (.int .i64 f) ∧ 0 ≤ f ∧ f ≤ 13 := fun y hy => by
      have : y = 0 ∨ y = 1 ∨ y = 2 := by omega
      rcases this with rfl | rfl | rfl
      · exact ⟨0, rfl, by omega, by omega⟩
      · exact ⟨12, rfl, by omega, by omega⟩
      · exact ⟨13, rfl, by omega, by omega⟩
    have Look := Lib.hid look
    clear look hrr
    unfold lit3 at *
    go_wp2_with fail
    go_region_with (go_at_call 24; (first
      | (refine (pick_c rb (q + 1) 3 _ RA.out hq3 (by omega) (by omega)).mono ?_; rintro e w4 ⟨y, rfl, y0, y1, hr, hg⟩
         obtain ⟨y, rfl⟩ := Int.eq_ofNat_of_zero_le y0
         have hI := IA.out.keptRb hg hne.out
         have hB := BA.out.trans (grownBy_below hg hrb BA.out.size)
         obtain ⟨f, hf, hf0, hf1⟩ := Look.out y (by omega)
         have hh : w4.heap[w3.heap.size]? = _ := (hg.block _ sz.out (by simpa using Hrr.out.symm)).trans NA.out
         have hcell : w4.cell? ⟨w3.heap.size, y, none⟩ = some (.int .i64 f) := by simp only [World.cell?, hh]; exact hf
         clear hh hr hg)
      | (refine (pick_c rb (q + 1) 3 _ RB.out hq3 (by omega) (by omega)).mono ?_; rintro e w4 ⟨y, rfl, y0, y1, hr, hg⟩
         obtain ⟨y, rfl⟩ := Int.eq_ofNat_of_zero_le y0
         have hI := IB.out.keptRb hg hne.out
         have hB := BB.out.trans (grownBy_below hg hrb BB.out.size)
         obtain ⟨f, hf, hf0, hf1⟩ := Look.out y (by omega)
         have hcell : (w4.alloc (.cells #[.int .i64 0, .int .i64 12, .int .i64 13] 3)).cell? ⟨w4.heap.size, y, none⟩ = some (.int .i64 f) := by simp only [World.cell?, heap_alloc_new]; exact hf
         clear hr hg)))
    · go_wp2_with fail
      go_ret2
      exact ⟨_, xs, f, rfl, hI, Hl.out, Hco.out, hf0, hf1, hB⟩
    · go_wp2_with fail
      go_ret2
      exact ⟨_, xs, f, rfl, hI.below ((Below.refl _ _).alloc (Nat.le_refl _) _), Hl.out, Hco.out, hf0, hf1, hB.alloc hB.size _⟩
  · have hzb : (z == 0) = false := by simpa using hz
    go_wp2_with fail
    refine (pick_c rb (q + 1) 6 _ Rd3.out (by omega) (by omega) (by omega)).mono ?_; rintro e w4 ⟨y, rfl, y0, y1, hr, hg⟩
    have Hi4 := Lib.hid (Hi3.out.keptRb hg hne.out)
    have Hg4 := Lib.hid (Hg3.out.trans (grownBy_below hg hrb Hg3.out.size))
    clear hr hg
    go_wp2_with fail
    go_ret2
    exact ⟨_, xs, 1 + y, rfl, Hi4.out, Hl.out, Hco.out, by omega, by omega, Hg4.out⟩

theorem DrawFaultsLast_c (v : Value) (n : Nat) (w : World) (h : RB w v n) : Calls Try.prog 16 #[v] w (DrewIn 26 w) := by
  have Hc := Lib.hid (DrawFaultsFirst_c v n w h)
  obtain ⟨a, cap, rfl, _⟩ := h
  go_enter Try.func16, Try.ntmps16
  go_wp2_with fail
  refine Hc.out.mono ?_; rintro e w1 ⟨u, xs, f, rfl, hri, hxl, hco, hf0, hf1, hb⟩
  have Hri := Lib.hid hri; have Hco := Lib.hid hco; have Hb := Lib.hid hb; clear hri hco hb
  go_wp2_with fail
  go_ret2
  exact ⟨u, xs, f, rfl, Hri.out, hxl, Hco.out, hf0, hf1, Hb.out⟩
theorem DrawFaultsBest_c (v : Value) (n : Nat) (w : World) (h : RB w v n) : Calls Try.prog 19 #[v] w (DrewIn 26 w) := by
  have Hc := Lib.hid (DrawFaultsFirst_c v n w h)
  obtain ⟨a, cap, rfl, _⟩ := h
  go_enter Try.func19, Try.ntmps19
  go_wp2_with fail
  refine Hc.out.mono ?_; rintro e w1 ⟨u, xs, f, rfl, hri, hxl, hco, hf0, hf1, hb⟩
  have Hri := Lib.hid hri; have Hco := Lib.hid hco; have Hb := Lib.hid hb; clear hri hco hb
  go_wp2_with fail
  go_ret2
  exact ⟨u, xs, f, rfl, Hri.out, hxl, Hco.out, hf0, hf1, Hb.out⟩
end Go.Proofs.Ytdmjpikkgfedmaa
