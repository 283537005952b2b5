/- Contracts: the impl's side: cached. -/
import Derived.Test.YtfnpjdgjceiklaaGreatDoorKI2
namespace Go.Proofs.YtfnpjdgjceiklaaGreatDoor
open Go.RowKit

set_option maxHeartbeats 1000000 in
theorem cached1_c (x : Kx.Cached) (e p : Int) (b1 b2 : Nat) (w : World) (h1 : w.cell? ⟨b1, 0, none⟩ = some (.int .i64 e)) (h2 : w.cell? ⟨b2, 0, none⟩ = some (.int .i64 p)) (g1 : b1 < w.heap.size) (g2 : b2 < w.heap.size) :
    Calls Tryz.prog 197 #[cachedV x, .pointer (some ⟨b1, 0, none⟩), .pointer (some ⟨b2, 0, none⟩)] w fun en w' => en = .returned (.bool (x.env == e && x.page == p)) ∧ Below w.heap.size w w' := by
  obtain ⟨w0, hw0⟩ : ∃ w0, w.alloc (.cells #[.int .i64 x.env, .int .i64 x.page, .int .i64 x.frame, .bool x.write] 123) = w0 := ⟨_, rfl⟩
  have B0 := Lib.hid (show Below w.heap.size w w0 from hw0 ▸ (Below.refl w.heap.size w).alloc (Nat.le_refl _) _)
  obtain ⟨c0, c1, c2, c3, _⟩ := (show Box4 w0 w.heap.size (.int .i64 x.env) (.int .i64 x.page) (.int .i64 x.frame) (.bool x.write) from hw0 ▸ Box4.new w _ _ _ _ _)
  have k1 : w0.cell? ⟨b1, 0, none⟩ = some (.int .i64 e) := (B0.out.cell (p := ⟨b1, 0, none⟩) g1).trans h1
  have k2 : w0.cell? ⟨b2, 0, none⟩ = some (.int .i64 p) := (B0.out.cell (p := ⟨b2, 0, none⟩) g2).trans h2
  clear h1 h2 g1 g2
  have HV := Lib.hid (show (x.env == e && x.page == p) = ((x.env == e) && (x.page == p)) from rfl)
  unfold cachedV
  cases he : x.env == e with
  | false =>
    go_enter Tryz.func197, Tryz.ntmps197
    go_wp2_with fail
    go_ret
    exact ⟨by rfl, B0.out⟩
  | true =>
    go_enter Tryz.func197, Tryz.ntmps197
    go_wp2_with fail
    go_ret
    exact ⟨by rfl, B0.out⟩
theorem first_cfI {c : List Kx.Cached} {e p r : Int} (h : FirstAt c.length (fun k => (c.getD k Kx.Cached.zero).env == e && (c.getD k Kx.Cached.zero).page == p) r) : r = cfI c e p := by
  rcases h with ⟨k, hk, hp, hn, rfl⟩ | ⟨hn, rfl⟩
  · unfold cfI
    rw [cfI_hit hk (by simpa using hp) (fun j hj h => by have h9 : ((c.getD j Kx.Cached.zero).env == e && (c.getD j Kx.Cached.zero).page == p) = false := hn j hj; rw [h.1, h.2] at h9; simp at h9)]
  · unfold cfI
    rw [cfI_none (fun j hj h => by have h9 : ((c.getD j Kx.Cached.zero).env == e && (c.getD j Kx.Cached.zero).page == p) = false := hn j hj; rw [h.1, h.2] at h9; simp at h9)]
set_option maxHeartbeats 1000000 in
theorem cached_c (c : List Kx.Cached) (e p : Int) (v : Value) (w : World) (h : RCached w v c) :
    Calls Tryz.prog 151 #[v, .int .i64 e, .int .i64 p] w fun en w' => en = .returned (.int .i64 (cfI c e p)) ∧ Below w.heap.size w w' := by
  obtain ⟨w1, hw1⟩ : ∃ w1, w.alloc (.cells #[.int .i64 e] 3) = w1 := ⟨_, rfl⟩
  have B1 := Lib.hid (show Below w.heap.size w w1 from hw1 ▸ Below.lit (Below.refl _ _) _)
  have hc1 : w1.cell? ⟨w.heap.size, 0, none⟩ = some (.int .i64 e) ∧ w.heap.size < w1.heap.size := by
    subst hw1
    have h : (w.alloc (.cells #[.int .i64 e] 3)).heap[w.heap.size]? = some (.cells #[.int .i64 e] 3 (0, 0)) := heap_alloc_new w _
    exact ⟨cell_of_row _ _ 0 _ _ _ h, by simp⟩
  obtain ⟨w2, hw2⟩ : ∃ w2, w1.alloc (.cells #[.int .i64 p] 3) = w2 := ⟨_, rfl⟩
  have B2 := Lib.hid (show Below w1.heap.size w1 w2 from hw2 ▸ Below.lit (Below.refl _ _) _)
  have hc2 : w2.cell? ⟨w1.heap.size, 0, none⟩ = some (.int .i64 p) ∧ w1.heap.size < w2.heap.size := by
    subst hw2
    have h : (w1.alloc (.cells #[.int .i64 p] 3)).heap[w1.heap.size]? = some (.cells #[.int .i64 p] 3 (0, 0)) := heap_alloc_new w1 _
    exact ⟨cell_of_row _ _ 0 _ _ _ h, by simp⟩
  have hc3 : w2.cell? ⟨w.heap.size, 0, none⟩ = some (.int .i64 e) := (B2.out.cell (p := ⟨w.heap.size, 0, none⟩) hc1.2).trans hc1.1
  have B12 := Lib.hid (B1.out.trans (B2.out.mono B1.out.size))
  have hs1 : w.heap.size < w2.heap.size := Nat.lt_of_lt_of_le hc1.2 B2.out.size
  have HC := Lib.hid (IndexCached_c 197 #[.pointer (some ⟨w.heap.size, 0, none⟩), .pointer (some ⟨w1.heap.size, 0, none⟩)] (fun k => (c.getD k Kx.Cached.zero).env == e && (c.getD k Kx.Cached.zero).page == p) c v w2 (RS.below h B12.out)
    ⟨Proofs.enters_of Tryz.func197 (by kernel_rfl) rfl, fun k W hk hb => cached1_c _ e p _ _ W ((hb.cell (p := ⟨w.heap.size, 0, none⟩) hs1).trans hc3) ((hb.cell (p := ⟨w1.heap.size, 0, none⟩) hc2.2).trans hc2.1) (Nat.lt_of_lt_of_le hs1 hb.size) (Nat.lt_of_lt_of_le hc2.2 hb.size)⟩)
  obtain ⟨a, cap, rfl, _, _⟩ := RS.val h
  clear hc1 hc2 hc3 hs1 h
  go_enter Tryz.func151, Tryz.ntmps151
  go_wp2_with (go_at_call 196; refine HC.out.mono ?_; rintro en w' ⟨r, rfl, hf, hb'⟩; have Hb' := Lib.hid hb'; have Hf := Lib.hid (first_cfI hf); clear hb' hf)
  go_ret
  exact ⟨ret_int Hf.out, B12.out.trans (Hb'.out.mono B12.out.size)⟩
end Go.Proofs.YtfnpjdgjceiklaaGreatDoor
