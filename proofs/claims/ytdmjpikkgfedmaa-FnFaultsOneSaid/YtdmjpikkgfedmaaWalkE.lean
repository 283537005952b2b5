/- Contracts: the reader of a code, and what is drawn from it. -/
import Derived.Test.YtdmjpikkgfedmaaWalkA
namespace Go.Proofs.Ytdmjpikkgfedmaa
open Go.RowKit

/-- A slice of bytes: its length, and that each byte can be read. -/
def RB (w : World) (v : Value) (n : Nat) : Prop :=
  ∃ a cap, v = .slice a n cap ∧ n ≤ cap ∧ cap ≤ maxLen ∧ (n = 0 ∨ ∃ b off, a = some ⟨b, off, none⟩ ∧ b < w.heap.size ∧ ∀ i, i < n → ∃ x : Nat, x ≤ 255 ∧ w.cell? ⟨b, off + i, none⟩ = some (.int .u8 x))

/-- The reader lies in block rb, at place p; its bytes lie below. -/
def RD (w : World) (rb : Nat) (p : Nat) : Prop :=
  ∃ v n, w.heap[rb]? = some (.cells #[v, .int .i64 p] 42 (0, 0)) ∧ n ≤ 2000 ∧ ∃ a cap, v = .slice a n cap ∧
    (n = 0 ∨ ∃ b off, a = some ⟨b, off, none⟩ ∧ b < rb ∧ ∀ i, i < n → ∃ x : Nat, x ≤ 255 ∧ w.cell? ⟨b, off + i, none⟩ = some (.int .u8 x))

/-- A number from lo to hi (not included) is handed back; the reader goes on. -/
def Picked (rb : Nat) (p : Nat) (n : Int) (w : World) (e : Ending) (w' : World) : Prop :=
  ∃ x : Int, e = .returned (.int .i64 x) ∧ 0 ≤ x ∧ x < n ∧ RD w' rb (p + 1) ∧ w.grownBy w' (some rb)

theorem xor_nonneg (x y : Int) (hx : 0 ≤ x) (hx2 : x < 4611686018427387904) (hy : 0 ≤ y) (hy2 : y < 4611686018427387904) : 0 ≤ bits .xor .i64 x y ∧ bits .xor .i64 x y < 4611686018427387904 := by
  obtain ⟨a, rfl⟩ := Int.eq_ofNat_of_zero_le hx
  obtain ⟨b, rfl⟩ := Int.eq_ofNat_of_zero_le hy
  have hab : a ^^^ b < 2 ^ 62 := Nat.xor_lt_two_pow (by omega) (by omega)
  have h1 : (BitVec.ofInt 64 (a : Int)).toNat = a := by
    rw [BitVec.ofInt_natCast, BitVec.toNat_ofNat]; exact Nat.mod_eq_of_lt (by omega)
  have h2 : (BitVec.ofInt 64 (b : Int)).toNat = b := by
    rw [BitVec.ofInt_natCast, BitVec.toNat_ofNat]; exact Nat.mod_eq_of_lt (by omega)
  have e : bits .xor .i64 (a : Int) (b : Int) = ((a ^^^ b : Nat) : Int) := by
    show IntKind.i64.wrap ((BitVec.ofInt 64 (a : Int) ^^^ BitVec.ofInt 64 (b : Int)).toNat : Int) = _
    rw [BitVec.toNat_xor, h1, h2]
    generalize a ^^^ b = c at hab
    simp [IntKind.wrap, IntKind.bits, IntKind.signed]
    omega
  rw [e]
  omega

theorem RD.step {w : World} {rb p : Nat} (h : RD w rb p) : RD (w.setCell ⟨rb, 1, none⟩ (.int .i64 ((p : Int) + 1))) rb (p + 1) ∧ w.grownBy (w.setCell ⟨rb, 1, none⟩ (.int .i64 ((p : Int) + 1))) (some rb) := by
  obtain ⟨v, n, hh, hn, a, cap, hv, hb⟩ := h
  have ho : ∀ k, k ≠ rb → (w.setCell ⟨rb, 1, none⟩ (.int .i64 ((p : Int) + 1))).heap[k]? = w.heap[k]? := fun k hk => Below.heap_setCell _ _ _ _ hk
  refine ⟨⟨v, n, ?_, hn, a, cap, hv, ?_⟩, ⟨rfl, rfl, rfl, by simp [World.setCell], fun k _ hk => ho k (fun e => hk (by rw [e]))⟩⟩
  · simp [World.setCell, Array.getElem?_modify, hh]
  · rcases hb with hb | ⟨b, off, ha, hlt, hc⟩
    · exact .inl hb
    · refine .inr ⟨b, off, ha, hlt, fun i hi => ?_⟩
      obtain ⟨x, hx, hcx⟩ := hc i hi
      exact ⟨x, hx, (World.cell?_of_block (ho b (by omega))).trans hcx⟩

theorem grownBy_drewN {a w : World} {r : Option Nat} (h : a.grownBy w r) (n : Nat) : a.grownBy (w.drewN n) r := ⟨h.os, h.tape, h.output, h.size, h.block⟩
theorem RD.keep {w w' : World} {rb p : Nat} (h : RD w rb p) (hb : Below w.heap.size w w') : RD w' rb p := by
  obtain ⟨v, n, hh, hn, a, cap, hv, hx⟩ := h
  have hlt : rb < w.heap.size := (Array.getElem?_eq_some_iff.1 hh).1
  refine ⟨v, n, (hb.block rb hlt).trans hh, hn, a, cap, hv, ?_⟩
  rcases hx with hx | ⟨b, off, ha, hl, hc⟩
  · exact .inl hx
  · refine .inr ⟨b, off, ha, hl, fun i hi => ?_⟩
    obtain ⟨x, h1, h2⟩ := hc i hi
    exact ⟨x, h1, (hb.cell (p := ⟨b, off + i, none⟩) (by show b < _; omega)).trans h2⟩
theorem RD.grown {w w' : World} {rb p : Nat} {r : Option Nat} (h : RD w rb p) (hg : w.grownBy w' r) (hr : ∀ k, r = some k → rb < k) : RD w' rb p := by
  obtain ⟨v, n, hh, hn, a, cap, hv, hx⟩ := h
  have hlt : rb < w.heap.size := (Array.getElem?_eq_some_iff.1 hh).1
  refine ⟨v, n, (hg.block rb hlt (fun e => by have := hr rb e.symm; omega)).trans hh, hn, a, cap, hv, ?_⟩
  rcases hx with hx | ⟨b, off, ha, hl, hc⟩
  · exact .inl hx
  · refine .inr ⟨b, off, ha, hl, fun i hi => ?_⟩
    obtain ⟨x, h1, h2⟩ := hc i hi
    exact ⟨x, h1, (World.cell?_of_block (hg.block b (by omega) (fun e => by have := hr b e.symm; omega))).trans h2⟩
theorem RD.lt {w : World} {rb p : Nat} (h : RD w rb p) : rb < w.heap.size := by
  obtain ⟨v, n, hh, _⟩ := h
  exact (Array.getElem?_eq_some_iff.1 hh).1
theorem RD.drewN {w : World} {rb p : Nat} (h : RD w rb p) (n : Nat) : RD (w.drewN n) rb p := h

set_option maxHeartbeats 2000000 in
theorem pick_c (rb p : Nat) (n : Int) (w : World) (h : RD w rb p) (hp : p ≤ 1000000) (hn : 1 ≤ n) (hn2 : n ≤ 1000000) :
    Calls Try.prog 24 #[.pointer (some ⟨rb, 0, none⟩), .int .i64 n] w (Picked rb p n w) := by
  have hst := Lib.hid h.step
  obtain ⟨v, bl, hh, hbl, a, cap, rfl, hb⟩ := h
  have c0 : w.cell? ⟨rb, 0, none⟩ = some (.slice a bl cap) := by simp [World.cell?, hh]
  have c1 : w.cell? ⟨rb, 1, none⟩ = some (.int .i64 p) := by simp [World.cell?, hh]
  have f1 : w.frozen? ⟨rb, 1, none⟩ = false := by simp [World.frozen?, hh]
  have hpI : (0 : Int) ≤ (p : Int) := by omega
  clear hh
  by_cases h0 : bl = 0
  · subst h0
    clear hb
    go_enter Try.func24, Try.ntmps24
    go_wp2_with fail
    go_ret
    exact ⟨0, rfl, by omega, by omega, hst.out.1, hst.out.2⟩
  · obtain ⟨b, off, rfl, hlt, hc⟩ := hb.resolve_left h0
    have hblI : ((bl : Int) == 0) = false := by simpa using h0
    have hb1 : 1 ≤ (bl : Int) := by omega
    have Hc := Lib.hid hc
    clear hc hb
    have hc' : ∀ i, i < bl → ∃ x : Nat, x ≤ 255 ∧ (w.setCell ⟨rb, 1, none⟩ (.int .i64 ((p : Int) + 1))).cell? ⟨b, off + i, none⟩ = some (.int .u8 x) := fun i hi => by
      obtain ⟨x, hx, hcx⟩ := Hc.out i hi
      exact ⟨x, hx, (World.cell?_of_block (Below.heap_setCell _ _ _ _ (by show b ≠ rb; omega))).trans hcx⟩
    have hne : b ≠ rb := by omega
    by_cases hpl : p < bl
    · obtain ⟨x, hx, hcx⟩ := Hc.out p hpl
      have hx0 : (0 : Int) ≤ (x : Int) := by omega
      have hx1 : (x : Int) ≤ 255 := by omega
      clear hc'
      go_enter Try.func24, Try.ntmps24
      go_wp2_with fail
      go_ret
      exact ⟨_, rfl, Int.emod_nonneg _ (by omega), Int.emod_lt_of_pos _ (by omega), hst.out.1, hst.out.2⟩
    · have hm1 : p % bl < bl := Nat.mod_lt _ (by omega)
      have hm2 : (p * 7 + 3) % bl < bl := Nat.mod_lt _ (by omega)
      obtain ⟨x, hx, hcx⟩ := Hc.out (p % bl) hm1
      obtain ⟨y, hy, hcy⟩ := Hc.out ((p * 7 + 3) % bl) hm2
      have hx0 : (0 : Int) ≤ (x : Int) := by omega
      have hx1 : (x : Int) ≤ 255 := by omega
      have hy0 : (0 : Int) ≤ (y : Int) := by omega
      have hy1 : (y : Int) ≤ 255 := by omega
      have hd0 : 0 ≤ (p : Int) / (bl : Int) := Int.ediv_nonneg hpI (by omega)
      have hd1 : (p : Int) / (bl : Int) ≤ 1000000 := Int.le_trans (Int.ediv_le_self _ hpI) (by omega)
      have hmI1 : (p : Int) % (bl : Int) < (bl : Int) := Int.emod_lt_of_pos _ (by omega)
      have hmI0 : 0 ≤ (p : Int) % (bl : Int) := Int.emod_nonneg _ (by omega)
      have hmJ1 : ((p : Int) * 7 + 3) % (bl : Int) < (bl : Int) := Int.emod_lt_of_pos _ (by omega)
      have hmJ0 : 0 ≤ ((p : Int) * 7 + 3) % (bl : Int) := Int.emod_nonneg _ (by omega)
      clear hc' 
      go_enter Try.func24, Try.ntmps24
      go_wp2_with fail
      go_quiet (fail)
      have hX : ∃ X : Int, X = (x : Int) * 131 + (y : Int) * 1117 + (p : Int) * 29 + (p : Int) / (bl : Int) * 53 := ⟨_, rfl⟩
      obtain ⟨X, hX⟩ := hX
      rw [← hX]
      have hX0 : 0 ≤ X := by omega
      have hX1 : X ≤ 100000000 := by omega
      have HX := Lib.hid hX
      clear hX
      have hz : 0 ≤ bits .xor .i64 X (X / 64) := (xor_nonneg X (X / 64) hX0 (by omega) (by omega) (by omega)).1
      go_wp2_with fail
      go_ret
      exact ⟨_, rfl, Int.emod_nonneg _ (by omega), Int.emod_lt_of_pos _ (by omega), hst.out.1.drewN _, grownBy_drewN hst.out.2 _⟩

end Go.Proofs.Ytdmjpikkgfedmaa
