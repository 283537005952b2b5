/- Contracts: what is drawn from a code: words of a page. -/
import Derived.Test.YtdmjpikkgfedmaaWalkE
namespace Go.Proofs.Ytdmjpikkgfedmaa
open Go.RowKit

theorem IsRow.rb {w : World} {a : Option Addr} {len cap : Nat} {zs : List Int} (h : IsRow .u8 w a len cap zs) : RB w (.slice a len cap) len := by
  rcases h with ⟨rfl, rfl, rfl, rfl⟩ | ⟨⟨b, off, spot⟩, rfl, hlc, hcm, hz, hc, hw⟩
  · exact ⟨_, _, rfl, Nat.le_refl _, by unfold maxLen; omega, .inl rfl⟩
  · refine ⟨_, _, rfl, hlc, hcm, ?_⟩
    by_cases h0 : len = 0
    · exact .inl h0
    · right
      have hs : spot = none := by simpa [Addr.add] using World.cell?_spot (hc 0 (by omega))
      subst hs
      have hb : b < w.heap.size := World.block_lt_of_cell? w _ (hc 0 (by omega))
      refine ⟨b, off, rfl, hb, fun i hi => ?_⟩
      have hi' : i < zs.length := by omega
      have h1 := hc i hi'
      rw [Addr.add_lit] at h1
      have h2 := hw (zs.getD i 0) (by simp [List.getD, List.getElem?_eq_getElem hi'])
      have h3 : 0 ≤ zs.getD i 0 ∧ zs.getD i 0 ≤ 255 := by
        generalize zs.getD i 0 = y at h2
        simpa [Lit.wf, IntKind.min, IntKind.max, IntKind.signed, IntKind.bits] using h2
      exact ⟨(zs.getD i 0).toNat, by omega, by rw [h1]; congr 2; omega⟩

theorem RB.below {w w' : World} {v : Value} {n : Nat} (h : RB w v n) (hb : Below w.heap.size w w') : RB w' v n := by
  obtain ⟨a, cap, hv, h1, h2, h3⟩ := h
  refine ⟨a, cap, hv, h1, h2, ?_⟩
  rcases h3 with h3 | ⟨b, off, ha, hl, hc⟩
  · exact .inl h3
  · refine .inr ⟨b, off, ha, Nat.lt_of_lt_of_le hl hb.size, fun i hi => ?_⟩
    obtain ⟨x, hx, hcx⟩ := hc i hi
    exact ⟨x, hx, (hb.cell (p := ⟨b, off + i, none⟩) hl).trans hcx⟩

/-- A reader is made. -/
def Opened (w : World) (e : Ending) (w' : World) : Prop := ∃ rb, e = .returned (.pointer (some ⟨rb, 0, none⟩)) ∧ w.heap.size ≤ rb ∧ RD w' rb 0 ∧ Below w.heap.size w w'

set_option maxHeartbeats 1000000 in
theorem l6Open_c (v : Value) (n : Nat) (w : World) (h : RB w v n) : Calls Try.prog 22 #[v] w (Opened w) := by
  obtain ⟨a, cap, rfl, hnc, hcm, hb⟩ := h
  have hm : cap ≤ 9223372036854775807 := by unfold maxLen at hcm; omega
  have hb' : ∀ m, m ≤ n → ∀ o, RD (w.alloc (.cells #[.slice a m cap, .int .i64 0] 42)) w.heap.size 0 ∨ ¬ (m ≤ 2000 ∧ o = 0) := by
    intro m hmn o
    by_cases h2 : m ≤ 2000 ∧ o = 0
    · left
      refine ⟨_, m, heap_alloc_new w _, h2.1, a, cap, rfl, ?_⟩
      rcases hb with h0 | ⟨b, off, ha, hlt, hc⟩
      · exact .inl (by omega)
      · refine .inr ⟨b, off, ha, hlt, fun i hi => ?_⟩
        obtain ⟨x, hx, hcx⟩ := hc i (by omega)
        exact ⟨x, hx, ((((Below.refl w.heap.size w).alloc (Nat.le_refl _) _).cell (p := ⟨b, off + i, none⟩) hlt)).trans hcx⟩
    · exact .inr h2
  have Hb := Lib.hid hb'
  clear hb hb' hcm
  by_cases h2 : n ≤ 2000
  · go_enter Try.func22, Try.ntmps22
    go_wp2_with fail
    go_ret
    exact ⟨_, rfl, Nat.le_refl _, (Hb.out n (Nat.le_refl _) 0).resolve_right (fun h => h ⟨h2, rfl⟩), (Below.refl _ _).alloc (Nat.le_refl _) _⟩
  · go_enter Try.func22, Try.ntmps22
    go_wp2_with fail
    go_ret
    exact ⟨_, rfl, Nat.le_refl _, (Hb.out 2000 (by omega) 0).resolve_right (fun h => h ⟨by omega, rfl⟩), (Below.refl _ _).alloc (Nat.le_refl _) _⟩

/-- Numbers are drawn. -/
def DrawnI (rb p m : Nat) (w : World) (e : Ending) (w' : World) : Prop :=
  ∃ u xs q, e = .returned u ∧ RI w' u xs ∧ xs.length ≤ m ∧ (∀ a n c, u = .slice (some a) n c → w.heap.size ≤ a.block) ∧ RD w' rb q ∧ q ≤ p + 1000 ∧ w.grownBy w' (some rb)

theorem OI.blk {w : World} {base : Nat} {v : Value} {xs : List Int} (h : OI w base v xs) : ∀ a n c, v = .slice (some a) n c → base ≤ a.block := by
  rintro a n c rfl
  exact (h.lt a.block rfl).1


/-- A call of a draw from a code: numbers come out; what there was is as it was. -/
def DrewI (m : Nat) (w : World) (e : Ending) (w' : World) : Prop := ∃ u xs, e = .returned u ∧ RI w' u xs ∧ xs.length ≤ m ∧ Below w.heap.size w w'

end Go.Proofs.Ytdmjpikkgfedmaa
