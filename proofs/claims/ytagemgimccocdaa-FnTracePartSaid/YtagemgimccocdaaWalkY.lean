/- Contracts: draws of traces, of numbers of frames. -/
import Derived.Test.YtagemgimccocdaaWalkX
namespace Go.Proofs.Ytagemgimccocdaa
open Go.RowKit

theorem DrawTraceValid_c (v : Value) (n : Nat) (w : World) (h : RB w v n) : Calls Try.prog 9 #[v] w (DrewC 26 w) := by
  have Ho := Lib.hid (l6Open_c v n w h)
  obtain ⟨a, cap, rfl, _⟩ := h
  go_enter Try.func9, Try.ntmps9
  go_wp2_with fail
  refine Ho.out.mono ?_; rintro e w1 ⟨rb, rfl, hrb, hr, hb⟩
  have Hb := Lib.hid hb; clear hb
  go_wp2_with fail
  refine (l93Trace_c rb 0 _ hr (by omega)).mono ?_; rintro e w2 ⟨u, xs, q, rfl, hri, hxl, _, hco, _, _, hg⟩
  have Hi := Lib.hid hri; have Hco := Lib.hid hco; clear hco; have Hl := Lib.hid hxl; have Hg := Lib.hid (Hb.out.trans (grownBy_below hg hrb Hb.out.size)); clear hri hxl hg
  go_wp2_with fail
  go_ret
  exact ⟨_, _, rfl, Hi.out, Hl.out, Hco.out, Hg.out⟩
theorem DrawTraceSpans_c (v : Value) (n : Nat) (w : World) (h : RB w v n) : Calls Try.prog 22 #[v] w (DrewC 26 w) := by
  have Ho := Lib.hid (l6Open_c v n w h)
  obtain ⟨a, cap, rfl, _⟩ := h
  go_enter Try.func22, Try.ntmps22
  go_wp2_with fail
  refine Ho.out.mono ?_; rintro e w1 ⟨rb, rfl, hrb, hr, hb⟩
  have Hb := Lib.hid hb; clear hb
  go_wp2_with fail
  refine (l93Trace_c rb 0 _ hr (by omega)).mono ?_; rintro e w2 ⟨u, xs, q, rfl, hri, hxl, _, hco, _, _, hg⟩
  have Hi := Lib.hid hri; have Hco := Lib.hid hco; clear hco; have Hl := Lib.hid hxl; have Hg := Lib.hid (Hb.out.trans (grownBy_below hg hrb Hb.out.size)); clear hri hxl hg
  go_wp2_with fail
  go_ret
  exact ⟨_, _, rfl, Hi.out, Hl.out, Hco.out, Hg.out⟩

/-- A call of a draw of numbers and of one number. -/
def DrewIn (m : Nat) (w : World) (e : Ending) (w' : World) : Prop := ∃ u xs f, e = .returned (.tuple #[u, .int .i64 f]) ∧ RI w' u xs ∧ xs.length ≤ m ∧ CapOk u ∧ 0 ≤ f ∧ f ≤ 13 ∧ Below w.heap.size w w'
end Go.Proofs.Ytagemgimccocdaa
