/- Laws at a step of a region that draws its order: append to a row of the call's own. -/
import Derived.Test.YtdmjpikkgfedmaaBase
import Derived.Maps.AppendAt
import Derived.Deep.RegionHeld3
import Derived.Deep.AppendLies
namespace Go.Proofs.Ytdmjpikkgfedmaa
open Go.RowKit

theorem wp_appR {o : Oper} {a : Act} {K : Act → World → Prop} {Q : Exit → Act → World → Prop} {w : World} (s x : Operand)
    (ho : o.op = .call { callee := .builtin .append, args := #[s, x], argTypes := #[23, 23] })
    (base : Nat) (v : Value) (xs : List Int) (hs : a.eval s = v) (hown : OI w base v xs) (u : Value) (ys : List Int) (hx : a.eval x = u) (hr : RI w u ys)
    (hlen : xs.length + ys.length ≤ 1099511627776) (hbase : base ≤ w.heap.size)
    (h : ∀ v' w', OI w' base v' (xs ++ ys) → w.grownBy w' v.ownBlock → (v'.ownBlock = v.ownBlock ∨ v'.ownBlock = some w.heap.size) → K (a.put o.dst v') w') : o.wp Try.prog a w K Q := by
  obtain ⟨ad, cap, rfl⟩ := hr.val
  obtain ⟨i0, hi, hz0, hz1, hz2⟩ := info_parts info3
  cases ad with
  | some ad =>
    obtain ⟨v', w', hrun, h2, h3, _, h5⟩ := run_append_own_at (P := Try.prog) (w := w) base 23 o.type 3 i0 (.int .i64 0) 1 8 u22 hi hz0 hz1 hz2 rfl (by decide) v xs.length (ints xs) hown.1 ad ys.length cap (ints ys) (by simp [ints]) hr.src (ints_oneCell .i64 ys) (by unfold maxLen; omega) (by omega) hbase
    unfold Oper.wp execOp
    simp only [ho, resolve, invoke, builtin, Sem.run_bind, Sem.run_pure, Result.andThen_ok, List.map_toArray, List.map_cons, List.map_nil, hs, hx, hrun]
    exact h v' w' (OI.of_row h2 (by simp [ints]) (by simp) (by simpa using hlen)) h3 h5
  | none =>
    obtain ⟨rfl, _, rfl⟩ := hr.nil_of
    have hrun := run_append_owned_none (P := Try.prog) w base 23 o.type 3 i0 1 u22 hi v xs.length (ints xs) hown.1
    unfold Oper.wp
    simp [execOp, ho, resolve, invoke, builtin, hs, hx, hrun, Result.andThen]
    exact h v w (by simpa using hown) (World.grownBy.refl _ _) (.inl rfl)

theorem step_appR {ops : Array Oper} {o : Oper} {a : Act} {K : Act → World → Prop} {Q : Exit → Act → World → Prop} {E : Prop} {w : World} (hgd : o.guard = none) (s x : Operand)
    (ho : o.op = .call { callee := .builtin .append, args := #[s, x], argTypes := #[23, 23] })
    (base : Nat) (v : Value) (xs : List Int) (hs : a.eval s = v) (hown : OI w base v xs) (u : Value) (ys : List Int) (hx : a.eval x = u) (hr : RI w u ys)
    (hlen : xs.length + ys.length ≤ 1099511627776) (hbase : base ≤ w.heap.size)
    (h : ∀ v' w', OI w' base v' (xs ++ ys) → w.grownBy w' v.ownBlock → (v'.ownBlock = v.ownBlock ∨ v'.ownBlock = some w.heap.size) → K (a.put o.dst v') w') :
    if Region.wanted o (yielded ops a.tmps) = true then Oper.wp Try.prog o a w K Q else E := by
  have hw : Region.wanted o (yielded ops a.tmps) = true := by simp [Region.wanted, hgd]
  rw [if_pos hw]
  exact wp_appR s x ho base v xs hs hown u ys hx hr hlen hbase h
end Go.Proofs.Ytdmjpikkgfedmaa
