/- Contracts: the span of a use; the spans of a trace by the reference. -/
import Derived.Test.YtdmjpikkgfedmaaWalkT
namespace Go.Proofs.Ytdmjpikkgfedmaa
open Go.RowKit

theorem idx_neg {l : List Int} {p : Int} : idx l p < 0 ↔ p ∉ l := by
  unfold idx; split <;> simp_all <;> omega

/-- the span of the use at place k -/
def spanAt (xs : List Int) (k : Nat) : Int := Xp.spanGo (xs[k]?.getD 0) (xs.take k).reverse []
def spans (xs : List Int) : List Int := (List.range xs.length).map (spanAt xs)
def traceOk (xs : List Int) : Bool := xs.all (fun x => inR x 0 15) && decide (xs.length ≤ 24)
def spansL (xs : List Int) : List Int := if traceOk xs then spans xs else []

set_option maxHeartbeats 1000000 in
theorem l33Span_c (xs : List Int) (k : Nat) (hk : k < xs.length) (v : Value) (w : World) (h : RI w v xs) :
    Calls Try.prog 33 #[v, .int .i64 k] w fun e w' => e = .returned (.int .i64 (spanAt xs k)) ∧ Below w.heap.size w w' := by
  obtain ⟨a, cap, rfl⟩ := h.val
  have hl := h.1
  have hsp : spanAt xs k = Xp.spanGo xs[k] (xs.take k).reverse [] := by rw [spanAt, List.getElem?_eq_getElem hk]; rfl
  have hcp : Hid (∀ wz, Below w.heap.size w wz → ∀ i (hi : i < xs.length), ∃ b off, a = some ⟨b, off, none⟩ ∧ wz.cell? ⟨b, off + i, none⟩ = some (.int .i64 xs[i])) := fun wz hz i hi => by
    obtain ⟨b, off, cp, e, _, hc⟩ := (h.below hz).at hi
    simp only [Value.slice.injEq] at e
    exact ⟨b, off, e.1, hc⟩
  obtain ⟨b0, off0, rfl, _⟩ := hcp.out w (Below.refl _ _) k hk
  have hcells : Hid (∀ wz, Below w.heap.size w wz → ∀ i (hi : i < xs.length), wz.cell? ⟨b0, off0 + i, none⟩ = some (.int .i64 xs[i])) := fun wz hz i hi => by
    obtain ⟨b, off, e, hc⟩ := hcp.out wz hz i hi
    simp only [Option.some.injEq, Addr.mk.injEq] at e
    obtain ⟨rfl, rfl, _⟩ := e
    exact hc
  rw [hsp]
  obtain ⟨p, hp⟩ : ∃ p, xs[k] = p := ⟨_, rfl⟩
  rw [hp]
  have Hp := Lib.hid hp
  clear hp hsp hcp h
  go_enter Try.func33, Try.ntmps33
  go_wp2_with fail
  go_loopw [5, 6] (fun out i wr => ∃ (m : Nat) (seen : List Int), i = .int .i64 ((m : Int) - 1) ∧ m ≤ k ∧ Hid (seen.length + m ≤ k) ∧ Hid (Xp.spanGo p (xs.take k).reverse [] = Xp.spanGo p (xs.take m).reverse seen) ∧ Hid (OI wr w.heap.size out seen) ∧ Hid (Below w.heap.size w wr)) (fun _ i _ => (intOf i + 1).toNat)
  case atStart => exact ⟨k, [], rfl, Nat.le_refl _, by show _ ≤ _; simp, rfl, OI.lit0 (Nat.le_refl _), (Below.refl _ _).alloc (Nat.le_refl _) _⟩
  case round =>
    obtain ⟨m, seen, rfl, hm, hsl, hex, ho, hb⟩ := hrel
    cases m with
    | zero =>
      have e0 : (((0 : Nat) : Int) - 1) = -1 := by omega
      rw [e0]
      clear e0
      go_wp2_with fail
      go_ret
      exact ⟨ret_int (by rw [hex.out]; rfl), hb.out⟩
    | succ m =>
      have e1 : (((m + 1 : Nat) : Int) - 1) = (m : Int) := by omega
      rw [e1]
      clear e1
      have hmx : m < xs.length := by omega
      have hmI : (m : Int) < (xs.length : Int) := by omega
      have hkI : (k : Int) < (xs.length : Int) := by omega
      have hc1 := hcells.out _ hb.out m hmx
      have hc2 := hcells.out _ hb.out k hk
      rw [Hp.out] at hc2
      have hex2 := hex.out
      rw [List.take_succ_eq_append_getElem hmx, List.reverse_append] at hex2
      have Hex : Hid (Xp.spanGo p (xs.take k).reverse [] = Xp.spanGo p (xs[m] :: (xs.take m).reverse) seen) := hex2
      clear hex hex2
      generalize xs[m] = x at hc1 Hex
      obtain ⟨ao, co, rfl⟩ := ho.out.ri.val
      by_cases hx : x = p
      · subst hx
        have Hex2 : Hid (Xp.spanGo x (xs.take k).reverse [] = seen.length) := by rw [Hid, Hex.out, Xp.spanGo, if_pos rfl]
        clear Hex
        go_wp2_with fail
        go_quiet (fail)
        go_wp2_with fail
        go_ret
        exact ⟨ret_int Hex2.out.symm, below_drewN hb.out _⟩
      · have hxb : (x == p) = false := by simpa using hx
        have Hex2 : Hid (Xp.spanGo p (xs.take k).reverse [] = Xp.spanGo p (xs.take m).reverse (if x ∈ seen then seen else seen ++ [x])) := by rw [Hid, Hex.out, Xp.spanGo, if_neg hx]
        clear Hex hx
        have hirng := idx_rng seen x
        by_cases hs : x ∈ seen
        · have hneg : ¬ idx seen x < 0 := fun h => (idx_neg.1 h) hs
          have Hex3 : Hid (Xp.spanGo p (xs.take k).reverse [] = Xp.spanGo p (xs.take m).reverse seen) := by rw [Hid, Hex2.out, if_pos hs]
          clear Hex2
          have Hs := Lib.hid hs; clear hs
          obtain ⟨z, hz⟩ : ∃ z, idx seen x = z := ⟨_, rfl⟩
          rw [hz] at hneg hirng
          have Hz := Lib.hid hz; clear hz
          go_wp2_with fail
          go_quiet (fail)
          go_wp2_with fail
          refine (l33Find_c seen x _ _ (ho.out.drewN _).ri).mono ?_; rintro e _ ⟨rfl, rfl⟩; rw [Hz.out]
          go_wp2_with fail
          go_roundw
          case rel => exact ⟨m, seen, by go_num, by omega, by have := hsl.out; show _ ≤ _; omega, Hex3.out, ho.out.drewN _, below_drewN hb.out _⟩
          case measure => simp [intOf]
        · have hneg : idx seen x < 0 := idx_neg.2 hs
          have Hex3 : Hid (Xp.spanGo p (xs.take k).reverse [] = Xp.spanGo p (xs.take m).reverse (seen ++ [x])) := by rw [Hid, Hex2.out, if_neg hs]
          clear Hex2
          have Hs := Lib.hid hs; clear hs
          obtain ⟨z, hz⟩ : ∃ z, idx seen x = z := ⟨_, rfl⟩
          rw [hz] at hneg hirng
          have Hz := Lib.hid hz; clear hz
          have hsz := Lib.hid hb.out.size
          have hlen := Lib.hid (show seen.length + 1 ≤ 1099511627776 by have := hsl.out; omega)
          go_wp2_with fail
          go_quiet (fail)
          go_wp2_with fail
          refine (l33Find_c seen x _ _ (ho.out.drewN _).ri).mono ?_; rintro e _ ⟨rfl, rfl⟩; rw [Hz.out]
          go_wp2_with (at_builtin; refine wpList_app rfl _ _ rfl w.heap.size _ seen rfl ((ho.out.drewN _).alloc _) _ 1 1 [x] rfl rfl (cell_one_new _ _ _) hlen.out (by simp; exact Nat.le_succ_of_le hsz.out) ?_; intro v' w3 ho3 hg3; have Ho3 := Lib.hid ho3; have Hg3 := Lib.hid hg3; clear ho3 hg3)
          go_roundw
          case rel => exact ⟨m, seen ++ [x], by go_num, by omega, by have := hsl.out; show _ ≤ _; simp; omega, Hex3.out, Ho3.out, Below.app ((below_drewN hb.out _).alloc hsz.out _) ((ho.out.drewN _).alloc _) Hg3.out (Nat.le_refl _) (by simp; exact Nat.le_succ_of_le hsz.out)⟩
          case measure => simp [intOf]
end Go.Proofs.Ytdmjpikkgfedmaa
