/- Contract: the program's spans: a set of the call's own. -/
import Derived.Test.YtdmjpikkgfedmaaWalkV
import Derived.Maps.OwnSet
namespace Go.Proofs.Ytdmjpikkgfedmaa
open Go.RowKit Go.Maps Go.WideMaps

def keysL (ys : List Int) : List Lit := ys.map (fun y => .int .i64 y)
def addI (seen : List Int) (x : Int) : List Int := if x ∈ seen then seen else seen ++ [x]
def metD (ys : List Int) : DataW Unit := setOf (.lit (.bool true)) (keysL ys)
theorem metD_snoc (ys : List Int) (x : Int) : metD (ys ++ [x]) = (metD ys).put (.int .i64 x) (.lit (.bool true)) := by
  unfold metD keysL
  rw [List.map_append, List.map_singleton, setOf_snoc]
theorem addKey_I (seen : List Int) (x : Int) : addKey (keysL seen) (.int .i64 x) = keysL (addI seen x) := by
  unfold addKey addI keysL
  by_cases h : x ∈ seen
  · rw [if_pos h, if_pos]
    simp only [List.any_map, List.any_eq_true, Function.comp]
    exact ⟨x, h, by simp [Lit.sameKey]⟩
  · rw [if_neg h, if_neg]
    · simp
    · simp only [List.any_map, List.any_eq_true, Function.comp]
      rintro ⟨y, hy, e⟩
      simp [Lit.sameKey] at e
      exact h (e ▸ hy)
theorem foldKey_I : ∀ (ys seen : List Int), (keysL ys).foldl addKey (keysL seen) = keysL (ys.foldl addI seen)
  | [], _ => rfl
  | y :: r, seen => by
    show (keysL r).foldl addKey (addKey (keysL seen) (.int .i64 y)) = _
    rw [addKey_I, foldKey_I r]
    rfl
theorem metD_size (ys : List Int) : Maps.size (metD ys) = (ys.foldl addI []).length := by
  have h := size_setOf (H := Unit) (.lit (.bool true)) (keysL ys) (by simp [keysL, WideAt.IsKeyLit])
  have e := foldKey_I ys []
  simp only [keysL, List.map_nil] at e
  rw [metD, h]
  simp only [keysL]
  rw [e, List.length_map]
theorem law3 : Keyed Try.prog 3 := int_keyed Try.underlying3

theorem implTraceOk_c (xs : List Int) (v : Value) (w : World) (h : RI w v xs) : Calls Try.prog 34 #[v] w fun e w' => e = .returned (.bool (traceOk xs)) ∧ Below w.heap.size w w' := implTraceValid_c xs v w h

set_option maxHeartbeats 2000000 in
set_option maxRecDepth 100000 in
theorem implTraceSpans_c (xs : List Int) (v : Value) (w : World) (h : RI w v xs) : Calls Try.prog 18 #[v] w (MadeI w (spansL xs)) := by
  obtain ⟨a, cap, rfl⟩ := h.val
  have hl := h.1
  have H := Lib.hid h; clear h
  cases ht : traceOk xs
  · have hr : spansL xs = [] := by simp [spansL, ht]
    rw [hr]
    have Ht := Lib.hid ht; clear ht hr
    go_enter Try.func18, Try.ntmps18
    go_wp2_with fail
    refine (implTraceOk_c xs _ _ H.out).mono ?_; rintro e w1 ⟨rfl, hb⟩; rw [Ht.out]
    go_wp2_with fail
    go_ret
    exact ⟨_, rfl, OI.nil _ _, hb⟩
  · have hr : spansL xs = (List.range xs.length).map (spanAt xs) := by simp [spansL, ht, spans]
    rw [hr]
    have hwf : Hid (∀ i (hi : i < xs.length), (Lit.int .i64 xs[i]).wf = true) := fun i hi => by
      simp only [traceOk, Bool.and_eq_true, List.all_eq_true] at ht
      have := inR_true.1 (ht.1 _ (List.getElem_mem hi))
      have e1 : IntKind.i64.min = -9223372036854775808 := by decide
      have e2 : IntKind.i64.max = 9223372036854775807 := by decide
      simp [Lit.wf, e1, e2]; omega
    have hle : xs.length ≤ 24 := by simp only [traceOk, Bool.and_eq_true, decide_eq_true_eq] at ht; exact ht.2
    have Ht := Lib.hid ht; clear ht hr
    have hmm := @run_makeMap Try.prog
    go_enter Try.func18, Try.ntmps18
    go_wp2_with fail
    refine (implTraceOk_c xs _ _ H.out).mono ?_; rintro e w1 ⟨rfl, hb0⟩; rw [Ht.out]
    have Hb0 := Lib.hid hb0; clear hb0
    go_wp2_with fail
    go_loopw [3, 14] (fun out i wr => ∃ k : Nat, i = .int .i64 k ∧ k ≤ xs.length ∧ Hid (OI wr w.heap.size out ((List.range k).map (spanAt xs))) ∧ Hid (Below w.heap.size w wr)) (fun _ i _ => xs.length - (intOf i).toNat)
    case atStart => exact ⟨0, rfl, Nat.zero_le _, OI.nil _ _, Hb0.out⟩
    case round =>
      obtain ⟨k, rfl, hk, ho, hb⟩ := hrel
      rename World => wo
      by_cases hlt : k < xs.length
      · have hlI : (k : Int) < (xs.length : Int) := by omega
        have hlen := Lib.hid (show ((List.range k).map (spanAt xs)).length + 1 ≤ 1099511627776 by simp; omega)
        have Hst := Lib.hid (spans_take xs k hlt)
        obtain ⟨b0, off0, cp, e, _, hc⟩ := (H.out.below hb.out).at hlt
        simp only [Value.slice.injEq] at e
        obtain ⟨rfl, _, rfl⟩ := e
        have hcells : Hid (∀ wz, Below w.heap.size w wz → ∀ i (hi : i < xs.length), wz.cell? ⟨b0, off0 + i, none⟩ = some (.int .i64 xs[i])) := fun wz hz i hi => by
          obtain ⟨b, off, cp2, e, _, hc⟩ := (H.out.below hz).at hi
          simp only [Value.slice.injEq, Option.some.injEq, Addr.mk.injEq] at e
          obtain ⟨⟨rfl, rfl, _⟩, _, _⟩ := e
          exact hc
        have hsp : spanAt xs k = Xp.spanGo xs[k] (xs.take k).reverse [] := by rw [spanAt, List.getElem?_eq_getElem hlt]; rfl
        obtain ⟨p, hp⟩ : ∃ p, xs[k] = p := ⟨_, rfl⟩
        rw [hp] at hc hsp
        have Hp := Lib.hid hp; have Hsp := Lib.hid hsp; clear hp hsp
        go_wp2_with fail
        go_loopw [6] (fun i wi => ∃ (m : Nat) (ys : List Int), i = .int .i64 ((m : Int) - 1) ∧ m ≤ k ∧ Hid (ys.length + m = k) ∧ Hid (Xp.spanGo p (xs.take k).reverse [] = Xp.spanGo p (xs.take m).reverse (ys.foldl addI [])) ∧ Hid (wi.ownsMap Try.prog 3 (plainElem (H := Unit) Try.prog 4) wo.heap.size ys.length (metD ys)) ∧ Hid (Below wo.heap.size wo wi)) (fun i _ => (intOf i + 1).toNat)
        case atStart => exact ⟨k, [], rfl, Nat.le_refl _, by show _ = _; simp, rfl, World.ownsMap_made _ _ _ _, (Below.refl _ _).alloc (Nat.le_refl _) _⟩
        case round =>
          obtain ⟨m, ys, rfl, hm, hym, hex, hmet, hbi⟩ := hrel
          have Hb := Lib.hid (hb.out.trans (hbi.out.mono hb.out.size))
          have Ho := Lib.hid (ho.out.below hbi.out)
          have hsz := Lib.hid Hb.out.size
          cases m with
          | zero =>
            have e0 : (((0 : Nat) : Int) - 1) = -1 := by omega
            rw [e0]
            clear e0
            have Hs2 : Hid (spanAt xs k = -1) := by rw [Hid, Hsp.out, hex.out]; rfl
            rw [Hs2.out] at Hst
            clear hex Hsp Hs2
            go_wp2_with (first | (at_len; refine wpList_len_own _ rfl _ 39 rfl 3 4 Try.underlying39 (plainElem (H := Unit) Try.prog 4) wo.heap.size ys.length (metD ys) rfl hmet.out ?_) | (at_builtin; refine wpList_app rfl _ _ rfl w.heap.size _ ((List.range k).map (spanAt xs)) rfl (Ho.out.alloc _) _ 1 1 [-1] rfl rfl (cell_one_new _ _ _) hlen.out (by simp; exact Nat.le_succ_of_le hsz.out) ?_; intro v' w3 ho3 hg3; rw [← Hst.out] at ho3; have Ho3 := Lib.hid ho3; have Hg3 := Lib.hid hg3; clear ho3 hg3) | go_in)
            go_roundw
            case rel => exact ⟨k + 1, by go_num, by omega, Ho3.out, Below.app (Hb.out.alloc hsz.out _) (Ho.out.alloc _) Hg3.out (Nat.le_refl _) (by simp; exact Nat.le_succ_of_le hsz.out)⟩
            case measure => simp [intOf]; omega
          | succ m =>
            have e1 : (((m + 1 : Nat) : Int) - 1) = (m : Int) := by omega
            rw [e1]
            clear e1
            have hmx : m < xs.length := by omega
            have hmI : (m : Int) < (xs.length : Int) := by omega
            have hc1 := hcells.out _ Hb.out m hmx
            have hw1 := hwf.out m hmx
            have hex2 := hex.out
            rw [List.take_succ_eq_append_getElem hmx, List.reverse_append] at hex2
            have Hex : Hid (Xp.spanGo p (xs.take k).reverse [] = Xp.spanGo p (xs[m] :: (xs.take m).reverse) (ys.foldl addI [])) := hex2
            clear hex hex2
            generalize xs[m] = x at hc1 Hex hw1
            have Hw1 := Lib.hid hw1; clear hw1
            by_cases hx : x = p
            · subst hx
              have Hs2 : Hid (spanAt xs k = (Maps.size (metD ys) : Nat)) := by rw [Hid, Hsp.out, Hex.out, Xp.spanGo, if_pos rfl, metD_size]
              rw [Hs2.out] at Hst
              clear Hex Hsp Hs2
              have hym2 : Hid (ys.length + (m + 1) = k) := hym
              have hszi : (0 : Int) ≤ (Maps.size (metD ys) : Nat) := by omega
              have hszj : Maps.size (metD ys) ≤ 24 := by have := hmet.out.size_le; have := hym.out; omega
              go_wp2_with (first | (at_len; refine wpList_len_own _ rfl _ 39 rfl 3 4 Try.underlying39 (plainElem (H := Unit) Try.prog 4) wo.heap.size ys.length (metD ys) rfl hmet.out ?_) | (at_builtin; refine wpList_app rfl _ _ rfl w.heap.size _ ((List.range k).map (spanAt xs)) rfl (Ho.out.alloc _) _ 1 1 [((Maps.size (metD ys) : Nat) : Int)] rfl rfl (cell_one_new _ _ _) hlen.out (by simp; exact Nat.le_succ_of_le hsz.out) ?_; intro v' w3 ho3 hg3; rw [← Hst.out] at ho3; have Ho3 := Lib.hid ho3; have Hg3 := Lib.hid hg3; clear ho3 hg3) | go_in)
              go_roundw
              case rel => exact ⟨k + 1, by go_num, by omega, Ho3.out, Below.app (Hb.out.alloc hsz.out _) (Ho.out.alloc _) Hg3.out (Nat.le_refl _) (by simp; exact Nat.le_succ_of_le hsz.out)⟩
              case measure => simp [intOf]; omega
            · have hxb : (x == p) = false := by simpa using hx
              have Hex2 : Hid (Xp.spanGo p (xs.take k).reverse [] = Xp.spanGo p (xs.take m).reverse ((ys ++ [x]).foldl addI [])) := by rw [Hid, Hex.out, Xp.spanGo, if_neg hx, List.foldl_append]; rfl
              clear Hex hx
              have hyl : Hid (ys.length < maxLen) := by have := hym.out; show _ < _; unfold maxLen; omega
              go_wp2_with (first | (at_mapUpdate; refine wpList_mapUpdate_own _ rfl _ _ _ 39 rfl 3 4 law3 Try.underlying39 (plainElem (H := Unit) Try.prog 4) wo.heap.size ys.length (metD ys) rfl hmet.out hyl.out _ _ (.int .i64 x) rfl rfl (keyOf_int_mk Try.underlying3 Hw1.out) (.lit (.bool true)) [] (plainElem_bool Try.underlying4 true) ?_; intro w1 hown1 hgrow1; rw [← metD_snoc] at hown1; have Hown1 := Lib.hid hown1; have Hgrow1 := Lib.hid hgrow1; clear hown1 hgrow1) | go_in)
              go_roundw
              case rel => exact ⟨m, ys ++ [x], by go_num, by omega, by have := hym.out; show _ = _; simp; omega, Hex2.out, by simpa [Hid] using Hown1.out, hbi.out.grown Hgrow1.out hbi.out.size (fun j hj => by cases hj; exact Nat.le_refl _)⟩
              case measure => simp [intOf]
      · have hke : k = xs.length := by omega
        subst hke
        go_wp2_with fail
        go_ret
        exact ⟨_, rfl, ho.out, hb.out⟩
end Go.Proofs.Ytdmjpikkgfedmaa
