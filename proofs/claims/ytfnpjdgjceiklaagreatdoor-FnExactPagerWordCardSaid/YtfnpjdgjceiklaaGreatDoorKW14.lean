/- Contracts: the pager's parts in the reference: swap, alone, count. -/
import Derived.Test.YtfnpjdgjceiklaaGreatDoorKW13
namespace Go.Proofs.YtfnpjdgjceiklaaGreatDoor
open Go.RowKit

structure RP (w : World) (vm vi ve vc vs vl vp : Value) (p : Kx.Pager) : Prop where
  k : RK w vm vi ve vc p.k
  s : RM w vs p.swap
  l : RI w vl p.low
  g : RPage w vp p.pages
theorem RP.below {w w' : World} {vm vi ve vc vs vl vp : Value} {p : Kx.Pager} (h : RP w vm vi ve vc vs vl vp p) (hb : Below w.heap.size w w') : RP w' vm vi ve vc vs vl vp p :=
  ⟨h.k.below hb, h.s.below hb, h.l.below hb, RS.below h.g hb⟩
/-- the value of a pager -/
def pagerV (vm vi ve vc vs vl vp : Value) (hand limit : Int) : Value := .agg #[vm, vi, ve, vc, vs, vl, vp, .int .i64 hand, .int .i64 limit]
/-- a box of a pager -/
def BoxP (w : World) (b : Nat) (vm vi ve vc vs vl vp : Value) (hand limit : Int) : Prop :=
  (w.cell? ⟨b, 0, none⟩ = some vm ∧ w.cell? ⟨b, 1, none⟩ = some vi ∧ w.cell? ⟨b, 2, none⟩ = some ve ∧ w.cell? ⟨b, 3, none⟩ = some vc) ∧
  (w.cell? ⟨b, 4, none⟩ = some vs ∧ w.cell? ⟨b, 5, none⟩ = some vl ∧ w.cell? ⟨b, 6, none⟩ = some vp ∧ w.cell? ⟨b, 7, none⟩ = some (.int .i64 hand) ∧ w.cell? ⟨b, 8, none⟩ = some (.int .i64 limit)) ∧ b < w.heap.size
theorem BoxP.new (w : World) (vm vi ve vc vs vl vp : Value) (hand limit : Int) (e : TypeId) : BoxP (w.alloc (.cells #[vm, vi, ve, vc, vs, vl, vp, .int .i64 hand, .int .i64 limit] e)) w.heap.size vm vi ve vc vs vl vp hand limit := by
  have h : (w.alloc (.cells #[vm, vi, ve, vc, vs, vl, vp, .int .i64 hand, .int .i64 limit] e)).heap[w.heap.size]? = some (.cells #[vm, vi, ve, vc, vs, vl, vp, .int .i64 hand, .int .i64 limit] e (0, 0)) := heap_alloc_new w _
  exact ⟨⟨cell_of_row _ _ 0 _ _ _ h, cell_of_row _ _ 1 _ _ _ h, cell_of_row _ _ 2 _ _ _ h, cell_of_row _ _ 3 _ _ _ h⟩, ⟨cell_of_row _ _ 4 _ _ _ h, cell_of_row _ _ 5 _ _ _ h, cell_of_row _ _ 6 _ _ _ h, cell_of_row _ _ 7 _ _ _ h, cell_of_row _ _ 8 _ _ _ h⟩, by simp⟩
theorem BoxP.below {w w' : World} {b : Nat} {vm vi ve vc vs vl vp : Value} {hand limit : Int} (h : BoxP w b vm vi ve vc vs vl vp hand limit) (hb : Below w.heap.size w w') : BoxP w' b vm vi ve vc vs vl vp hand limit :=
  have g {i : Nat} {v : Value} (hc : w.cell? ⟨b, i, none⟩ = some v) : w'.cell? ⟨b, i, none⟩ = some v := (hb.cell (p := ⟨b, i, none⟩) h.2.2).trans hc
  ⟨⟨g h.1.1, g h.1.2.1, g h.1.2.2.1, g h.1.2.2.2⟩, ⟨g h.2.1.1, g h.2.1.2.1, g h.2.1.2.2.1, g h.2.1.2.2.2.1, g h.2.1.2.2.2.2⟩, Nat.lt_of_lt_of_le h.2.2 hb.size⟩

/-- a place of the swap is free or holds the words of a frame -/
def sOk (s : List (List Int)) (j : Nat) : Bool := (Kx.row s j).isEmpty || Kx.wordsOk (Kx.row s j)
theorem sOk_all (s : List (List Int)) : Kx.swapOk s = ((List.range s.length).all (sOk s) && s.length == 16) := by
  unfold Kx.swapOk
  congr 1
  rw [Bool.eq_iff_iff, List.all_eq_true, List.all_eq_true]
  constructor
  · intro h i hi
    have hi : i < s.length := by simpa using hi
    have e : Kx.row s i = s[i] := by simp [Kx.row, hi]
    unfold sOk; rw [e]; exact h _ (List.getElem_mem hi)
  · intro h x hx
    obtain ⟨i, hi, rfl⟩ := List.getElem_of_mem hx
    have := h i (by simpa using hi)
    have e : Kx.row s i = s[i] := by simp [Kx.row, hi]
    unfold sOk at this; rwa [e] at this
set_option maxHeartbeats 1000000 in
theorem specSwapValid_c (s : List (List Int)) (v : Value) (w : World) (h : RM w v s) :
    Calls Tryz.prog 36 #[v] w fun e w' => e = .returned (.bool (Kx.swapOk s)) ∧ w = w' := by
  obtain ⟨hl, a, cap, rfl, _, _⟩ := h.len
  have H := Lib.hid h; clear h
  go_enter Tryz.func36, Tryz.ntmps36
  go_wp2_with fail
  go_loop [3] (fun i => ∃ k : Nat, i = .int .i64 k ∧ k ≤ s.length ∧ Hid (∀ j, j < k → sOk s j = true)) (fun i => s.length - (intOf i).toNat)
  case atStart => exact ⟨0, rfl, Nat.zero_le _, fun j hj => absurd hj (Nat.not_lt_zero _)⟩
  case round =>
    obtain ⟨k, rfl, hk, hall⟩ := hrel
    by_cases hlt : k < s.length
    · obtain ⟨b, off, cap', u, e, _, hc, hr⟩ := H.out.at hlt
      simp only [Value.slice.injEq] at e
      obtain ⟨rfl, _, rfl⟩ := e
      have HB := Lib.hid (show sOk s k = false → Kx.swapOk s = false from fun h => by
        rw [sOk_all, Bool.and_eq_false_iff, List.all_eq_false]
        exact .inl ⟨k, by simpa using hlt, by rw [h]; simp⟩)
      have HN := Lib.hid (show sOk s k = true → ∀ j, j < k + 1 → sOk s j = true from fun h => scan_step hall.out h)
      have Hok := Lib.hid (show sOk s k = ((Kx.row s k).isEmpty || Kx.wordsOk (Kx.row s k)) from rfl)
      have hlI : (k : Int) < (s.length : Int) := by omega
      obtain ⟨a2, cap2, rfl⟩ := hr.val
      have Hr := Lib.hid hr
      clear hr
      generalize Kx.row s k = ws at hc Hok Hr
      by_cases hem : 0 < ws.length
      · have hd : decide (0 < ws.length) = true := by simpa using hem
        have Hd := Lib.hid hd
        cases hq : Kx.wordsOk ws with
        | false =>
          have HF := Lib.hid (HB.out (by
            rw [Hok.out, hq]
            cases ws with
            | nil => simp at hem
            | cons => rfl))
          have Hq := Lib.hid ((wordsOk_eq ws).trans hq)
          clear hq HB HN Hok
          go_wp2_with (go_at_call 90; refine (l2Words_c _ _ _ Hr.out).mono ?_; rintro e w' ⟨rfl, rfl⟩; rw [Hq.out])
          go_ret
          exact ⟨ret_bool HF.out.symm, rfl⟩
        | true =>
          have HN2 := Lib.hid (HN.out (by rw [Hok.out, hq, Bool.or_true]))
          have Hq := Lib.hid ((wordsOk_eq ws).trans hq)
          clear hq HB HN Hok
          go_wp2_with (go_at_call 90; refine (l2Words_c _ _ _ Hr.out).mono ?_; rintro e w' ⟨rfl, rfl⟩; rw [Hq.out])
          go_round
          case rel => exact ⟨k + 1, by go_num, by omega, HN2.out⟩
          case measure => simp [intOf]; omega
      · have he : ws = [] := List.length_eq_zero_iff.1 (by omega)
        subst he
        have HN2 := Lib.hid (HN.out (by rw [Hok.out]; rfl))
        clear HB HN Hok hem
        go_wp2_with fail
        go_round
        case rel => exact ⟨k + 1, by go_num, by omega, HN2.out⟩
        case measure => simp [intOf]; omega
    · have HF := Lib.hid (show Kx.swapOk s = (s.length == 16) by
        rw [sOk_all, show (List.range s.length).all (sOk s) = true from by
          rw [List.all_eq_true]; exact fun j hj => hall.out j (by have : j < s.length := by simpa using hj
                                                                  omega), Bool.true_and])
      go_wp2_with fail
      go_ret
      exact ⟨ret_bool (by rw [HF.out]; exact Bool.eq_iff_iff.2 (by simp; omega)), rfl⟩

/-- the i-th environment has no right for a -/
def aOk (k : Kx.Kernel) (i : Nat) : Bool := !Kx.may (Kx.envAt k.envs i).rights Kx.sA
theorem alone_all {k : Kx.Kernel} (h : k.envs.length = 3) : Kx.alone k = (aOk k 1 && aOk k 2 && !aOk k 0) := by
  match hk : k.envs, h with
  | [a, b, c], _ => simp [Kx.alone, aOk, hk, Kx.envAt]
set_option maxHeartbeats 2000000 in
theorem l32Alone_c (k : Kx.Kernel) (vm vi ve vc : Value) (w : World) (h : RK w vm vi ve vc k) (hen : k.envs.length = 3) :
    Calls Tryz.prog 37 #[.agg #[vm, vi, ve, vc]] w fun e w' => e = .returned (.bool (Kx.alone k)) ∧ Below w.heap.size w w' := by
  obtain ⟨w0, hw0⟩ : ∃ w0, w.alloc (.cells #[vm, vi, ve, vc] 38) = w0 := ⟨_, rfl⟩
  have Hw0 := Lib.hid (show Below w.heap.size w w0 from hw0 ▸ (Below.refl w.heap.size w).alloc (Nat.le_refl _) _)
  have Hbx := Lib.hid (show Box4 w0 w.heap.size vm vi ve vc from hw0 ▸ Box4.new w vm vi ve vc _)
  have HK := Lib.hid (h.below Hw0.out)
  obtain ⟨_, ae, ce, rfl, _, _⟩ := h.e.len
  have Hen := Lib.hid hen
  have HA := Lib.hid (alone_all hen)
  obtain ⟨k0, k1, k2, k3, hbl⟩ := Hbx.out
  obtain ⟨b, off, cap, x0, ev, hb0, h1, _, r0⟩ := HK.out.e.at (k := 0) (by rw [hen]; omega)
  obtain ⟨b', off', cap', x1, ev1, hb1, h2, _, r1⟩ := HK.out.e.at (k := 1) (by rw [hen]; omega)
  obtain ⟨b'', off'', cap'', x2, ev2, hb2, h3, _, r2⟩ := HK.out.e.at (k := 2) (by rw [hen]; omega)
  simp only [Value.slice.injEq] at ev
  obtain ⟨rfl, _, rfl⟩ := ev
  simp only [Value.slice.injEq, Option.some.injEq, Addr.mk.injEq] at ev1 ev2
  obtain ⟨⟨rfl, rfl, _⟩, _, rfl⟩ := ev1
  obtain ⟨⟨rfl, rfl, _⟩, _, rfl⟩ := ev2
  have R0 := Lib.hid r0; have R1 := Lib.hid r1; have R2 := Lib.hid r2
  clear r0 r1 r2 hbl hb0 hb1 hb2 h hen
  rw [Hen.out] at k2 hw0 ⊢
  simp only [Nat.zero_mul, Nat.add_zero] at h1
  go_enter Tryz.func37, Tryz.ntmps37
  go_wp2_with fail
  clear hw0
  go_loop [3] (fun i => ∃ q : Nat, i = .int .i64 q ∧ 1 ≤ q ∧ q ≤ 3 ∧ Hid (∀ j, 1 ≤ j → j < q → aOk k j = true)) (fun i => 3 - (intOf i).toNat)
  case atStart => exact ⟨1, rfl, Nat.le_refl _, by omega, fun j h1 h2 => absurd h1 (by omega)⟩
  case round =>
    obtain ⟨q, rfl, hq1, hq3, hall⟩ := hrel
    by_cases hlt : q < 3
    · obtain ⟨u, hu, hr⟩ : ∃ u, w0.cell? ⟨b, off + q * 2, none⟩ = some u ∧ Hid (RStr w0 u (Kx.envAt k.envs q).rights) := by
        rcases (by omega : q = 1 ∨ q = 2) with rfl | rfl
        · exact ⟨x1, h2, R1⟩
        · exact ⟨x2, h3, R2⟩
      have hlI : (q : Int) < 3 := by omega
      cases ha : aOk k q with
      | false =>
        have HF := Lib.hid (show Kx.alone k = false by
          rw [HA.out]
          rcases (by omega : q = 1 ∨ q = 2) with rfl | rfl
          · rw [ha]; rfl
          · rw [ha]; simp)
        have Hm := Lib.hid (show Kx.may (Kx.envAt k.envs q).rights Kx.sA = true by unfold aOk at ha; simpa using ha)
        clear ha
        go_wp2_with (go_at_call 91; refine (l11May_c _ Kx.sA _ _ hr.out).mono ?_; rintro e w' ⟨rfl, rfl⟩; rw [Hm.out])
        go_ret
        exact ⟨ret_bool HF.out.symm, Hw0.out⟩
      | true =>
        have HN := Lib.hid (show ∀ j, 1 ≤ j → j < q + 1 → aOk k j = true from fun j hj1 hj => by
          by_cases e : j = q
          · subst e; exact ha
          · exact hall.out j hj1 (by omega))
        have Hm := Lib.hid (show Kx.may (Kx.envAt k.envs q).rights Kx.sA = false by unfold aOk at ha; simpa using ha)
        clear ha
        go_wp2_with (go_at_call 91; refine (l11May_c _ Kx.sA _ _ hr.out).mono ?_; rintro e w' ⟨rfl, rfl⟩; rw [Hm.out])
        go_round
        case rel => exact ⟨q + 1, by go_num, by omega, by omega, HN.out⟩
        case measure => simp [intOf]; omega
    · have e : q = 3 := by omega
      subst e
      have HF := Lib.hid (show Kx.alone k = Kx.may (Kx.envAt k.envs 0).rights Kx.sA by
        rw [HA.out, hall.out 1 (by omega) (by omega), hall.out 2 (by omega) (by omega)]
        unfold aOk; simp)
      go_wp2_with (go_at_call 91; refine (l11May_c _ Kx.sA _ _ R0.out).mono ?_; rintro e w' ⟨rfl, rfl⟩)
      go_ret
      exact ⟨ret_bool HF.out.symm, Hw0.out⟩

end Go.Proofs.YtfnpjdgjceiklaaGreatDoor
