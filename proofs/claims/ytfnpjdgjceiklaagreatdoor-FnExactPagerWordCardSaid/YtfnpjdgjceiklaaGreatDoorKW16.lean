/- Contracts: spec.l32Slots. -/
import Derived.Test.YtfnpjdgjceiklaaGreatDoorKW15
namespace Go.Proofs.YtfnpjdgjceiklaaGreatDoor
open Go.RowKit

def slP (i : Nat) (x : Kx.Page) : Bool := x.wh == 2 && x.at_ == (i : Int)
/-- how many of the first q pages lie in the place i of the swap -/
def cntS (p : Kx.Pager) (i q : Nat) : Nat := (p.pages.take q).countP (slP i)
theorem cntS_zero (p : Kx.Pager) (i : Nat) : cntS p i 0 = 0 := by simp [cntS]
theorem cntS_step (p : Kx.Pager) (i q : Nat) (h : q < p.pages.length) : cntS p i (q + 1) = cntS p i q + if slP i (Kx.pageAt p.pages q) = true then 1 else 0 := by
  unfold cntS
  rw [List.take_add_one, List.getElem?_eq_getElem h, Option.toList_some, List.countP_append, List.countP_singleton]
  have e : Kx.pageAt p.pages q = p.pages[q] := by simp [Kx.pageAt, h]
  rw [e]
theorem cntS_all (p : Kx.Pager) (i : Nat) : cntS p i p.pages.length = Kx.slotN p i := by unfold cntS Kx.slotN; rw [List.take_length]; rfl
theorem cntS_le (p : Kx.Pager) (i q : Nat) : cntS p i q ≤ q := Nat.le_trans List.countP_le_length (by rw [List.length_take]; omega)
def slOk (p : Kx.Pager) (i : Nat) : Bool := Kx.slotN p i == if (Kx.row p.swap i).isEmpty then 0 else 1
theorem slOk_all (p : Kx.Pager) : Kx.slotsOk p = (List.range p.swap.length).all (slOk p) := rfl
set_option maxHeartbeats 2000000 in
theorem l32Slots_c (p : Kx.Pager) (vm vi ve vc vs vl vp : Value) (hand limit : Int) (w : World) (h : RPage w vp p.pages) (hs : RM w vs p.swap) :
    Calls Tryz.prog 39 #[pagerV vm vi ve vc vs vl vp hand limit] w fun e w' => e = .returned (.bool (Kx.slotsOk p)) ∧ Below w.heap.size w w' := by
  obtain ⟨w0, hw0⟩ : ∃ w0, w.alloc (.cells #[vm, vi, ve, vc, vs, vl, vp, .int .i64 hand, .int .i64 limit] 41) = w0 := ⟨_, rfl⟩
  have Hw0 := Lib.hid (show Below w.heap.size w w0 from hw0 ▸ (Below.refl w.heap.size w).alloc (Nat.le_refl _) _)
  have Hbx := Lib.hid (show BoxP w0 w.heap.size vm vi ve vc vs vl vp hand limit from hw0 ▸ BoxP.new w vm vi ve vc vs vl vp hand limit _)
  obtain ⟨ap, cp, rfl, _, _⟩ := RS.val h
  obtain ⟨hsl, as', cs, rfl, _, _⟩ := hs.len
  have hpl := h.1
  have HG := Lib.hid (show RPage w0 _ p.pages from RS.below h Hw0.out)
  have HS := Lib.hid (hs.below Hw0.out); clear h hs
  have k6 := Hbx.out.2.1.2.2.1
  have k4 := Hbx.out.2.1.1
  unfold pagerV
  go_enter Tryz.func39, Tryz.ntmps39
  go_wp2_with fail
  clear hw0
  go_loop [3] (fun i => ∃ q : Nat, i = .int .i64 q ∧ q ≤ p.swap.length ∧ Hid (∀ j, j < q → slOk p j = true)) (fun i => p.swap.length - (intOf i).toNat)
  case atStart => exact ⟨0, rfl, Nat.zero_le _, fun j hj => absurd hj (Nat.not_lt_zero _)⟩
  case round =>
    obtain ⟨q, rfl, hq, hall⟩ := hrel
    by_cases hlt : q < p.swap.length
    · obtain ⟨b, off, cap', y, e, _, hc, hr⟩ := HS.out.at hlt
      simp only [Value.slice.injEq] at e
      obtain ⟨rfl, _, rfl⟩ := e
      have HB := Lib.hid (show slOk p q = false → Kx.slotsOk p = false from fun h => by
        rw [slOk_all, List.all_eq_false]
        exact ⟨q, by simpa using hlt, by rw [h]; simp⟩)
      have HN := Lib.hid (show slOk p q = true → ∀ j, j < q + 1 → slOk p j = true from fun h => scan_step hall.out h)
      have Hok := Lib.hid (show slOk p q = (Kx.slotN p q == if (Kx.row p.swap q).isEmpty then 0 else 1) from rfl)
      have hlI : (q : Int) < (p.swap.length : Int) := by omega
      obtain ⟨a2, cap2, rfl⟩ := hr.val
      clear hr
      generalize Kx.row p.swap q = ws at hc Hok
      go_wp2_with fail
      go_loop [4, 5] (fun n i => ∃ r : Nat, i = .int .i64 r ∧ r ≤ p.pages.length ∧ n = .int .i64 (cntS p q r)) (fun _ i => p.pages.length - (intOf i).toNat)
      case atStart => exact ⟨0, rfl, Nat.zero_le _, by rw [cntS_zero]; rfl⟩
      case round =>
        obtain ⟨r, rfl, hr, rfl⟩ := hrel
        by_cases hlt2 : r < p.pages.length
        · obtain ⟨bp, op, cap, ev, hbb, h1, h2, _⟩ := RPage.at HG.out hlt2
          simp only [Value.slice.injEq] at ev
          obtain ⟨rfl, _, rfl⟩ := ev
          have hrI : (r : Int) < (p.pages.length : Int) := by omega
          have hst := Lib.hid (cntS_step p q r hlt2)
          have hle := cntS_le p q r
          have hsp := Lib.hid (show slP q (Kx.pageAt p.pages r) = ((Kx.pageAt p.pages r).wh == 2 && (Kx.pageAt p.pages r).at_ == (q : Int)) from rfl)
          generalize (Kx.pageAt p.pages r).wh = x at h1 hsp
          generalize (Kx.pageAt p.pages r).at_ = z at h2 hsp
          by_cases hx : x = 2
          · subst hx
            by_cases hz : z = (q : Int)
            · subst hz
              have hN := Lib.hid (show cntS p q (r + 1) = cntS p q r + 1 by rw [hst.out, if_pos (by rw [hsp.out]; simp)])
              generalize cntS p q r = n0 at hN hle
              have hnI : (n0 : Int) ≤ 1099511627776 := by omega
              clear hst hsp
              go_wp2_with fail
              go_round
              case rel => exact ⟨r + 1, by go_num, by omega, by rw [hN.out]; go_num⟩
              case measure => simp [intOf]; omega
            · have hzb : (z == (q : Int)) = false := by simpa using hz
              have hN := Lib.hid (show cntS p q (r + 1) = cntS p q r by rw [hst.out, if_neg (by rw [hsp.out, hzb]; simp), Nat.add_zero])
              clear hst hsp hz
              go_wp2_with fail
              go_round
              case rel => exact ⟨r + 1, by go_num, by omega, by rw [hN.out]⟩
              case measure => simp [intOf]; omega
          · have hxb : (x == 2) = false := by simpa using hx
            have hN := Lib.hid (show cntS p q (r + 1) = cntS p q r by rw [hst.out, if_neg (by rw [hsp.out, hxb]; simp), Nat.add_zero])
            clear hst hsp hx
            go_wp2_with fail
            go_round
            case rel => exact ⟨r + 1, by go_num, by omega, by rw [hN.out]⟩
            case measure => simp [intOf]; omega
        · have e : r = p.pages.length := by omega
          subst e
          rw [cntS_all] at *
          have hle : Kx.slotN p q ≤ p.pages.length := by unfold Kx.slotN; exact List.countP_le_length
          generalize Kx.slotN p q = N at Hok hle ⊢
          by_cases hN2 : 1 < N
          · have HF := Lib.hid (HB.out (by rw [Hok.out]; simp; split <;> omega))
            have hNI : (1 : Int) < (N : Int) := by omega
            have hNd : decide (1 < N) = true := by simpa using hN2
            clear HB HN Hok
            go_wp2_with fail
            go_ret
            exact ⟨ret_bool HF.out.symm, Hw0.out⟩
          · have hwl : 0 < ws.length ∨ ws = [] := by
              cases ws with
              | nil => exact .inr rfl
              | cons => exact .inl (by simp)
            rcases (by omega : N = 0 ∨ N = 1) with rfl | rfl
            · rcases hwl with hem | rfl
              · have hd : decide (0 < ws.length) = true := by simpa using hem
                have HF := Lib.hid (HB.out (by
                  rw [Hok.out]
                  cases ws with
                  | nil => simp at hem
                  | cons => rfl))
                clear HB HN Hok
                go_wp2_with fail
                go_ret
                exact ⟨ret_bool HF.out.symm, Hw0.out⟩
              · have HN2 := Lib.hid (HN.out (by rw [Hok.out]; rfl))
                clear HB HN Hok
                go_wp2_with fail
                go_round
                case rel => exact ⟨q + 1, by go_num, by omega, HN2.out⟩
                case measure => simp [intOf]; omega
            · rcases hwl with hem | rfl
              · have hd : decide (0 < ws.length) = true := by simpa using hem
                have HN2 := Lib.hid (HN.out (by
                  rw [Hok.out]
                  cases ws with
                  | nil => simp at hem
                  | cons => rfl))
                clear HB HN Hok
                go_wp2_with fail
                go_round
                case rel => exact ⟨q + 1, by go_num, by omega, HN2.out⟩
                case measure => simp [intOf]; omega
              · have HF := Lib.hid (HB.out (by rw [Hok.out]; rfl))
                clear HB HN Hok
                go_wp2_with fail
                go_ret
                exact ⟨ret_bool HF.out.symm, Hw0.out⟩
    · have HF := Lib.hid (show Kx.slotsOk p = true by
        rw [slOk_all, List.all_eq_true]; exact fun j hj => hall.out j (by have : j < p.swap.length := by simpa using hj
                                                                          omega))
      go_wp2_with fail
      go_ret
      exact ⟨ret_bool HF.out.symm, Hw0.out⟩
end Go.Proofs.YtfnpjdgjceiklaaGreatDoor
