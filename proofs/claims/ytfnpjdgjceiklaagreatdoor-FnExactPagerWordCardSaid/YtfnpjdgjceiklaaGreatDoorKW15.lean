/- Contracts: spec.SwapGet, l32Count, l32Word. -/
import Derived.Test.YtfnpjdgjceiklaaGreatDoorKW14
namespace Go.Proofs.YtfnpjdgjceiklaaGreatDoor
open Go.RowKit

def getOk (s : List (List Int)) (x : Int) : Bool := Kx.swapOk s && Kx.inR x 0 15 && !(Kx.row s x.toNat).isEmpty
def getW (s : List (List Int)) (x : Int) : List Int := if getOk s x then Kx.row s x.toNat else []
set_option maxHeartbeats 1000000 in
theorem SwapGet_c (s : List (List Int)) (x : Int) (v : Value) (w : World) (h : RM w v s) :
    Calls Tryz.prog 94 #[v, .int .i64 x] w (MadeIB w (getW s x) (getOk s x)) := by
  obtain ⟨hl, a, cap, rfl, _, _⟩ := h.len
  have H := Lib.hid h
  have Hv := Lib.hid (specSwapValid_c s _ w h); clear h
  have hok := Lib.hid (show getOk s x = (Kx.swapOk s && Kx.inR x 0 15 && !(Kx.row s x.toNat).isEmpty) from rfl)
  have Hno := Lib.hid (show getOk s x = false → MadeIB w (getW s x) (getOk s x) (.returned (.tuple #[.slice (some ⟨w.heap.size, 0, none⟩) 0 0, .bool false])) (w.alloc (.cells #[] 3)) from fun e => ⟨_, by rw [e], by unfold getW; rw [e]; exact OI.lit0 (Nat.le_refl _), (Below.refl _ _).alloc (Nat.le_refl _) _⟩)
  go_enter Tryz.func94, Tryz.ntmps94
  go_wp2_with fail
  refine Hv.out.mono ?_; rintro e w' ⟨rfl, rfl⟩
  cases h1 : Kx.swapOk s with
  | false =>
    have HF := Lib.hid (Hno.out (by rw [hok.out, h1]; rfl))
    clear h1 hok Hno
    go_wp2_with fail
    go_ret2
    exact HF.out
  | true =>
    have Hs := Lib.hid h1; clear h1
    have Hlen := Lib.hid (show s.length = 16 by have := Hs.out; rw [sOk_all, Bool.and_eq_true] at this; simpa using this.2)
    go_wp2_with fail
    refine (l6InK_c _ _ _ _).mono ?_; rintro e w' ⟨rfl, rfl⟩
    cases h1 : Kx.inR x 0 15 with
    | false =>
      have HF := Lib.hid (Hno.out (by rw [hok.out, h1]; simp))
      clear h1 hok Hno
      go_wp2_with fail
      go_ret2
      exact HF.out
    | true =>
      obtain ⟨h0, h15⟩ := Kx.inR_true.1 h1
      obtain ⟨n, rfl⟩ := Int.eq_ofNat_of_zero_le h0
      have hn : n < s.length := by rw [Hlen.out]; omega
      have hnI : (n : Int) < (s.length : Int) := by omega
      obtain ⟨b, off, cap', u, e, hb, hc, hr⟩ := H.out.at hn
      simp only [Value.slice.injEq] at e
      obtain ⟨rfl, _, rfl⟩ := e
      obtain ⟨a2, cap2, rfl⟩ := hr.val
      have Hr := Lib.hid hr
      have Hx := Lib.hid h1
      have Hw := Lib.hid (show getOk s n = true → getW s n = Kx.row s n from fun e => by unfold getW; rw [if_pos e]; rfl)
      rw [Int.toNat_natCast] at hok
      clear h1 h0 hr
      generalize Kx.row s n = ws at hc hok Hr Hw
      by_cases hem : ws = []
      · subst hem
        have HF := Lib.hid (Hno.out (by rw [hok.out]; simp))
        clear hok Hno Hw
        go_wp2_with fail
        go_ret2
        exact HF.out
      · have hd : ((ws.length : Int) == 0) = false := by simpa using hem
        have hT := Lib.hid (show getOk s n = true by
          rw [hok.out, Hs.out, Hx.out]
          cases ws with
          | nil => exact absurd rfl hem
          | cons => rfl)
        have hws := Lib.hid (Hw.out hT.out)
        have hwl := Lib.hid (show ws.length ≤ 1099511627776 from Hr.out.1)
        have hc2 : (w.alloc (.cells #[] 3)).cell? ⟨b, off + n, none⟩ = some (.slice a2 ws.length cap2) := ((Below.refl w.heap.size w).alloc (Nat.le_refl _) _ |>.cell (p := ⟨b, off + n, none⟩) hb).trans hc
        have Hr2 := Lib.hid (show RI (w.alloc (.cells #[] 3)) (.slice a2 ws.length cap2) ws from Hr.out.below ((Below.refl _ _).alloc (Nat.le_refl _) _))
        clear hok Hno Hw hem
        go_wp2_with (at_builtin; refine wpList_appR rfl _ _ rfl w.heap.size _ [] rfl (OI.lit0 (Nat.le_refl _)) _ ws rfl Hr2.out (by have := hwl.out; simp; omega) (by simp) ?_; intro v' w4 ho4 hg4; rw [List.nil_append] at ho4; have Ho4 := Lib.hid ho4; have Hbb := Lib.hid (Below.app ((Below.refl w.heap.size w).alloc (Nat.le_refl _) _) (OI.lit0 (Nat.le_refl _)) hg4 (Nat.le_refl _) (by simp)); clear ho4 hg4)
        go_ret2
        exact ⟨v', by rw [hT.out]; rfl, by rw [hws.out]; exact Ho4.out, Hbb.out⟩

/-- how many of the first q pages are in a place -/
def cntP (p : Kx.Pager) (wh : Int) (q : Nat) : Nat := (p.pages.take q).countP fun x => x.wh == wh
theorem cntP_zero (p : Kx.Pager) (wh : Int) : cntP p wh 0 = 0 := by simp [cntP]
theorem cntP_step (p : Kx.Pager) (wh : Int) (q : Nat) (h : q < p.pages.length) : cntP p wh (q + 1) = cntP p wh q + if (Kx.pageAt p.pages q).wh = wh then 1 else 0 := by
  unfold cntP
  rw [List.take_add_one, List.getElem?_eq_getElem h, Option.toList_some, List.countP_append, List.countP_singleton]
  have e : Kx.pageAt p.pages q = p.pages[q] := by simp [Kx.pageAt, h]
  rw [e]; simp
theorem cntP_all (p : Kx.Pager) (wh : Int) : cntP p wh p.pages.length = Kx.countP p wh := by unfold cntP Kx.countP; rw [List.take_length]
theorem cntP_le (p : Kx.Pager) (wh : Int) (q : Nat) : cntP p wh q ≤ q := Nat.le_trans List.countP_le_length (by rw [List.length_take]; omega)
set_option maxHeartbeats 1000000 in
theorem l32Count_c (p : Kx.Pager) (wh : Int) (vm vi ve vc vs vl vp : Value) (hand limit : Int) (w : World) (h : RPage w vp p.pages) :
    Calls Tryz.prog 42 #[pagerV vm vi ve vc vs vl vp hand limit, .int .i64 wh] w fun e w' => e = .returned (.int .i64 (Kx.countP p wh)) ∧ Below w.heap.size w w' := by
  obtain ⟨w0, hw0⟩ : ∃ w0, w.alloc (.cells #[vm, vi, ve, vc, vs, vl, vp, .int .i64 hand, .int .i64 limit] 41) = w0 := ⟨_, rfl⟩
  have Hw0 := Lib.hid (show Below w.heap.size w w0 from hw0 ▸ (Below.refl w.heap.size w).alloc (Nat.le_refl _) _)
  have Hbx := Lib.hid (show BoxP w0 w.heap.size vm vi ve vc vs vl vp hand limit from hw0 ▸ BoxP.new w vm vi ve vc vs vl vp hand limit _)
  obtain ⟨ap, cp, rfl, _, _⟩ := RS.val h
  have hpl := h.1
  have HG := Lib.hid (show RPage w0 _ p.pages from RS.below h Hw0.out); clear h
  have k6 := Hbx.out.2.1.2.2.1
  unfold pagerV
  go_enter Tryz.func42, Tryz.ntmps42
  go_wp2_with fail
  clear hw0
  go_loop [5, 6] (fun n i => ∃ q : Nat, i = .int .i64 q ∧ q ≤ p.pages.length ∧ n = .int .i64 (cntP p wh q)) (fun _ i => p.pages.length - (intOf i).toNat)
  case atStart => exact ⟨0, rfl, Nat.zero_le _, by rw [cntP_zero]; rfl⟩
  case round =>
    obtain ⟨q, rfl, hq, rfl⟩ := hrel
    by_cases hlt : q < p.pages.length
    · obtain ⟨b, off, cap, ev, hbb, h1, _, _⟩ := RPage.at HG.out hlt
      simp only [Value.slice.injEq] at ev
      obtain ⟨rfl, _, rfl⟩ := ev
      have hlI : (q : Int) < (p.pages.length : Int) := by omega
      have hst := Lib.hid (cntP_step p wh q hlt)
      have hle := cntP_le p wh q
      generalize (Kx.pageAt p.pages q).wh = x at h1 hst
      by_cases hx : x = wh
      · have hN := Lib.hid (show cntP p wh (q + 1) = cntP p wh q + 1 by rw [hst.out, if_pos hx])
        subst hx
        generalize cntP p x q = n0 at hN hle
        have hnI : (n0 : Int) ≤ 1099511627776 := by omega
        clear hst
        go_wp2_with fail
        go_round
        case rel => exact ⟨q + 1, by go_num, by omega, by rw [hN.out]; go_num⟩
        case measure => simp [intOf]; omega
      · have hN := Lib.hid (show cntP p wh (q + 1) = cntP p wh q by rw [hst.out, if_neg hx, Nat.add_zero])
        have hxb : (x == wh) = false := by simpa using hx
        clear hst
        go_wp2_with fail
        go_round
        case rel => exact ⟨q + 1, by go_num, by omega, by rw [hN.out]⟩
        case measure => simp [intOf]; omega
    · have e : q = p.pages.length := by omega
      subst e
      have HF := Lib.hid (cntP_all p wh)
      go_wp2_with fail
      go_ret
      exact ⟨by rw [HF.out]; rfl, Hw0.out⟩
end Go.Proofs.YtfnpjdgjceiklaaGreatDoor
