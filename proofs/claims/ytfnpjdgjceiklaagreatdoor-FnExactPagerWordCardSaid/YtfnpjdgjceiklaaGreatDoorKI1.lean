/- Contracts: the impl's side: MemoryValid. -/
import Derived.Test.YtfnpjdgjceiklaaGreatDoorKW22
namespace Go.Proofs.YtfnpjdgjceiklaaGreatDoor
open Go.RowKit

theorem MemoryValid1_c (ws : List Int) (v : Value) (w : World) (h : RI w v ws) :
    Calls Tryz.prog 146 #[v] w fun e w' => e = .returned (.bool (!Kx.wordsOk ws)) ∧ Below w.heap.size w w' := by
  have Hc := Lib.hid (isWords_c ws v w h)
  have He := Lib.hid (wordsOk_eq ws)
  obtain ⟨a, cap, rfl⟩ := h.val
  clear h
  go_enter Tryz.func146, Tryz.ntmps146
  go_wp2_with (go_at_call 109; refine Hc.out.mono ?_; rintro e w' ⟨rfl, hb'⟩; have Hb' := Lib.hid hb'; clear hb'; rw [He.out])
  go_ret
  exact ⟨by rfl, Hb'.out⟩
set_option maxHeartbeats 1000000 in
theorem implMemoryValid_c (m : List (List Int)) (v : Value) (w : World) (h : RM w v m) :
    Calls Tryz.prog 96 #[v] w fun e w' => e = .returned (.bool (Kx.memOk m)) ∧ Below w.heap.size w w' := by
  obtain ⟨hl, a, cap, rfl, _, _⟩ := h.len
  obtain ⟨vs, hvl, hvs, hr⟩ := h
  have hc := ContainsVal_c 146 #[] (fun k => !Kx.wordsOk (Kx.row m k)) vs _ w hvs ⟨Proofs.enters_of Tryz.func146 (by kernel_rfl) rfl, fun k W hk hb => by
    have h2 := (hr k hk (by omega)).below hb
    have e1 : vs.getD k undef = vs[k] := by simp [hk]
    have e2 : Kx.row m k = m[k]'(by omega) := by simp [Kx.row, show k < m.length by omega]
    show Calls Tryz.prog 146 #[vs.getD k undef] W fun e w' => e = .returned (.bool (!Kx.wordsOk (Kx.row m k))) ∧ Below W.heap.size W w'
    rw [e1, e2]
    exact MemoryValid1_c _ _ _ h2⟩
  have e : ((List.range vs.length).any fun k => !Kx.wordsOk (Kx.row m k)) = !(m.all Kx.wordsOk) := by
    rw [hvl, Bool.eq_iff_iff, List.any_eq_true, Bool.not_eq_true', List.all_eq_false]
    constructor
    · rintro ⟨k, hk, hq⟩
      have hk : k < m.length := by simpa using hk
      exact ⟨_, Kx.row_mem hk, by simpa using hq⟩
    · rintro ⟨x, hx, hq⟩
      obtain ⟨k, hk, rfl⟩ := List.getElem_of_mem hx
      exact ⟨k, by simpa using hk, by rw [show Kx.row m k = m[k] from by simp [Kx.row, hk]]; simpa using hq⟩
  rw [e] at hc
  have Hc := Lib.hid hc
  clear hc e hr hvs hvl
  have HM := Lib.hid (show Kx.memOk m = (m.all Kx.wordsOk && m.length == 12) from rfl)
  generalize m.all Kx.wordsOk = t at Hc HM
  by_cases h12 : m.length = 12
  · have hb : ((m.length : Int) == 12) = true := by simp; omega
    have H12 := Lib.hid h12; clear h12
    go_enter Tryz.func96, Tryz.ntmps96
    go_wp2_with (go_at_call 107; refine Hc.out.mono ?_; rintro e w' ⟨rfl, hb'⟩; have Hb' := Lib.hid hb'; clear hb')
    go_ret
    exact ⟨ret_bool (by rw [HM.out, H12.out]; simp), Hb'.out⟩
  · have hb : ((m.length : Int) == 12) = false := by simp; omega
    have H12 := Lib.hid h12; clear h12
    go_enter Tryz.func96, Tryz.ntmps96
    go_wp2_with fail
    go_ret
    exact ⟨ret_bool (by rw [HM.out]; simp [H12.out]), Below.refl _ _⟩
end Go.Proofs.YtfnpjdgjceiklaaGreatDoor
