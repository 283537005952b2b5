/- Contracts: the impl's side: what is known of frames; rights of an environment. -/
import Derived.Test.YtfnpjdgjceiklaaGreatDoorKI5
namespace Go.Proofs.YtfnpjdgjceiklaaGreatDoor
open Go.RowKit

theorem zero_iff (x : Kx.Info) (h0 : x.kind = 0) : x = Kx.Info.zero ↔ x.guard.toList = [] ∧ x.refs = 0 := by
  constructor
  · intro e; rw [e]; exact ⟨by decide +kernel, rfl⟩
  · rintro ⟨e1, e2⟩
    have : x.guard = ByteArray.empty := Kx.toList_inj (by rw [e1]; decide +kernel)
    cases x; simp_all [Kx.Info.zero]
set_option maxHeartbeats 1000000 in
theorem implInfoOk_c (x : Kx.Info) (w : World) (hs : x.guard.size ≤ 9223372036854775807) : Calls Tryz.prog 149 #[infoV x] w fun e w' => e = .returned (.bool (Kx.infoOk x)) ∧ Below w.heap.size w w' := by
  obtain ⟨w0, hw0⟩ : ∃ w0, w.alloc (.cells #[.int .i64 x.kind, .string x.guard, .int .i64 x.refs] 111) = w0 := ⟨_, rfl⟩
  have hb := Lib.hid (show Below w.heap.size w w0 from hw0 ▸ (Below.refl _ _).alloc (Nat.le_refl _) _)
  have hlt := Lib.hid (show w.heap.size < w0.heap.size by subst hw0; simp)
  obtain ⟨c0, c1, c2⟩ := (show w0.cell? ⟨w.heap.size, 0, none⟩ = some (.int .i64 x.kind) ∧ w0.cell? ⟨w.heap.size, 1, none⟩ = some (.string x.guard) ∧ w0.cell? ⟨w.heap.size, 2, none⟩ = some (.int .i64 x.refs) from hw0 ▸ Box3.new w _ _ _ _)
  unfold infoV
  by_cases h0 : x.kind = 0
  · have hk : (x.kind == 0) = true := by simpa using h0
    have hv := Lib.hid (show Kx.infoOk x = decide (x = Kx.Info.zero) by unfold Kx.infoOk; rw [if_pos h0]; rfl)
    have hz := Lib.hid (zero_iff x h0)
    have hi := Lib.hid (show Kx.inR x.kind 1 3 = false by rw [h0]; rfl)
    clear h0
    by_cases hg : x.guard.toList = []
    · by_cases hr : x.refs = 0
      · have hF := Lib.hid (show Kx.infoOk x = true by rw [hv.out, decide_eq_true_eq, hz.out]; exact ⟨hg, hr⟩)
        have hrb : (x.refs == 0) = true := by simpa using hr
        clear hr
        go_enter Tryz.func149, Tryz.ntmps149
        go_wp2_with fail
        go_ret
        exact ⟨ret_bool hF.out.symm, hb.out⟩
      · have hF := Lib.hid (show Kx.infoOk x = false by rw [hv.out, decide_eq_false_iff_not, hz.out]; exact fun h => hr h.2)
        have hrb : (x.refs == 0) = false := by simpa using hr
        clear hr
        go_enter Tryz.func149, Tryz.ntmps149
        go_wp2_with (go_at_call 51; refine (withinK_c _ _ _ _).mono ?_; rintro e w' ⟨rfl, rfl⟩; rw [hi.out])
        go_ret
        exact ⟨ret_bool hF.out.symm, hb.out⟩
    · have hF := Lib.hid (show Kx.infoOk x = false by rw [hv.out, decide_eq_false_iff_not, hz.out]; exact fun h => hg h.1)
      go_enter Tryz.func149, Tryz.ntmps149
      go_wp2_with (go_at_call 51; refine (withinK_c _ _ _ _).mono ?_; rintro e w' ⟨rfl, rfl⟩; rw [hi.out])
      go_ret
      exact ⟨ret_bool hF.out.symm, hb.out⟩
  · have hk : (x.kind == 0) = false := by simpa using h0
    have hv := Lib.hid (show Kx.infoOk x = (Kx.inR x.kind 1 3 && Kx.rightOk x.guard && Kx.inR x.refs 0 50) by unfold Kx.infoOk; rw [if_neg h0])
    clear h0
    go_enter Tryz.func149, Tryz.ntmps149
    go_wp2_with fail
    refine (withinK_c _ _ _ _).mono ?_; rintro e w' ⟨rfl, rfl⟩
    cases h1 : Kx.inR x.kind 1 3
    · rw [h1] at hv
      clear h1
      go_wp2_with fail
      go_ret
      exact ⟨ret_bool (by rw [hv.out]; rfl), hb.out⟩
    · rw [h1] at hv
      clear h1
      go_wp2_with fail
      refine (implRightValid_c _ _ hs).mono ?_; rintro e w' ⟨rfl, hb'⟩
      have Hb' := Lib.hid hb'
      have k2 : w'.cell? ⟨w.heap.size, 2, none⟩ = some (.int .i64 x.refs) := (hb'.cell (p := ⟨w.heap.size, 2, none⟩) hlt.out).trans c2
      clear hb'
      cases h1 : Kx.rightOk x.guard
      · rw [h1] at hv
        clear h1
        go_wp2_with fail
        go_ret
        exact ⟨ret_bool (by rw [hv.out]; rfl), hb.out.trans (Hb'.out.mono hb.out.size)⟩
      · rw [h1] at hv
        clear h1
        go_wp2_with fail
        refine (withinK_c _ _ _ _).mono ?_; rintro e w' ⟨rfl, rfl⟩
        go_wp2_with fail
        go_ret
        exact ⟨ret_bool (by rw [hv.out]; rfl), hb.out.trans (Hb'.out.mono hb.out.size)⟩
set_option maxHeartbeats 1000000 in
theorem InfosValid1_c (x : Kx.Info) (w : World) (hs : x.guard.size ≤ 9223372036854775807) : Calls Tryz.prog 148 #[infoV x] w fun e w' => e = .returned (.bool (!Kx.infoOk x)) ∧ Below w.heap.size w w' := by
  obtain ⟨w0, hw0⟩ : ∃ w0, w.alloc (.cells #[.int .i64 x.kind, .string x.guard, .int .i64 x.refs] 111) = w0 := ⟨_, rfl⟩
  have hb := Lib.hid (show Below w.heap.size w w0 from hw0 ▸ (Below.refl _ _).alloc (Nat.le_refl _) _)
  obtain ⟨c0, c1, c2⟩ := (show w0.cell? ⟨w.heap.size, 0, none⟩ = some (.int .i64 x.kind) ∧ w0.cell? ⟨w.heap.size, 1, none⟩ = some (.string x.guard) ∧ w0.cell? ⟨w.heap.size, 2, none⟩ = some (.int .i64 x.refs) from hw0 ▸ Box3.new w _ _ _ _)
  have HC := Lib.hid (implInfoOk_c x w0 hs)
  unfold infoV at *
  go_enter Tryz.func148, Tryz.ntmps148
  go_wp2_with (go_at_call 149; refine HC.out.mono ?_; rintro e w' ⟨rfl, hb'⟩; have Hb' := Lib.hid hb'; clear hb')
  go_ret
  exact ⟨rfl, hb.out.trans (Hb'.out.mono hb.out.size)⟩
theorem inf_any (l : List Kx.Info) : ((List.range l.length).any fun k => !Kx.infoOk (Kx.inf l k)) = !(l.all Kx.infoOk) := by
  rw [Bool.eq_iff_iff, List.any_eq_true, Bool.not_eq_true', List.all_eq_false]
  constructor
  · rintro ⟨k, hk, hq⟩
    have hk : k < l.length := by simpa using hk
    exact ⟨l[k], List.getElem_mem hk, by simpa [Kx.inf, hk] using hq⟩
  · rintro ⟨x, hx, hq⟩
    obtain ⟨k, hk, rfl⟩ := List.getElem_of_mem hx
    exact ⟨k, by simpa using hk, by simpa [Kx.inf, hk] using hq⟩
set_option maxHeartbeats 1000000 in
theorem implInfosValid_c (l : List Kx.Info) (v : Value) (w : World) (h : RInfo w v l) (hs : SaneI l) :
    Calls Tryz.prog 97 #[v] w fun e w' => e = .returned (.bool (Kx.infosOk l)) ∧ Below w.heap.size w w' := by
  have hc := ContainsInfo_c 148 #[] (fun k => !Kx.infoOk (Kx.inf l k)) l v w h
    ⟨Proofs.enters_of Tryz.func148 (by kernel_rfl) rfl, fun k W hk hb => InfosValid1_c _ W (hs _ (by rw [show Kx.inf l k = l[k] from by simp [Kx.inf, hk]]; exact List.getElem_mem hk))⟩
  rw [inf_any] at hc
  obtain ⟨a, cap, rfl, _, _⟩ := RS.val h
  have Hc := Lib.hid hc
  have HM := Lib.hid (show Kx.infosOk l = (l.all Kx.infoOk && l.length == 12) from rfl)
  clear hc h
  generalize l.all Kx.infoOk = t at Hc HM
  by_cases h12 : l.length = 12
  · have hb : ((l.length : Int) == 12) = true := by simp; omega
    have H12 := Lib.hid h12; clear h12
    go_enter Tryz.func97, Tryz.ntmps97
    go_wp2_with (go_at_call 147; refine Hc.out.mono ?_; rintro e w' ⟨rfl, hb'⟩; have Hb' := Lib.hid hb'; clear hb')
    go_ret
    exact ⟨ret_bool (by rw [HM.out, H12.out]; simp), Hb'.out⟩
  · have hb : ((l.length : Int) == 12) = false := by simp; omega
    have H12 := Lib.hid h12; clear h12
    go_enter Tryz.func97, Tryz.ntmps97
    go_wp2_with fail
    go_ret
    exact ⟨ret_bool (by rw [HM.out]; simp [H12.out]), Below.refl _ _⟩
set_option maxHeartbeats 1000000 in
theorem implRightsValid_c (l : List Kx.Str) (v : Value) (w : World) (h : RStr w v l) (hsz : ∀ s ∈ l, s.size ≤ 9223372036854775807) :
    Calls Tryz.prog 100 #[v] w fun e w' => e = .returned (.bool (Kx.rightsOk l)) ∧ Below w.heap.size w w' := by
  obtain ⟨a, cap, rfl, _, _⟩ := RS.val h
  have hl := h.1
  have H := Lib.hid h; clear h
  have Hsz := Lib.hid hsz; clear hsz
  go_enter Tryz.func100, Tryz.ntmps100
  go_wp2_with fail
  go_loopw [7] (fun i wr => ∃ k : Nat, i = .int .i64 k ∧ k ≤ l.length ∧ Hid (∀ j (hj : j < l.length), j < k → Kx.rightOk l[j] = true) ∧ Hid (∀ j (hj : j + 1 < l.length), j + 1 < k → Kx.lt l[j] l[j + 1] = true) ∧ Hid (Below w.heap.size w wr)) (fun i _ => l.length - (intOf i).toNat)
  case atStart => exact ⟨0, rfl, Nat.zero_le _, fun j _ hj => absurd hj (Nat.not_lt_zero _), fun j _ hj => absurd hj (Nat.not_lt_zero _), Below.refl _ _⟩
  case round =>
    obtain ⟨k, rfl, hk, hall, hasc, hb⟩ := hrel
    have Hr := Lib.hid (RS.below H.out hb.out)
    by_cases hlt : k < l.length
    · obtain ⟨b, off, cap', e, hbl, hc⟩ := RStr.at Hr.out hlt
      have hprev : ∀ (W : World) (hB : Below wr.heap.size wr W) (hk0 : 0 < k), W.cell? ⟨b, off + (k - 1), none⟩ = some (.string (l[k - 1]'(by omega))) := fun W hB hk0 => by
        obtain ⟨b', off', cap'', e', _, hc'⟩ := RStr.at Hr.out (k := k - 1) (by omega)
        rw [e] at e'
        simp only [Value.slice.injEq, Option.some.injEq, Addr.mk.injEq] at e'
        obtain ⟨⟨rfl, rfl, _⟩, _⟩ := e'
        exact (hB.cell (p := ⟨b, off + (k - 1), none⟩) hbl).trans hc'
      have Hprev := Lib.hid hprev; clear hprev
      simp only [Value.slice.injEq] at e
      obtain ⟨rfl, _, rfl⟩ := e
      have hlI : (k : Int) < (l.length : Int) := by omega
      have Hrv := Lib.hid (implRightValid_c l[k] wr (Hsz.out _ (List.getElem_mem hlt)))
      cases hq : Kx.rightOk l[k] with
      | false =>
        have HF := Lib.hid (show Kx.rightsOk l = false by
          unfold Kx.rightsOk
          rw [Bool.and_eq_false_iff, Bool.and_eq_false_iff, List.all_eq_false]
          exact .inl (.inl ⟨_, List.getElem_mem hlt, by rw [hq]; simp⟩))
        rw [hq] at Hrv; clear hq
        generalize l[k] = s at hc Hrv
        go_wp2_with (go_at_call 153; refine Hrv.out.mono ?_; rintro e w2 ⟨rfl, hb2⟩; have Hb2 := Lib.hid hb2; clear hb2)
        go_ret
        exact ⟨ret_bool HF.out.symm, hb.out.trans (Hb2.out.mono hb.out.size)⟩
      | true =>
        have Hk := Lib.hid hq
        rw [hq] at Hrv; clear hq
        by_cases hk0 : k = 0
        · have hg : decide (0 < k) = false := by simp; omega
          have Hk0 := Lib.hid hk0; clear hk0
          generalize l[k] = s at hc Hrv
          go_wp2_with (go_at_call 153; refine Hrv.out.mono ?_; rintro e w2 ⟨rfl, hb2⟩; have Hb2 := Lib.hid hb2; clear hb2)
          go_roundw
          case rel =>
            refine ⟨k + 1, by go_num, by omega, ?_, ?_, hb.out.trans (Hb2.out.mono hb.out.size)⟩
            · show ∀ j (hj : j < l.length), j < k + 1 → _
              intro j hj hjk
              have := Hk0.out
              obtain rfl : j = k := by omega
              exact Hk.out
            · show ∀ j (hj : j + 1 < l.length), j + 1 < k + 1 → _
              intro j hj hjk
              have := Hk0.out; omega
          case measure => simp [intOf]; omega
        · have hg : decide (0 < k) = true := by simp; omega
          have Hp := Lib.hid (fun W hB => Hprev.out W hB (by omega))
          have eI : IntKind.i64.wrap ((k : Int) - 1) = ((k - 1 : Nat) : Int) := by rw [IntWalk.i64_in _ (by omega)]; omega
          have eJ : (k : Int) - 1 = ((k - 1 : Nat) : Int) := by omega
          have hk1 : ((k - 1 : Nat) : Int) < (l.length : Int) := by omega
          have hltk : k - 1 + 1 < l.length := by omega
          have ek : k - 1 + 1 = k := by omega
          cases hq2 : Kx.lt (l[k - 1]'(by omega)) l[k] with
          | false =>
            have HF := Lib.hid (show Kx.rightsOk l = false by
              unfold Kx.rightsOk
              rw [Bool.and_eq_false_iff, Bool.and_eq_false_iff]
              exact .inl (.inr (ascends_bad l (k - 1) hltk (by simp only [ek]; exact hq2))))
            unfold Kx.lt at hq2
            generalize l[k - 1]'(by omega) = s' at Hp hq2
            generalize l[k] = s at hc Hrv hq2
            clear ek hltk
            go_wp2_with (go_at_call 153; refine Hrv.out.mono ?_; rintro e w2 ⟨rfl, hb2⟩; have Hb2 := Lib.hid hb2; have hp2 := Hp.out w2 hb2; clear hb2)
            go_ret
            exact ⟨ret_bool HF.out.symm, hb.out.trans (Hb2.out.mono hb.out.size)⟩
          | true =>
            have Hk2 := Lib.hid hq2
            unfold Kx.lt at hq2
            generalize l[k - 1]'(by omega) = s' at Hp hq2
            generalize l[k] = s at hc Hrv hq2
            have Hek := Lib.hid ek
            clear ek
            go_wp2_with (go_at_call 153; refine Hrv.out.mono ?_; rintro e w2 ⟨rfl, hb2⟩; have Hb2 := Lib.hid hb2; have hp2 := Hp.out w2 hb2; clear hb2)
            go_roundw
            case rel =>
              refine ⟨k + 1, by go_num, by omega, ?_, ?_, hb.out.trans (Hb2.out.mono hb.out.size)⟩
              · show ∀ j (hj : j < l.length), j < k + 1 → _
                intro j hj hjk
                by_cases e : j = k
                · subst e; exact Hk.out
                · exact hall.out j hj (by omega)
              · show ∀ j (hj : j + 1 < l.length), j + 1 < k + 1 → _
                intro j hj hjk
                by_cases e : j = k - 1
                · subst e
                  have e2 := Hek.out
                  simp only [e2]; exact Hk2.out
                · exact hasc.out j hj (by omega)
            case measure => simp [intOf]; omega
    · have HT := Lib.hid (show Kx.rightsOk l = decide (l.length ≤ 6) by
        unfold Kx.rightsOk
        have h1 : l.all Kx.rightOk = true := by
          rw [List.all_eq_true]
          intro s hs
          obtain ⟨j, hj, rfl⟩ := List.getElem_of_mem hs
          exact hall.out j hj (by omega)
        rw [h1, ascends_step l k hasc.out (by omega)]; simp)
      go_wp2_with fail
      go_ret
      refine ⟨ret_bool ?_, hb.out⟩
      rw [HT.out]
      exact Bool.eq_iff_iff.2 (by simp; omega)
end Go.Proofs.YtfnpjdgjceiklaaGreatDoor
