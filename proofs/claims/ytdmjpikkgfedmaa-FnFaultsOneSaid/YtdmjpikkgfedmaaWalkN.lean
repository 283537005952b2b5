/- Contracts: spec.l33Next, l33Latest, FaultsBest. -/
import Derived.Test.YtdmjpikkgfedmaaWalkO
import Derived.IntWalk
namespace Go.Proofs.Ytdmjpikkgfedmaa
open Go.RowKit

/-- where a page is used next behind place k -/
def nextUse (xs : List Int) (k : Nat) (p : Int) : Nat := k + 1 + (xs.drop (k + 1)).idxOf p

theorem idxOf_hit {l : List Int} {p : Int} {j : Nat} (hj : j < l.length) (h : l[j] = p) (hn : p ∉ l.take j) : l.idxOf p = j := by
  have := idx_hit hj h hn
  rw [idx, if_pos (h ▸ List.getElem_mem hj)] at this
  omega

set_option maxHeartbeats 400000 in
theorem l33Next_c (xs : List Int) (k : Nat) (hk : k < xs.length) (p : Int) (v : Value) (w : World) (h : RI w v xs) :
    Calls Try.prog 44 #[v, .int .i64 k, .int .i64 p] w fun e w' => e = .returned (.int .i64 (nextUse xs k p : Nat)) ∧ w = w' := by
  obtain ⟨a, cap, rfl⟩ := h.val
  have hl := h.1
  have H := Lib.hid h; clear h
  have hkI : (k : Int) + 1 ≤ (xs.length : Int) := by omega
  go_enter Try.func44, Try.ntmps44
  go_wp2_with fail
  go_loop [7] (fun i => ∃ j : Nat, i = .int .i64 j ∧ k + 1 ≤ j ∧ j ≤ xs.length ∧ Hid (p ∉ (xs.drop (k + 1)).take (j - (k + 1)))) (fun i => xs.length - (intOf i).toNat)
  case atStart => exact ⟨k + 1, by go_num, Nat.le_refl _, hk, by simp [Hid]⟩
  case round =>
    obtain ⟨j, rfl, hkj, hj, hn⟩ := hrel
    by_cases hlt : j < xs.length
    · obtain ⟨b, off, cap', e, _, hc⟩ := H.out.at hlt
      simp only [Value.slice.injEq] at e
      obtain ⟨rfl, _, rfl⟩ := e
      have hlI : (j : Int) < (xs.length : Int) := by omega
      have hdl : j - (k + 1) < (xs.drop (k + 1)).length := by rw [List.length_drop]; omega
      have hge : (xs.drop (k + 1))[j - (k + 1)] = xs[j] := by rw [List.getElem_drop]; congr 1; omega
      have hit : Hid (xs[j] = p → j = nextUse xs k p) := fun h => by
        have := idxOf_hit hdl (hge.trans h) hn.out
        rw [nextUse, this]; omega
      have miss : Hid (xs[j] ≠ p → p ∉ (xs.drop (k + 1)).take (j + 1 - (k + 1))) := fun h => by
        rw [show j + 1 - (k + 1) = (j - (k + 1)) + 1 by omega, List.take_succ_eq_append_getElem hdl, hge]
        simp only [List.mem_append, List.mem_singleton, not_or]
        exact ⟨hn.out, fun e => h e.symm⟩
      clear hdl hge
      generalize xs[j] = x at hc hit miss
      by_cases hx : x = p
      · have Hit := Lib.hid (hit.out hx)
        have hb : (x == p) = true := by simpa using hx
        have hb' : (p == x) = true := by simpa using hx.symm
        have Hx := Lib.hid hx
        clear hit miss hx
        go_wp2_with fail
        go_ret
        exact ⟨ret_int (congrArg Int.ofNat Hit.out), rfl⟩
      · have Miss := Lib.hid (miss.out hx)
        have hb : (x == p) = false := by simpa using hx
        have hb' : (p == x) = false := by simpa using (fun e : p = x => hx e.symm)
        clear hit miss hx
        go_wp2_with fail
        go_round
        case rel => exact ⟨j + 1, by go_num, by omega, by omega, Miss.out⟩
        case measure => simp [intOf]; omega
    · have hje : j = xs.length := by omega
      have hres : Hid (xs.length = nextUse xs k p) := by
        have := hn.out
        rw [hje, List.take_of_length_le (by rw [List.length_drop]; omega)] at this
        show xs.length = _
        rw [nextUse, List.idxOf_eq_length this, List.length_drop]; omega
      clear hje
      go_wp2_with fail
      go_ret
      exact ⟨ret_int (congrArg Int.ofNat hres.out), rfl⟩

set_option maxHeartbeats 1000000 in
set_option maxRecDepth 100000 in
theorem l33Latest_c (xs : List Int) (k : Nat) (hk : k < xs.length) (kept : List Int) (hne : kept ≠ []) (hkl : kept.length ≤ 100) (v u : Value) (w : World) (h : RI w v xs) (hu : RI w u kept) :
    Calls Try.prog 35 #[v, .int .i64 k, u] w fun e w' => e = .returned (.int .i64 (Xp.argk (nextUse xs k) kept : Nat)) ∧ ∃ m, w' = w.drewN m := by
  obtain ⟨a, cap, rfl⟩ := h.val
  obtain ⟨au, cu, rfl⟩ := hu.val
  have hl := h.1
  have H := Lib.hid h; clear h
  have U := Lib.hid hu; clear hu
  have hpos : 0 < kept.length := List.length_pos_iff.2 hne
  have hcall := Lib.hid (fun (p : Int) (wz : World) (hz : RI wz (.slice a xs.length cap) xs) => (l33Next_c xs k hk p _ wz hz).mono (R' := fun e w' => e = .returned (.int .i64 (nextUse xs k p : Nat)) ∧ w' = wz) (fun e w' ⟨h1, h2⟩ => ⟨h1, h2.symm⟩))
  clear hne
  go_enter Try.func35, Try.ntmps35
  go_wp2_with fail
  go_loopw [7, 8] (fun bv i wr => ∃ (j b m : Nat), i = .int .i64 j ∧ 1 ≤ j ∧ j ≤ kept.length ∧ bv = .int .i64 b ∧ b < j ∧ Hid (Xp.IsArg (nextUse xs k) (kept.take j) b) ∧ Hid (wr = w.drewN m)) (fun _ i _ => kept.length - (intOf i).toNat)
  case atStart => exact ⟨1, 0, 0, rfl, Nat.le_refl _, hpos, rfl, by omega, Xp.IsArg.one hpos, rfl⟩
  case round =>
    obtain ⟨j, b, m, rfl, hj1, hj, rfl, hbj, harg, hw⟩ := hrel
    rename World => wr
    by_cases hlt : j < kept.length
    · have hlI : (j : Int) < (kept.length : Int) := by omega
      have hbl : b < kept.length := by omega
      have hbI : (b : Int) < (kept.length : Int) := by omega
      have HR : Hid (RI wr (.slice a xs.length cap) xs) := by rw [hw.out]; exact H.out
      have UR : Hid (RI wr (.slice au kept.length cu) kept) := by rw [hw.out]; exact U.out
      obtain ⟨b2, off2, cap2, e, _, hc⟩ := UR.out.at hlt
      simp only [Value.slice.injEq] at e
      obtain ⟨rfl, _, rfl⟩ := e
      obtain ⟨b3, off3, cap3, e, _, hc3⟩ := UR.out.at hbl
      simp only [Value.slice.injEq, Option.some.injEq, Addr.mk.injEq, and_true] at e
      obtain ⟨⟨rfl, rfl⟩, _, rfl⟩ := e
      have hst := Lib.hid (harg.out.step hlt hbl)
      obtain ⟨x, hx⟩ : ∃ x, kept[j] = x := ⟨_, rfl⟩
      obtain ⟨y, hy⟩ : ∃ y, kept[b] = y := ⟨_, rfl⟩
      rw [hx] at hc hst; rw [hy] at hc3 hst
      clear hx hy
      have hcx := Lib.hid (fun n => hcall.out x (wr.drewN n) HR.out)
      have hcy := Lib.hid (fun n => hcall.out y (wr.drewN n) HR.out)
      obtain ⟨n1, hn1⟩ : ∃ n1, nextUse xs k x = n1 := ⟨_, rfl⟩
      obtain ⟨n2, hn2⟩ : ∃ n2, nextUse xs k y = n2 := ⟨_, rfl⟩
      rw [hn1] at hcx hst; rw [hn2] at hcy hst
      clear hn1 hn2
      by_cases hgt : n2 < n1
      · have Hst := Lib.hid (show Xp.IsArg (nextUse xs k) (kept.take (j + 1)) j by have := hst.out; rwa [if_pos hgt] at this)
        have hgI : decide ((n2 : Int) < (n1 : Int)) = true := by simpa using hgt
        have hgI2 : (n2 : Int) < (n1 : Int) := by omega
        clear hst hgt
        go_wp2_with fail
        go_quiet (first | with_reducible exact Calls.quiet_of_same (hcx.out _) | with_reducible exact Calls.quiet_of_same (hcy.out _))
        go_wp2_with fail
        go_roundw
        case rel => exact ⟨j + 1, j, m + nq, by go_num, by omega, by omega, rfl, by omega, Hst.out, by show _ = _; rw [hw.out, World.drewN_drewN]⟩
        case measure => simp [intOf]; omega
      · have Hst := Lib.hid (show Xp.IsArg (nextUse xs k) (kept.take (j + 1)) b by have := hst.out; rwa [if_neg hgt] at this)
        have hgI : decide ((n2 : Int) < (n1 : Int)) = false := by simpa using hgt
        have hgI2 : ¬ (n2 : Int) < (n1 : Int) := by omega
        clear hst hgt
        go_wp2_with fail
        go_quiet (first | with_reducible exact Calls.quiet_of_same (hcx.out _) | with_reducible exact Calls.quiet_of_same (hcy.out _))
        go_wp2_with fail
        go_roundw
        case rel => exact ⟨j + 1, b, m + nq, by go_num, by omega, by omega, rfl, by omega, Hst.out, by show _ = _; rw [hw.out, World.drewN_drewN]⟩
        case measure => simp [intOf]; omega
    · have hje : j = kept.length := by omega
      have hres : Hid (b = Xp.argk (nextUse xs k) kept) := by
        have := harg.out; rw [hje, List.take_length] at this; exact this.eq
      clear hje
      go_wp2_with fail
      go_ret
      exact ⟨ret_int (congrArg Int.ofNat hres.out), m, hw.out⟩

theorem argk_congr {g g' : Int → Nat} {l : List Int} (h : l ≠ []) (e : ∀ x, x ∈ l → ∀ y, y ∈ l → (g x ≤ g y ↔ g' x ≤ g' y)) : Xp.argk g l = Xp.argk g' l :=
  ((Xp.argk_is g h).congr e).eq
/-- the page that spec takes is the page that impl takes -/
theorem latest_eq {xs kept : List Int} {k : Nat} (hk : k < xs.length) (hne : kept ≠ []) (hn : xs[k] ∉ kept) : Xp.argk (nextUse xs k) kept = Xp.goesBest kept (xs.drop k) := by
  refine argk_congr hne fun x hx y hy => ?_
  have hx2 : xs[k] ≠ x := fun e => hn (e ▸ hx)
  have hy2 : xs[k] ≠ y := fun e => hn (e ▸ hy)
  rw [List.drop_eq_getElem_cons hk, List.idxOf_cons, List.idxOf_cons, beq_eq_false_iff_ne.2 hx2, beq_eq_false_iff_ne.2 hy2, cond_false, cond_false]
  unfold nextUse
  omega

set_option maxHeartbeats 4000000 in
set_option maxRecDepth 100000 in
theorem specFaultsBest_c (xs : List Int) (f : Int) (v : Value) (w : World) (h : RI w v xs) : Calls Try.prog 20 #[v, .int .i64 f] w fun e w' => e = .returned (.int .i64 (faultsBest xs f)) ∧ Below w.heap.size w w' := by
  obtain ⟨a, cap, rfl⟩ := h.val
  have hl := h.1
  have H := Lib.hid h; clear h
  cases ht : (traceOk xs && inR f 1 12)
  · have hr : faultsBest xs f = -1 := by simp only [faultsBest, faultsR, ht]; rfl
    rw [hr]
    have Ht := Lib.hid ht; clear ht hr
    go_enter Try.func20, Try.ntmps20
    go_wp2_with (go_at_call 28; refine (l33Ok_c xs f _ _ H.out).mono ?_; rintro e _ ⟨rfl, rfl⟩; rw [Ht.out])
    go_ret
    exact ⟨rfl, Below.refl _ _⟩
  · have hf : inR f 1 12 = true := by simp only [Bool.and_eq_true] at ht; exact ht.2
    have htr : traceOk xs = true := by simp only [Bool.and_eq_true] at ht; exact ht.1
    have hle : xs.length ≤ 24 := by simp only [traceOk, Bool.and_eq_true, decide_eq_true_eq] at htr; exact htr.2
    obtain ⟨hf1, hf2⟩ := inR_true.1 hf
    obtain ⟨n, rfl⟩ := Int.eq_ofNat_of_zero_le (show 0 ≤ f by omega)
    obtain ⟨total, htot⟩ : ∃ z, Xp.runP n (fun h _ => h) Xp.goesBest xs [] = z := ⟨_, rfl⟩
    have hr : faultsBest xs n = (total : Nat) := by simp only [faultsBest, faultsR, ht]; rw [← htot]; rfl
    rw [hr]
    have Htot := Lib.hid htot
    have Ht := Lib.hid ht; clear ht hr hf htot htr
    go_enter Try.func20, Try.ntmps20
    go_wp2_with fail
    refine (l33Ok_c xs n _ _ H.out).mono ?_; rintro e _ ⟨rfl, rfl⟩; rw [Ht.out]
    go_wp2_with fail
    go_loopw [5, 6, 7] (fun hv cv i wr => ∃ (k c : Nat) (kept : List Int), i = .int .i64 k ∧ k ≤ xs.length ∧ cv = .int .i64 c ∧ c ≤ k ∧ kept.length ≤ n ∧ Hid (RI wr hv kept) ∧ Hid (CapOk hv) ∧ Hid (Below w.heap.size w wr) ∧
      Hid (c + Xp.runP n (fun h _ => h) Xp.goesBest (xs.drop k) kept = total)) (fun _ _ i _ => xs.length - (intOf i).toNat)
    case atStart => exact ⟨0, 0, [], rfl, Nat.zero_le _, rfl, Nat.le_refl _, Nat.zero_le _, (OI.lit0 (Nat.le_refl _)).ri, (OI.lit0 (Nat.le_refl _)).capOk, (Below.refl _ _).alloc (Nat.le_refl _) _, by show _ = _; rw [Nat.zero_add, List.drop_zero]; exact Htot.out⟩
    case round =>
      obtain ⟨k, c, kept, rfl, hk, rfl, hck, hhl, ho, hco, hb, hcnt⟩ := hrel
      rename World => wo
      by_cases hlt : k < xs.length
      · have hlI : (k : Int) < (xs.length : Int) := by omega
        obtain ⟨b0, off0, cp, e, hbw, hc⟩ := (H.out.below hb.out).at hlt
        have hb0 : b0 < w.heap.size := by
          obtain ⟨b1, off1, cp1, e1, hb1, _⟩ := H.out.at hlt
          simp only [Value.slice.injEq] at e e1
          have := e.1.symm.trans e1.1
          simp only [Option.some.injEq, Addr.mk.injEq] at this
          omega
        simp only [Value.slice.injEq] at e
        obtain ⟨rfl, _, rfl⟩ := e
        obtain ⟨t, hdt⟩ : ∃ t, xs.drop (k + 1) = t := ⟨_, rfl⟩
        have hdk : xs.drop k = xs[k] :: t := by rw [List.drop_eq_getElem_cons hlt, hdt]
        have hlat : Hid (kept ≠ [] → xs[k] ∉ kept → Xp.argk (nextUse xs k) kept = Xp.goesBest kept (xs.drop k)) := fun h1 h2 => latest_eq hlt h1 h2
        obtain ⟨p, hp⟩ : ∃ p, xs[k] = p := ⟨_, rfl⟩
        rw [hp] at hc hdk hlat
        rw [hdk] at hlat
        have Hdt := Lib.hid hdt; have Hdk := Lib.hid hdk
        obtain ⟨ah, ch, rfl⟩ := ho.out.val
        clear hp hdt hdk
        have hsz := Lib.hid hb.out.size
        have hcs : Hid (∀ wz, Below w.heap.size w wz → wz.cell? ⟨b0, off0 + k, none⟩ = some (.int .i64 p)) := fun wz hz => (hz.cell (p := ⟨b0, off0 + k, none⟩) hb0).trans ((hb.out.cell (p := ⟨b0, off0 + k, none⟩) hb0).symm.trans hc)
        clear hb0
        by_cases hm : p ∈ kept
        · have hidx : idx kept p = (kept.idxOf p : Nat) := by rw [idx, if_pos hm]
          have hcn : Hid (c + Xp.runP n (fun h _ => h) Xp.goesBest t kept = total) := by
            have := hcnt.out; rw [Hdk.out, runP_hit hm] at this; exact this
          have Hidx := Lib.hid hidx
          obtain ⟨q, hq⟩ : ∃ q, kept.idxOf p = q := ⟨_, rfl⟩
          rw [hq] at Hidx
          clear hm hidx hq hcnt hlat
          go_wp2_with fail
          refine (l33Find_c kept p _ _ ho.out).mono ?_; rintro e _ ⟨rfl, rfl⟩; rw [Hidx.out]
          go_wp2_with fail
          go_roundw
          case rel => exact ⟨k + 1, c, kept, by go_num, by omega, rfl, by omega, hhl, ho.out, hco.out, hb.out, by show _ = _; rw [Hdt.out]; exact hcn.out⟩
          case measure => simp [intOf]; omega
        · have hidx : idx kept p = -1 := idx_none hm
          have Hidx := Lib.hid hidx
          by_cases hn : kept.length = n
          · have hnb : ((kept.length : Int) == (n : Int)) = true := by rw [beq_iff_eq]; omega
            have hne : kept ≠ [] := by rintro rfl; simp at hn; omega
            have hLat := Lib.hid (l33Latest_c xs k hlt kept hne (by omega) _ _ wo (H.out.below hb.out) ho.out)
            have hjl := Xp.argk_lt (nextUse xs k) hne
            rw [hlat.out hne hm] at hLat hjl
            obtain ⟨j, hj⟩ : ∃ j, Xp.goesBest kept (p :: t) = j := ⟨_, rfl⟩
            rw [hj] at hLat hjl
            obtain ⟨kl, hkle⟩ : ∃ kl, kept.eraseIdx j = kl := ⟨_, rfl⟩
            have hcn : Hid (c + 1 + Xp.runP n (fun h _ => h) Xp.goesBest t (kl ++ [p]) = total) := by
              have := hcnt.out; rw [Hdk.out, runP_full hm hn, hj, hkle] at this; show _ = _; omega
            have hkm : Hid (kl.length + 1 ≤ n) := by
              show _ ≤ _; rw [← hkle, List.length_eraseIdx_of_lt hjl]; omega
            have hkl0 : kept.take j ++ kept.drop (j + 1) = kl := by rw [← hkle, List.eraseIdx_eq_take_drop_succ]
            have Hkl0 := Lib.hid hkl0
            have hjI : (j : Int) < (kept.length : Int) := by omega
            have hjI2 : (j : Int) + 1 ≤ (kept.length : Int) := by omega
            have hj100 : (j : Int) < 100 := by omega
            obtain ⟨hkc, hkmx⟩ := hco.out _ _ _ rfl
            have hjc : j ≤ ch := by omega
            have hjc1 : j + 1 ≤ ch := by omega
            obtain ⟨bh, offh, cph, e, _, _⟩ := ho.out.at hjl
            simp only [Value.slice.injEq] at e
            obtain ⟨rfl, _, rfl⟩ := e
            clear hm hidx hn hne hkle hkl0 hcnt hlat hj
            go_wp2_with fail
            refine (l33Find_c kept p _ _ ho.out).mono ?_; rintro e _ ⟨rfl, rfl⟩; rw [Hidx.out]
            go_wp2_with fail
            refine hLat.out.mono ?_; rintro e wy ⟨rfl, my, hwy⟩
            have BYw : Hid (Below w.heap.size w wy) := by rw [hwy]; exact below_drewN hb.out _
            have KY : Hid (RI wy (.slice (some ⟨bh, offh, none⟩) kept.length ch) kept) := by rw [hwy]; exact ho.out
            clear hwy
            have hA : ∃ A : Addr, (if ch = j + 1 then some (⟨bh, offh, none⟩ : Addr) else some ⟨bh, offh + (j + 1), none⟩) = some A ∧ Hid (RI wy (.slice (some A) (kept.length - (j + 1)) (ch - (j + 1))) (kept.drop (j + 1))) := by
              by_cases hc1 : j + 1 < kept.length
              · exact ⟨_, if_neg (by omega), KY.out.drop (j + 1) hc1⟩
              · have e0 : kept.drop (j + 1) = [] := List.drop_eq_nil_of_le (by omega)
                have e1 : kept.length - (j + 1) = 0 := by omega
                rw [e0, e1]
                by_cases hc2 : ch = j + 1
                · exact ⟨_, if_pos hc2, by simp, .inl ⟨rfl, _, _, rfl, fun h => by cases h⟩⟩
                · exact ⟨_, if_neg hc2, by simp, .inl ⟨rfl, _, _, rfl, fun h => by cases h⟩⟩
            obtain ⟨A, hA, hRA⟩ := hA
            have c1 : Below wy.heap.size wy (wy.alloc (.cells #[] 3)) := (Below.refl _ _).alloc (Nat.le_refl _) _
            have M1 : Hid (OI (wy.alloc (.cells #[] 3)).drew wy.heap.size (.slice (some ⟨wy.heap.size, 0, none⟩) 0 0) []) := (OI.lit0 (Nat.le_refl _)).drew
            have N1 := Lib.hid ((KY.out.take j (by omega)).below c1).drew
            have C1 := Lib.hid (below_drew c1)
            have hq1 := Lib.hid (show ([] : List Int).length + (kept.take j).length ≤ 1099511627776 by rw [List.length_take]; simp; omega)
            have hq2 := Lib.hid (show (kept.take j).length + (kept.drop (j + 1)).length ≤ 1099511627776 by rw [List.length_take, List.length_drop]; omega)
            have hj0 : (0 : Int) ≤ (j : Int) := by omega
            have hj01 : (0 : Int) ≤ (j : Int) + 1 := by omega
            have hjcI : (j : Int) ≤ (ch : Int) := by omega
            have hw1 : IntKind.i64.wrap ((j : Int) + 1) = (j : Int) + 1 := IntWalk.i64_in _ (by omega)
            have hn1 : ((j : Int) + 1).toNat = j + 1 := by omega
            clear c1
            go_wp2_with fail
            go_region_held3 (fun _ => True)
              (trivial)
              (first
                | (refine step_appR rfl _ _ rfl wy.heap.size _ [] rfl M1.out _ (kept.take j) rfl N1.out hq1.out C1.out.size ?_; intro v1 w1 ho1 hg1 _; rw [List.nil_append] at ho1; have hB1 := Below.app C1.out M1.out hg1 (Nat.le_refl _) C1.out.size; have hr1 := hRA.out.below hB1)
                | (refine step_appR rfl _ _ rfl wy.heap.size _ (kept.take j) rfl ho1 _ (kept.drop (j + 1)) rfl hr1 hq2.out hB1.size ?_; intro v2 w2 ho2 hg2 _; have hB2 := Below.app hB1 ho1 hg2 (Nat.le_refl _) hB1.size))
            rw [Hkl0.out] at ho2
            have KR := Lib.hid ho2.ri
            have BB := Lib.hid (BYw.out.trans (hB2.mono BYw.out.size))
            have BW := BB
            clear ho1 hg1 hB1 hr1 hg2 hB2 ho2 hw1 hn1 hA hRA M1 N1 C1 KY
            obtain ⟨a2, c2, rfl⟩ := KR.out.val
            have b1 : Below w2.heap.size w2 (w2.alloc (.cells #[] 3)) := (Below.refl _ _).alloc (Nat.le_refl _) _
            have b2 : Below w2.heap.size w2 ((w2.alloc (.cells #[] 3)).alloc (.cells #[.int .i64 p] 3)) := b1.alloc (by simp) _
            have b3a : Below w2.heap.size w2 (w2.alloc (.cells #[.int .i64 p] 3)) := (Below.refl _ _).alloc (Nat.le_refl _) _
            have b3 : Below w2.heap.size w2 ((w2.alloc (.cells #[.int .i64 p] 3)).alloc (.cells #[] 3)) := b3a.alloc (by simp) _
            have L1 : Hid (OI (w2.alloc (.cells #[] 3)).drew w2.heap.size (.slice (some ⟨w2.heap.size, 0, none⟩) 0 0) []) := (OI.lit0 (Nat.le_refl _)).drew
            have L2 : Hid (OI ((w2.alloc (.cells #[] 3)).alloc (.cells #[.int .i64 p] 3)).drew w2.heap.size (.slice (some ⟨w2.heap.size, 0, none⟩) 0 0) []) := ((OI.lit0 (Nat.le_refl _)).alloc _).drew
            have L3 : Hid (OI ((w2.alloc (.cells #[.int .i64 p] 3)).alloc (.cells #[] 3)).drew w2.heap.size (.slice (some ⟨w2.heap.size + 1, 0, none⟩) 0 0) []) := by
              have := OI.lit0 (w := w2.alloc (.cells #[.int .i64 p] 3)) (base := w2.heap.size) (by simp)
              simp only [alloc_size] at this
              exact this.drew
            have P2 : Hid (RI ((w2.alloc (.cells #[] 3)).alloc (.cells #[.int .i64 p] 3)).drew (.slice (some ⟨w2.heap.size + 1, 0, none⟩) 1 1) [p]) := by
              have := RI.one (w2.alloc (.cells #[] 3)) p
              simp only [alloc_size] at this
              exact this.drew
            have P3 : Hid (RI ((w2.alloc (.cells #[.int .i64 p] 3)).alloc (.cells #[] 3)).drew (.slice (some ⟨w2.heap.size, 0, none⟩) 1 1) [p]) := ((RI.one w2 p).below ((Below.refl _ _).alloc (Nat.le_refl _) _)).drew
            have Q2 : Hid (∀ w1, ((w2.alloc (.cells #[] 3)).alloc (.cells #[.int .i64 p] 3)).drew.grownBy w1 (some w2.heap.size) → RI w1 (.slice (some ⟨w2.heap.size + 1, 0, none⟩) 1 1) [p]) := fun w1 hg => P2.out.far hg (fun a n c e => by
              simp only [Value.slice.injEq, Option.some.injEq] at e
              obtain ⟨rfl, _, _⟩ := e
              simp)
            have Q3 : Hid (∀ w1, ((w2.alloc (.cells #[.int .i64 p] 3)).alloc (.cells #[] 3)).drew.grownBy w1 (some (w2.heap.size + 1)) → RI w1 (.slice (some ⟨w2.heap.size, 0, none⟩) 1 1) [p]) := fun w1 hg => P3.out.far hg (fun a n c e => by
              simp only [Value.slice.injEq, Option.some.injEq] at e
              obtain ⟨rfl, _, _⟩ := e
              simp)
            have R1 := Lib.hid (KR.out.below b1).drew
            have R2 := Lib.hid (KR.out.below b2).drew
            have R3 := Lib.hid (KR.out.below b3).drew
            have B1 := Lib.hid (below_drew b1); have B2 := Lib.hid (below_drew b2); have B3 := Lib.hid (below_drew b3)
            have hcw := hcs.out w2 BW.out
            have hcs2 : Hid (∀ wz, Below w2.heap.size w2 wz → wz.cell? ⟨b0, off0 + k, none⟩ = some (.int .i64 p)) := fun wz hz => (hz.cell (p := ⟨b0, off0 + k, none⟩) (World.block_lt_of_cell? w2 _ hcw)).trans hcw
            have hkl := Lib.hid (show ([] : List Int).length + kl.length ≤ 1099511627776 by have := hkm.out; simp; omega)
            have hkl2 := Lib.hid (show kl.length + [p].length ≤ 1099511627776 by have := hkm.out; simp; omega)
            clear b1 b2 b3 b3a
            go_wp2_with fail
            go_region_held3 (fun wz => wz.cell? ⟨b0, off0 + k, none⟩ = some (.int .i64 p))
              (first | assumption | go_keep)
              (first
                | (refine step_appR rfl _ _ rfl w2.heap.size _ [] rfl L1.out _ kl rfl R1.out hkl.out B1.out.size ?_; intro v1 w1 ho1 hg1 _; rw [List.nil_append] at ho1; have hB1 := Below.app B1.out L1.out hg1 (Nat.le_refl _) B1.out.size; have hc1 := hcs2.out w1 hB1)
                | (refine step_appR rfl _ _ rfl w2.heap.size _ [] rfl L2.out _ kl rfl R2.out hkl.out B2.out.size ?_; intro v1 w1 ho1 hg1 _; rw [List.nil_append] at ho1; have hB1 := Below.app B2.out L2.out hg1 (Nat.le_refl _) B2.out.size; have hr1 := Q2.out w1 hg1; have hc1 := hcs2.out w1 hB1)
                | (refine step_appR rfl _ _ rfl w2.heap.size _ [] rfl L3.out _ kl rfl R3.out hkl.out B3.out.size ?_; intro v1 w1 ho1 hg1 _; rw [List.nil_append] at ho1; have hB1 := Below.app B3.out L3.out hg1 (Nat.le_refl _) B3.out.size; have hr1 := Q3.out w1 hg1; have hc1 := hcs2.out w1 hB1)
                | (refine step_appR rfl _ _ rfl w2.heap.size _ kl rfl ho1 _ [p] rfl hr1 hkl2.out hB1.size ?_; intro v2 w2 ho2 hg2 _; have hB2 := Below.app hB1 ho1 hg2 (Nat.le_refl _) hB1.size; have hc2 := hcs2.out w2 hB2)
                | (refine step_appR rfl _ _ rfl w2.heap.size _ kl rfl (ho1.alloc _) _ [p] rfl (RI.one w1 p) hkl2.out (hB1.alloc hB1.size _).size ?_; intro v2 w2 ho2 hg2 _; have hB2 := Below.app (hB1.alloc hB1.size _) (ho1.alloc _) hg2 (Nat.le_refl _) (hB1.alloc hB1.size _).size; have hc2 := hcs2.out w2 hB2))
            all_goals (
              have Ho2 := Lib.hid ho2
              have B := Lib.hid (BB.out.trans (hB2.mono BB.out.size))
              clear ho2 hg2 hB2 hc2 ho1 hg1 hB1 hc1
              try clear hr1
              go_wp2_with fail
              go_roundw
              case rel => exact ⟨k + 1, c + 1, _, by go_num, by omega, by go_num, by omega, by have := hkm.out; simp; omega, Ho2.out.ri, Ho2.out.capOk, B.out, by show _ = _; rw [Hdt.out]; exact hcn.out⟩
              case measure => simp [intOf]; omega)
          · have hnb : ((kept.length : Int) == (n : Int)) = false := by rw [beq_eq_false_iff_ne]; omega
            obtain ⟨kl, hkle⟩ : ∃ kl, kept = kl := ⟨_, rfl⟩
            subst hkle
            have hcn : Hid (c + 1 + Xp.runP n (fun h _ => h) Xp.goesBest t (kept ++ [p]) = total) := by
              have := hcnt.out; rw [Hdk.out, runP_room hm hn] at this; show _ = _; omega
            have hkm := Lib.hid (show kept.length + 1 ≤ n by omega)
            have KR := ho
            have BB := hb
            have BW := hb
            clear hm hidx hn hcnt hlat
            go_wp2_with fail
            refine (l33Find_c kept p _ _ ho.out).mono ?_; rintro e _ ⟨rfl, rfl⟩; rw [Hidx.out]
            have b1 : Below wo.heap.size wo (wo.alloc (.cells #[] 3)) := (Below.refl _ _).alloc (Nat.le_refl _) _
            have b2 : Below wo.heap.size wo ((wo.alloc (.cells #[] 3)).alloc (.cells #[.int .i64 p] 3)) := b1.alloc (by simp) _
            have b3a : Below wo.heap.size wo (wo.alloc (.cells #[.int .i64 p] 3)) := (Below.refl _ _).alloc (Nat.le_refl _) _
            have b3 : Below wo.heap.size wo ((wo.alloc (.cells #[.int .i64 p] 3)).alloc (.cells #[] 3)) := b3a.alloc (by simp) _
            have L1 : Hid (OI (wo.alloc (.cells #[] 3)).drew wo.heap.size (.slice (some ⟨wo.heap.size, 0, none⟩) 0 0) []) := (OI.lit0 (Nat.le_refl _)).drew
            have L2 : Hid (OI ((wo.alloc (.cells #[] 3)).alloc (.cells #[.int .i64 p] 3)).drew wo.heap.size (.slice (some ⟨wo.heap.size, 0, none⟩) 0 0) []) := ((OI.lit0 (Nat.le_refl _)).alloc _).drew
            have L3 : Hid (OI ((wo.alloc (.cells #[.int .i64 p] 3)).alloc (.cells #[] 3)).drew wo.heap.size (.slice (some ⟨wo.heap.size + 1, 0, none⟩) 0 0) []) := by
              have := OI.lit0 (w := wo.alloc (.cells #[.int .i64 p] 3)) (base := wo.heap.size) (by simp)
              simp only [alloc_size] at this
              exact this.drew
            have P2 : Hid (RI ((wo.alloc (.cells #[] 3)).alloc (.cells #[.int .i64 p] 3)).drew (.slice (some ⟨wo.heap.size + 1, 0, none⟩) 1 1) [p]) := by
              have := RI.one (wo.alloc (.cells #[] 3)) p
              simp only [alloc_size] at this
              exact this.drew
            have P3 : Hid (RI ((wo.alloc (.cells #[.int .i64 p] 3)).alloc (.cells #[] 3)).drew (.slice (some ⟨wo.heap.size, 0, none⟩) 1 1) [p]) := ((RI.one wo p).below ((Below.refl _ _).alloc (Nat.le_refl _) _)).drew
            have Q2 : Hid (∀ w1, ((wo.alloc (.cells #[] 3)).alloc (.cells #[.int .i64 p] 3)).drew.grownBy w1 (some wo.heap.size) → RI w1 (.slice (some ⟨wo.heap.size + 1, 0, none⟩) 1 1) [p]) := fun w1 hg => P2.out.far hg (fun a n c e => by
              simp only [Value.slice.injEq, Option.some.injEq] at e
              obtain ⟨rfl, _, _⟩ := e
              simp)
            have Q3 : Hid (∀ w1, ((wo.alloc (.cells #[.int .i64 p] 3)).alloc (.cells #[] 3)).drew.grownBy w1 (some (wo.heap.size + 1)) → RI w1 (.slice (some ⟨wo.heap.size, 0, none⟩) 1 1) [p]) := fun w1 hg => P3.out.far hg (fun a n c e => by
              simp only [Value.slice.injEq, Option.some.injEq] at e
              obtain ⟨rfl, _, _⟩ := e
              simp)
            have R1 := Lib.hid (KR.out.below b1).drew
            have R2 := Lib.hid (KR.out.below b2).drew
            have R3 := Lib.hid (KR.out.below b3).drew
            have B1 := Lib.hid (below_drew b1); have B2 := Lib.hid (below_drew b2); have B3 := Lib.hid (below_drew b3)
            have hcw := hcs.out wo BW.out
            have hcs2 : Hid (∀ wz, Below wo.heap.size wo wz → wz.cell? ⟨b0, off0 + k, none⟩ = some (.int .i64 p)) := fun wz hz => (hz.cell (p := ⟨b0, off0 + k, none⟩) (World.block_lt_of_cell? wo _ hcw)).trans hcw
            have hkl := Lib.hid (show ([] : List Int).length + kept.length ≤ 1099511627776 by have := hkm.out; simp; omega)
            have hkl2 := Lib.hid (show kept.length + [p].length ≤ 1099511627776 by have := hkm.out; simp; omega)
            clear b1 b2 b3 b3a
            go_wp2_with fail
            go_region_held3 (fun wz => wz.cell? ⟨b0, off0 + k, none⟩ = some (.int .i64 p))
              (first | assumption | go_keep)
              (first
                | (refine step_appR rfl _ _ rfl wo.heap.size _ [] rfl L1.out _ kept rfl R1.out hkl.out B1.out.size ?_; intro v1 w1 ho1 hg1 _; rw [List.nil_append] at ho1; have hB1 := Below.app B1.out L1.out hg1 (Nat.le_refl _) B1.out.size; have hc1 := hcs2.out w1 hB1)
                | (refine step_appR rfl _ _ rfl wo.heap.size _ [] rfl L2.out _ kept rfl R2.out hkl.out B2.out.size ?_; intro v1 w1 ho1 hg1 _; rw [List.nil_append] at ho1; have hB1 := Below.app B2.out L2.out hg1 (Nat.le_refl _) B2.out.size; have hr1 := Q2.out w1 hg1; have hc1 := hcs2.out w1 hB1)
                | (refine step_appR rfl _ _ rfl wo.heap.size _ [] rfl L3.out _ kept rfl R3.out hkl.out B3.out.size ?_; intro v1 w1 ho1 hg1 _; rw [List.nil_append] at ho1; have hB1 := Below.app B3.out L3.out hg1 (Nat.le_refl _) B3.out.size; have hr1 := Q3.out w1 hg1; have hc1 := hcs2.out w1 hB1)
                | (refine step_appR rfl _ _ rfl wo.heap.size _ kept rfl ho1 _ [p] rfl hr1 hkl2.out hB1.size ?_; intro v2 w2 ho2 hg2 _; have hB2 := Below.app hB1 ho1 hg2 (Nat.le_refl _) hB1.size; have hc2 := hcs2.out w2 hB2)
                | (refine step_appR rfl _ _ rfl wo.heap.size _ kept rfl (ho1.alloc _) _ [p] rfl (RI.one w1 p) hkl2.out (hB1.alloc hB1.size _).size ?_; intro v2 w2 ho2 hg2 _; have hB2 := Below.app (hB1.alloc hB1.size _) (ho1.alloc _) hg2 (Nat.le_refl _) (hB1.alloc hB1.size _).size; have hc2 := hcs2.out w2 hB2))
            all_goals (
              have Ho2 := Lib.hid ho2
              have B := Lib.hid (BB.out.trans (hB2.mono BB.out.size))
              clear ho2 hg2 hB2 hc2 ho1 hg1 hB1 hc1
              try clear hr1
              go_wp2_with fail
              go_roundw
              case rel => exact ⟨k + 1, c + 1, _, by go_num, by omega, by go_num, by omega, by have := hkm.out; simp; omega, Ho2.out.ri, Ho2.out.capOk, B.out, by show _ = _; rw [Hdt.out]; exact hcn.out⟩
              case measure => simp [intOf]; omega)
      · have hke : k = xs.length := by omega
        subst hke
        have hcz : Hid (c = total) := by
          have := hcnt.out; rw [List.drop_length] at this; show c = total; simpa [Xp.runP] using this
        clear hcnt
        go_wp2_with fail
        go_ret
        exact ⟨ret_int (congrArg Int.ofNat hcz.out), hb.out⟩
end Go.Proofs.Ytdmjpikkgfedmaa
