/- Contracts: spec.FaultsFirst; the law of the two sides of FaultsLast. -/
import Derived.Test.YtdmjpikkgfedmaaWalkS
import Derived.Test.YtdmjpikkgfedmaaWalkR
namespace Go.Proofs.Ytdmjpikkgfedmaa
open Go.RowKit

theorem OI.drew {w : World} {base : Nat} {v : Value} {xs : List Int} (h : OI w base v xs) : OI w.drew base v xs := ⟨h.1, h.2⟩
theorem RI.drew {w : World} {v : Value} {xs : List Int} (h : RI w v xs) : RI w.drew v xs := h
/-- a slice stays while another block is written -/
theorem RI.far {w w' : World} {v : Value} {xs : List Int} {r : Option Nat} (h : RI w v xs) (hg : w.grownBy w' r) (hv : ∀ a n c, v = .slice (some a) n c → some a.block ≠ r) : RI w' v xs := by
  refine ⟨h.1, ?_⟩
  rcases h.2 with ⟨rfl, a, cap, rfl, hn⟩ | ⟨b, off, cap, rfl, hlt, hc⟩
  · exact .inl ⟨rfl, a, cap, rfl, hn⟩
  · exact .inr ⟨b, off, cap, rfl, Nat.lt_of_lt_of_le hlt hg.size, fun i hi => (World.cell?_of_block (hg.block b hlt (hv _ _ _ rfl))).trans (hc i hi)⟩
/-- a slice literal of one number -/
theorem RI.one (w : World) (x : Int) : RI (w.alloc (.cells #[.int .i64 x] 3)) (.slice (some ⟨w.heap.size, 0, none⟩) 1 1) [x] := by
  refine ⟨by simp, .inr ⟨w.heap.size, 0, 1, rfl, by simp, fun i hi => ?_⟩⟩
  have : i = 0 := by simp at hi; omega
  subst this; simp
theorem cell_far {w w' : World} {base : Nat} {v : Value} {xs : List Int} {p : Addr} (ho : OI w base v xs) (hg : w.grownBy w' v.ownBlock) (hp : p.block < base) (hb : base ≤ w.heap.size) : w'.cell? p = w.cell? p :=
  World.cell?_of_block (hg.block p.block (by omega) (fun e => by have := (ho.lt _ e.symm).1; omega))
theorem alloc_size (w : World) (o : Obj) : (w.alloc o).heap.size = w.heap.size + 1 := by simp
theorem below_drew {B : Nat} {a w : World} (h : Below B a w) : Below B a w.drew := ⟨h.os, h.tape, h.output, h.size, h.block⟩

/-! ### The two sides of FaultsLast -/
theorem lastCnt_go (xs : List Int) (f : Nat) : ∀ k, k ≤ xs.length → Xp.lastCount f (xs.drop k) (xs.take k).reverse + lastCnt xs f k = Xp.lastCount f xs [] 
  | 0, _ => by simp [lastCnt]
  | k + 1, h => by
    have ih := lastCnt_go xs f k (by omega)
    rw [List.drop_eq_getElem_cons (show k < xs.length by omega)] at ih
    simp only [Xp.lastCount] at ih
    have e : (xs.take (k + 1)).reverse = xs[k] :: (xs.take k).reverse := by rw [List.take_succ_eq_append_getElem (by omega)]; simp
    rw [e]
    have hsp : spanAt xs k = Xp.spanGo xs[k] (xs.take k).reverse [] := by rw [spanAt, List.getElem?_eq_getElem (by omega)]; rfl
    have hf := Xp.span_fault (p := xs[k]) (f := f) (xs.take k).reverse
    rw [← hsp] at hf
    simp only [lastCnt]
    by_cases hm : xs[k] ∈ (Xp.stk (xs.take k).reverse).take f
    · rw [if_pos hm] at ih
      rw [if_neg (hf.1 hm)]; omega
    · rw [if_neg hm] at ih
      rw [if_pos (Decidable.byContradiction fun hc => hm (hf.2 hc))]; omega

theorem faultsLast_eq (xs : List Int) (f : Int) : faultsLast xs f = faultsL xs f := by
  unfold faultsLast faultsR faultsL
  by_cases h : (traceOk xs && inR f 1 12) = true
  · rw [if_pos h, if_pos h]
    obtain ⟨hf1, _⟩ := inR_true.1 (by simp only [Bool.and_eq_true] at h; exact h.2)
    obtain ⟨n, rfl⟩ := Int.eq_ofNat_of_zero_le (show 0 ≤ f by omega)
    have h1 := Xp.lru_run (f := n) (by omega) xs []
    simp only [Xp.stk, List.take_nil, List.reverse_nil] at h1
    have h2 := lastCnt_go xs n xs.length (Nat.le_refl _)
    rw [List.drop_length] at h2
    simp only [Xp.lastCount, Nat.zero_add] at h2
    rw [Int.toNat_natCast, h1, h2]
  · rw [if_neg h, if_neg h]

theorem specFaultsLast2_c (xs : List Int) (f : Int) (v : Value) (w : World) (h : RI w v xs) : Calls Try.prog 17 #[v, .int .i64 f] w fun e w' => e = .returned (.int .i64 (faultsLast xs f)) ∧ Below w.heap.size w w' := by
  rw [faultsLast_eq]; exact specFaultsLast_c xs f v w h

theorem runP_first {f : Nat} {used : List Int → Int → List Int} {p : Int} {t kept : List Int} (hf : 0 < f) (h : p ∉ kept) (hl : kept.length ≤ f) :
    Xp.runP f used (fun _ _ => 0) (p :: t) kept = 1 + Xp.runP f used (fun _ _ => 0) t (if f < kept.length + 1 then (kept ++ [p]).drop 1 else kept ++ [p]) := by
  by_cases hc : kept.length = f
  · rw [runP_full h hc, if_pos (by omega)]
    cases kept with
    | nil => simp at hc; omega
    | cons a l => simp
  · rw [runP_room h hc, if_neg (by omega)]

set_option maxHeartbeats 4000000 in
set_option maxRecDepth 100000 in
theorem specFaultsFirst_c (xs : List Int) (f : Int) (v : Value) (w : World) (h : RI w v xs) : Calls Try.prog 13 #[v, .int .i64 f] w fun e w' => e = .returned (.int .i64 (faultsFirst xs f)) ∧ Below w.heap.size w w' := by
  obtain ⟨a, cap, rfl⟩ := h.val
  have hl := h.1
  have H := Lib.hid h; clear h
  cases ht : (traceOk xs && inR f 1 12)
  · have hr : faultsFirst xs f = -1 := by simp only [faultsFirst, faultsR, ht]; rfl
    rw [hr]
    have Ht := Lib.hid ht; clear ht hr
    go_enter Try.func13, Try.ntmps13
    go_wp2_with (go_at_call 28; refine (l33Ok_c xs f _ _ H.out).mono ?_; rintro e _ ⟨rfl, rfl⟩; rw [Ht.out])
    go_ret
    exact ⟨rfl, Below.refl _ _⟩
  · have hf : inR f 1 12 = true := by simp only [Bool.and_eq_true] at ht; exact ht.2
    have htr : traceOk xs = true := by simp only [Bool.and_eq_true] at ht; exact ht.1
    have hle : xs.length ≤ 24 := by simp only [traceOk, Bool.and_eq_true, decide_eq_true_eq] at htr; exact htr.2
    obtain ⟨hf1, hf2⟩ := inR_true.1 hf
    obtain ⟨n, rfl⟩ := Int.eq_ofNat_of_zero_le (show 0 ≤ f by omega)
    obtain ⟨total, htot⟩ : ∃ z, Xp.runP n (fun h _ => h) (fun _ _ => 0) xs [] = z := ⟨_, rfl⟩
    have hr : faultsFirst xs n = (total : Nat) := by simp only [faultsFirst, faultsR, ht]; rw [← htot]; rfl
    rw [hr]
    have Htot := Lib.hid htot
    have Ht := Lib.hid ht; clear ht hr hf htot htr
    go_enter Try.func13, Try.ntmps13
    go_wp2_with fail
    refine (l33Ok_c xs n _ _ H.out).mono ?_; rintro e _ ⟨rfl, rfl⟩; rw [Ht.out]
    go_wp2_with fail
    go_loopw [5, 6, 7] (fun hv cv i wr => ∃ (k c : Nat) (kept : List Int), i = .int .i64 k ∧ k ≤ xs.length ∧ cv = .int .i64 c ∧ c ≤ k ∧ kept.length ≤ n ∧ Hid (RI wr hv kept) ∧ Hid (CapOk hv) ∧ Hid (Below w.heap.size w wr) ∧
      Hid (c + Xp.runP n (fun h _ => h) (fun _ _ => 0) (xs.drop k) kept = total)) (fun _ _ i _ => xs.length - (intOf i).toNat)
    case atStart => exact ⟨0, 0, [], rfl, Nat.zero_le _, rfl, Nat.le_refl _, Nat.zero_le _, (OI.lit0 (Nat.le_refl _)).ri, (OI.lit0 (Nat.le_refl _)).capOk, (Below.refl _ _).alloc (Nat.le_refl _) _, by show _ = _; rw [Nat.zero_add, List.drop_zero]; exact Htot.out⟩
    case round =>
      obtain ⟨k, c, kept, rfl, hk, rfl, hck, hhl, ho, hco, hb, hcnt⟩ := hrel
      rename World => wo
      by_cases hlt : k < xs.length
      · have hlI : (k : Int) < (xs.length : Int) := by omega
        obtain ⟨b0, off0, cp, e, hbw, hc⟩ := (H.out.below hb.out).at hlt
        have hb0 : b0 < w.heap.size := by
          obtain ⟨b1, off1, cp1, e1, hb1, _⟩ := H.out.at hlt
          simp only [Value.slice.injEq] at e e1
          have := e.1.symm.trans e1.1
          simp only [Option.some.injEq, Addr.mk.injEq] at this
          omega
        simp only [Value.slice.injEq] at e
        obtain ⟨rfl, _, rfl⟩ := e
        obtain ⟨t, hdt⟩ : ∃ t, xs.drop (k + 1) = t := ⟨_, rfl⟩
        have hdk : xs.drop k = xs[k] :: t := by rw [List.drop_eq_getElem_cons hlt, hdt]
        obtain ⟨p, hp⟩ : ∃ p, xs[k] = p := ⟨_, rfl⟩
        rw [hp] at hc hdk
        have Hdt := Lib.hid hdt; have Hdk := Lib.hid hdk
        obtain ⟨ah, ch, rfl⟩ := ho.out.val
        clear hp hdt hdk
        have hsz := Lib.hid hb.out.size
        have Hb0 := Lib.hid hb0; clear hb0
        have hidr := Lib.hid (idx_rng kept p)
        by_cases hm : p ∈ kept
        · have hidx : idx kept p = (kept.idxOf p : Nat) := by rw [idx, if_pos hm]
          have hcn : Hid (c + Xp.runP n (fun h _ => h) (fun _ _ => 0) t kept = total) := by
            have := hcnt.out; rw [Hdk.out, runP_hit hm] at this; exact this
          have Hidx := Lib.hid hidx
          obtain ⟨q, hq⟩ : ∃ q, kept.idxOf p = q := ⟨_, rfl⟩
          rw [hq] at Hidx
          clear hm hidx hq hcnt
          go_wp2_with fail
          refine (l33Find_c kept p _ _ ho.out).mono ?_; rintro e _ ⟨rfl, rfl⟩; rw [Hidx.out]
          go_wp2_with fail
          go_roundw
          case rel => exact ⟨k + 1, c, kept, by go_num, by omega, rfl, by omega, hhl, ho.out, hco.out, hb.out, by show _ = _; rw [Hdt.out]; exact hcn.out⟩
          case measure => simp [intOf]; omega
        · have hidx : idx kept p = -1 := idx_none hm
          have Hidx := Lib.hid hidx
          have hcn : Hid (c + 1 + Xp.runP n (fun h _ => h) (fun _ _ => 0) t (if n < kept.length + 1 then (kept ++ [p]).drop 1 else kept ++ [p]) = total) := by
            have := hcnt.out; rw [Hdk.out, runP_first (by omega) hm hhl] at this; show _ = _; omega
          have hlen1 := Lib.hid (show kept.length + 1 ≤ 100 by omega)
          have b1 : Below wo.heap.size wo (wo.alloc (.cells #[] 3)) := (Below.refl _ _).alloc (Nat.le_refl _) _
          have b2 : Below wo.heap.size wo ((wo.alloc (.cells #[] 3)).alloc (.cells #[.int .i64 p] 3)) := b1.alloc (by simp) _
          have b3a : Below wo.heap.size wo (wo.alloc (.cells #[.int .i64 p] 3)) := (Below.refl _ _).alloc (Nat.le_refl _) _
          have b3 : Below wo.heap.size wo ((wo.alloc (.cells #[.int .i64 p] 3)).alloc (.cells #[] 3)) := b3a.alloc (by simp) _
          have L1 : Hid (OI (wo.alloc (.cells #[] 3)).drew wo.heap.size (.slice (some ⟨wo.heap.size, 0, none⟩) 0 0) []) := (OI.lit0 (Nat.le_refl _)).drew
          have L2 : Hid (OI ((wo.alloc (.cells #[] 3)).alloc (.cells #[.int .i64 p] 3)).drew wo.heap.size (.slice (some ⟨wo.heap.size, 0, none⟩) 0 0) []) := ((OI.lit0 (Nat.le_refl _)).alloc _).drew
          have L3 : Hid (OI ((wo.alloc (.cells #[.int .i64 p] 3)).alloc (.cells #[] 3)).drew wo.heap.size (.slice (some ⟨wo.heap.size + 1, 0, none⟩) 0 0) []) := by
            have := OI.lit0 (w := wo.alloc (.cells #[.int .i64 p] 3)) (base := wo.heap.size) (by simp)
            simp only [alloc_size] at this
            exact this.drew
          have R1 := Lib.hid (ho.out.below b1).drew
          have R2 := Lib.hid (ho.out.below b2).drew
          have R3 := Lib.hid (ho.out.below b3).drew
          have P2 : Hid (RI ((wo.alloc (.cells #[] 3)).alloc (.cells #[.int .i64 p] 3)).drew (.slice (some ⟨wo.heap.size + 1, 0, none⟩) 1 1) [p]) := by
            have := RI.one (wo.alloc (.cells #[] 3)) p
            simp only [alloc_size] at this
            exact this.drew
          have P3 : Hid (RI ((wo.alloc (.cells #[.int .i64 p] 3)).alloc (.cells #[] 3)).drew (.slice (some ⟨wo.heap.size, 0, none⟩) 1 1) [p]) := ((RI.one wo p).below ((Below.refl _ _).alloc (Nat.le_refl _) _)).drew
          have Q2 : Hid (∀ w1, ((wo.alloc (.cells #[] 3)).alloc (.cells #[.int .i64 p] 3)).drew.grownBy w1 (some wo.heap.size) → RI w1 (.slice (some ⟨wo.heap.size + 1, 0, none⟩) 1 1) [p]) := fun w1 hg => P2.out.far hg (fun a n c e => by
            simp only [Value.slice.injEq, Option.some.injEq] at e
            obtain ⟨rfl, _, _⟩ := e
            simp)
          have Q3 : Hid (∀ w1, ((wo.alloc (.cells #[.int .i64 p] 3)).alloc (.cells #[] 3)).drew.grownBy w1 (some (wo.heap.size + 1)) → RI w1 (.slice (some ⟨wo.heap.size, 0, none⟩) 1 1) [p]) := fun w1 hg => P3.out.far hg (fun a n c e => by
            simp only [Value.slice.injEq, Option.some.injEq] at e
            obtain ⟨rfl, _, _⟩ := e
            simp)
          have B1 := Lib.hid (below_drew b1); have B2 := Lib.hid (below_drew b2); have B3 := Lib.hid (below_drew b3)
          have hcs : Hid (∀ wz, Below wo.heap.size wo wz → wz.cell? ⟨b0, off0 + k, none⟩ = some (.int .i64 p)) := fun wz hz => (hz.cell (p := ⟨b0, off0 + k, none⟩) hbw).trans hc
          have hkl := Lib.hid (show ([] : List Int).length + kept.length ≤ 1099511627776 by have := hlen1.out; simp; omega)
          have hkl2 := Lib.hid (show kept.length + [p].length ≤ 1099511627776 by have := hlen1.out; simp; omega)
          clear b1 b2 b3 b3a hcnt hm hidx
          go_wp2_with fail
          refine (l33Find_c kept p _ _ ho.out).mono ?_; rintro e _ ⟨rfl, rfl⟩; rw [Hidx.out]
          go_wp2_with fail
          go_region_held3 (fun wz => wz.cell? ⟨b0, off0 + k, none⟩ = some (.int .i64 p))
            (first | assumption | go_keep)
            (first
              | (refine step_appR rfl _ _ rfl wo.heap.size _ [] rfl L1.out _ kept rfl R1.out hkl.out B1.out.size ?_; intro v1 w1 ho1 hg1 _; rw [List.nil_append] at ho1; have hB1 := Below.app B1.out L1.out hg1 (Nat.le_refl _) B1.out.size; have hc1 := hcs.out w1 hB1)
              | (refine step_appR rfl _ _ rfl wo.heap.size _ [] rfl L2.out _ kept rfl R2.out hkl.out B2.out.size ?_; intro v1 w1 ho1 hg1 _; rw [List.nil_append] at ho1; have hB1 := Below.app B2.out L2.out hg1 (Nat.le_refl _) B2.out.size; have hr1 := Q2.out w1 hg1; have hc1 := hcs.out w1 hB1)
              | (refine step_appR rfl _ _ rfl wo.heap.size _ [] rfl L3.out _ kept rfl R3.out hkl.out B3.out.size ?_; intro v1 w1 ho1 hg1 _; rw [List.nil_append] at ho1; have hB1 := Below.app B3.out L3.out hg1 (Nat.le_refl _) B3.out.size; have hr1 := Q3.out w1 hg1; have hc1 := hcs.out w1 hB1)
              | (refine step_appR rfl _ _ rfl wo.heap.size _ kept rfl ho1 _ [p] rfl hr1 hkl2.out hB1.size ?_; intro v2 w2 ho2 hg2 _; have hB2 := Below.app hB1 ho1 hg2 (Nat.le_refl _) hB1.size; have hc2 := hcs.out w2 hB2)
              | (refine step_appR rfl _ _ rfl wo.heap.size _ kept rfl (ho1.alloc _) _ [p] rfl (RI.one w1 p) hkl2.out (hB1.alloc hB1.size _).size ?_; intro v2 w2 ho2 hg2 _; have hB2 := Below.app (hB1.alloc hB1.size _) (ho1.alloc _) hg2 (Nat.le_refl _) (hB1.alloc hB1.size _).size; have hc2 := hcs.out w2 hB2))
          all_goals (
            have Ho2 := Lib.hid ho2
            have B := Lib.hid (hb.out.trans (hB2.mono hsz.out))
            have Co2 := Lib.hid ho2.capOk
            have hm1 : 0 < (kept ++ [p]).length := by simp
            obtain ⟨g, cg, rfl, _, _, _⟩ := ho2.at hm1
            have hcap := (ho2.capOk _ _ _ rfl)
            obtain ⟨m, hm⟩ : ∃ m, (kept ++ [p]).length = m := ⟨_, rfl⟩
            have hmk : m = kept.length + 1 := by rw [← hm]; simp
            have hm100 : m ≤ 100 := by have := hlen1.out; omega
            rw [hm] at hm1 hcap
            have hlim := hm100
            clear ho2 hg2 hB2 hc2 ho1 hg1 hB1 hc1
            try clear hr1
            by_cases hfull : n < kept.length + 1
            · have hcn2 := Lib.hid (hcn.out.symm.trans (by rw [if_pos hfull])).symm
              have hfI : (n : Int) < (m : Int) := by omega
              have hm2 : 1 < m := by omega
              have hm2I : (1 : Int) ≤ (m : Int) := by omega
              have hcg : 1 < cg := by omega
              have hcg2 : ¬ cg = 1 := by omega
              have hcgI : m ≤ cg := hcap.1
              have hdl := Lib.hid (show ((kept ++ [p]).drop 1).length ≤ n by rw [List.length_drop, hm]; omega)
              have Hr := Lib.hid ((show RI w2 (.slice (some ⟨g, 0, none⟩) m cg) (kept ++ [p]) from by rw [← hm]; exact Ho2.out.ri).drop 1 hm2)
              have Hcc : Hid (CapOk (.slice (some ⟨g, 0 + 1, none⟩) (m - 1) (cg - 1))) := by
                intro a n c e
                simp only [Value.slice.injEq] at e
                obtain ⟨_, rfl, rfl⟩ := e
                omega
              rw [hm]
              clear hm hmk hcn hcap hfull
              go_wp2_with fail
              go_roundw
              case rel => exact ⟨k + 1, c + 1, _, by go_num, by omega, by go_num, by omega, hdl.out, Hr.out, Hcc.out, B.out, by show _ = _; rw [Hdt.out]; exact hcn2.out⟩
              case measure => simp [intOf]; omega
            · have hcn2 := Lib.hid (hcn.out.symm.trans (by rw [if_neg hfull])).symm
              have hfI : ¬ (n : Int) < (m : Int) := by omega
              have hdl := Lib.hid (show (kept ++ [p]).length ≤ n by rw [hm]; omega)
              have Hr := Lib.hid (show RI w2 (.slice (some ⟨g, 0, none⟩) m cg) (kept ++ [p]) from by rw [← hm]; exact Ho2.out.ri)
              have Hcc := Lib.hid (show CapOk (.slice (some ⟨g, 0, none⟩) m cg) from by rw [← hm]; exact Co2.out)
              rw [hm]
              clear hm hmk hcn hcap hfull
              go_wp2_with fail
              go_roundw
              case rel => exact ⟨k + 1, c + 1, _, by go_num, by omega, by go_num, by omega, hdl.out, Hr.out, Hcc.out, B.out, by show _ = _; rw [Hdt.out]; exact hcn2.out⟩
              case measure => simp [intOf]; omega)
      · have hke : k = xs.length := by omega
        subst hke
        have hcz : Hid (c = total) := by
          have := hcnt.out; rw [List.drop_length] at this; show c = total; simpa [Xp.runP] using this
        clear hcnt
        go_wp2_with fail
        go_ret
        exact ⟨ret_int (congrArg Int.ofNat hcz.out), hb.out⟩
end Go.Proofs.Ytdmjpikkgfedmaa
