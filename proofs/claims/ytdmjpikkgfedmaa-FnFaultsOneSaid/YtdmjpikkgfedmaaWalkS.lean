/- Contracts: impl.faults for whatever uses and goes; impl.FaultsFirst, FaultsLast, FaultsBest. -/
import Derived.Test.YtdmjpikkgfedmaaWalkQ
import Derived.Test.YtdmjpikkgfedmaaWalkW
namespace Go.Proofs.Ytdmjpikkgfedmaa
open Go.RowKit

/-- what a run of the pager answers -/
def faultsR (xs : List Int) (f : Int) (used : List Int → Int → List Int) (goes : List Int → List Int → Nat) : Int :=
  if traceOk xs && inR f 1 12 then (Xp.runP f.toNat used goes xs [] : Nat) else -1
theorem runP_hit {f : Nat} {used : List Int → Int → List Int} {goes : List Int → List Int → Nat} {p : Int} {t held : List Int} (h : p ∈ held) : Xp.runP f used goes (p :: t) held = Xp.runP f used goes t (used held p) := by
  rw [Xp.runP, if_pos h]
theorem runP_full {f : Nat} {used : List Int → Int → List Int} {goes : List Int → List Int → Nat} {p : Int} {t held : List Int} (h : p ∉ held) (hl : held.length = f) : Xp.runP f used goes (p :: t) held = 1 + Xp.runP f used goes t (held.eraseIdx (goes held (p :: t)) ++ [p]) := by
  rw [Xp.runP, if_neg h, if_pos hl]
theorem runP_room {f : Nat} {used : List Int → Int → List Int} {goes : List Int → List Int → Nat} {p : Int} {t held : List Int} (h : p ∉ held) (hl : held.length ≠ f) : Xp.runP f used goes (p :: t) held = 1 + Xp.runP f used goes t (held ++ [p]) := by
  rw [Xp.runP, if_neg h, if_neg hl]

set_option maxHeartbeats 2000000 in
set_option maxRecDepth 100000 in
theorem faults_c (xs : List Int) (f : Int) (v : Value) (w : World) (h : RI w v xs) (uf gf : FuncId) (caps : Array Value) (used : List Int → Int → List Int) (goes : List Int → List Int → Nat)
    (hu : UsedC uf used) (hg : GoesC gf caps goes xs w) (hul : ∀ l p, p ∈ l → (used l p).length = l.length) (hgl : ∀ l t, l ≠ [] → goes l t < l.length)
    (eu : ∀ args w, (callFunc uf args).run Try.prog w = .ok (.enter uf args) w) (eg : ∀ args w, (callFunc gf args).run Try.prog w = .ok (.enter gf args) w) :
    Calls Try.prog 25 #[v, .int .i64 f, .func (.func uf) #[] #[], .func (.func gf) #[] caps] w fun e w' => e = .returned (.int .i64 (faultsR xs f used goes)) ∧ Below w.heap.size w w' := by
  obtain ⟨a, cap, rfl⟩ := h.val
  have hl := h.1
  have H := Lib.hid h; clear h
  cases ht : traceOk xs
  · have hr : faultsR xs f used goes = -1 := by simp [faultsR, ht]
    rw [hr]
    have Ht := Lib.hid ht; clear ht hr hu hg hul hgl
    go_enter Try.func25, Try.ntmps25
    go_wp2_with fail
    refine (implTraceOk_c xs _ _ H.out).mono ?_; rintro e w1 ⟨rfl, hb⟩; rw [Ht.out]
    go_wp2_with fail
    go_ret
    exact ⟨rfl, hb⟩
  · cases hf : inR f 1 12
    · have hr : faultsR xs f used goes = -1 := by simp [faultsR, hf]
      rw [hr]
      have Ht := Lib.hid ht; have Hf := Lib.hid hf; clear ht hr hu hg hul hgl hf
      go_enter Try.func25, Try.ntmps25
      go_wp2_with fail
      refine (implTraceOk_c xs _ _ H.out).mono ?_; rintro e w1 ⟨rfl, hb⟩; rw [Ht.out]
      go_wp2_with fail
      refine (within_c _ _ _ _).mono ?_; rintro e _ ⟨rfl, rfl⟩; rw [Hf.out]
      go_wp2_with fail
      go_ret
      exact ⟨rfl, hb⟩
    · obtain ⟨hf1, hf2⟩ := inR_true.1 hf
      obtain ⟨n, rfl⟩ := Int.eq_ofNat_of_zero_le (show 0 ≤ f by omega)
      have hr : faultsR xs n used goes = (Xp.runP n used goes xs [] : Nat) := by simp [faultsR, hf, ht]
      rw [hr]
      have hle : xs.length ≤ 24 := by simp only [traceOk, Bool.and_eq_true, decide_eq_true_eq] at ht; exact ht.2
      obtain ⟨total, htot⟩ : ∃ z, Xp.runP n used goes xs [] = z := ⟨_, rfl⟩
      rw [htot]
      have Htot := Lib.hid htot
      have Hu := Lib.hid hu; have Hg := Lib.hid hg; have Hul := Lib.hid hul; have Hgl := Lib.hid hgl
      have Ht := Lib.hid ht; have Hf := Lib.hid hf; clear ht hr hu hg hul hgl hf htot
      go_enter Try.func25, Try.ntmps25
      go_wp2_with fail
      refine (implTraceOk_c xs _ _ H.out).mono ?_; rintro e w1 ⟨rfl, hb⟩; rw [Ht.out]
      have Hb1 := Lib.hid hb; clear hb
      go_wp2_with fail
      refine (within_c _ _ _ _).mono ?_; rintro e _ ⟨rfl, rfl⟩; rw [Hf.out]
      go_wp2_with fail
      go_loopw [9, 10, 25] (fun cv hv i wr => ∃ (k c : Nat) (held : List Int), i = .int .i64 k ∧ k ≤ xs.length ∧ cv = .int .i64 c ∧ c ≤ k ∧ held.length ≤ n ∧ Hid (OI wr w.heap.size hv held) ∧ Hid (Below w.heap.size w wr) ∧
        Hid (c + Xp.runP n used goes (xs.drop k) held = total)) (fun _ _ i _ => xs.length - (intOf i).toNat)
      case atStart => exact ⟨0, 0, [], rfl, Nat.zero_le _, rfl, Nat.le_refl _, Nat.zero_le _, OI.nil _ _, Hb1.out, by show _ = _; rw [Nat.zero_add, List.drop_zero]; exact Htot.out⟩
      case round =>
        obtain ⟨k, c, held, rfl, hk, rfl, hck, hhl, ho, hb, hcnt⟩ := hrel
        rename World => wo
        by_cases hlt : k < xs.length
        · have hlI : (k : Int) < (xs.length : Int) := by omega
          obtain ⟨b0, off0, cp, e, _, hc⟩ := (H.out.below hb.out).at hlt
          simp only [Value.slice.injEq] at e
          obtain ⟨rfl, _, rfl⟩ := e
          obtain ⟨t, hdt⟩ : ∃ t, xs.drop (k + 1) = t := ⟨_, rfl⟩
          have hdk : xs.drop k = xs[k] :: t := by rw [List.drop_eq_getElem_cons hlt, hdt]
          obtain ⟨p, hp⟩ : ∃ p, xs[k] = p := ⟨_, rfl⟩
          rw [hp] at hc hdk
          have Hdt := Lib.hid hdt; have Hdk := Lib.hid hdk
          obtain ⟨ah, ch, rfl⟩ := ho.out.ri.val
          clear hp hdt hdk
          have hsz := Lib.hid hb.out.size
          by_cases hm : p ∈ held
          · have hidx : idx held p = (held.idxOf p : Nat) := by rw [idx, if_pos hm]
            have hcn : Hid (c + Xp.runP n used goes t (used held p) = total) := by
              have := hcnt.out; rw [Hdk.out, runP_hit hm] at this; exact this
            have hul2 : (used held p).length ≤ n := by rw [Hul.out held p hm]; exact hhl
            have Hul2 := Lib.hid hul2
            have Hidx := Lib.hid hidx
            have hcall := Lib.hid (Hu.out held p w.heap.size _ wo hm ho.out hsz.out (by omega))
            obtain ⟨q, hq⟩ : ∃ q, held.idxOf p = q := ⟨_, rfl⟩
            rw [hq] at Hidx hcall
            clear hm hidx hul2 hq hcnt
            go_wp2_with fail
            refine (Index_c held p _ _ ho.out.ri).mono ?_; rintro e _ ⟨rfl, rfl⟩; rw [Hidx.out]
            go_wp2_with fail
            refine hcall.out.mono ?_; rintro e w2 ⟨v2, rfl, ho2, hb2⟩
            have O2 := Lib.hid ho2; have B2 := Lib.hid (hb.out.trans (hb2.mono (Nat.le_refl _))); clear ho2 hb2
            go_wp2_with fail
            go_roundw
            case rel => exact ⟨k + 1, c, _, by go_num, by omega, rfl, by omega, Hul2.out, O2.out, B2.out, by show _ = _; rw [Hdt.out]; exact hcn.out⟩
            case measure => simp [intOf]; omega
          · have hidx : idx held p = -1 := idx_none hm
            have Hidx := Lib.hid hidx
            by_cases hn : held.length = n
            · have hnb : ((held.length : Int) == (n : Int)) = true := by rw [beq_iff_eq]; omega
              have hne : held ≠ [] := by rintro rfl; simp at hn; omega
              have hgo := Hgl.out held (p :: t) hne
              obtain ⟨j, hj⟩ : ∃ j, goes held (p :: t) = j := ⟨_, rfl⟩
              have hcn : Hid (c + 1 + Xp.runP n used goes t (held.eraseIdx j ++ [p]) = total) := by
                have := hcnt.out; rw [Hdk.out, runP_full hm hn, hj] at this; show _ = _; omega
              have hcall := Lib.hid (Hg.out held k _ wo hne hlt ho.out.ri hb.out)
              rw [Hdk.out, hj] at hcall
              rw [hj] at hgo
              have hdel := Lib.hid (Delete_c held j hgo w.heap.size _ wo ho.out)
              have hel : (held.eraseIdx j).length + 1 = n := by rw [List.length_eraseIdx_of_lt hgo]; omega
              have Hel := Lib.hid hel
              have Hn := Lib.hid hn
              have hlt2 := Lib.hid ho.out.lt
              have hgI : (j : Int) < 100 := by omega
              clear hm hidx hne hj hcnt hel hgo hn
              go_wp2_with fail
              refine (Index_c held p _ _ ho.out.ri).mono ?_; rintro e _ ⟨rfl, rfl⟩; rw [Hidx.out]
              go_wp2_with fail
              refine hcall.out.mono ?_; rintro e _ ⟨rfl, rfl⟩
              go_wp2_with fail
              refine hdel.out.mono ?_; rintro e w2 ⟨v2, rfl, ho2, hg2, _⟩
              have O2 := Lib.hid ho2
              have B2 := Lib.hid (hb.out.grown hg2 hsz.out (fun x hx => (hlt2.out x hx).1)); clear ho2 hg2
              go_wp2_with (at_builtin; refine wpList_app rfl _ _ rfl w.heap.size _ (held.eraseIdx j) rfl (O2.out.alloc _) _ 1 1 [p] rfl rfl (cell_one_new _ _ _) (by have := Hel.out; omega) (by have := B2.out.size; simp; omega) ?_; intro v' w3 ho3 hg3; have O3 := Lib.hid ho3; have G3 := Lib.hid hg3; clear ho3 hg3)
              go_roundw
              case rel => exact ⟨k + 1, c + 1, _, by go_num, by omega, by go_num, by omega, by have := Hel.out; simp; omega, O3.out, Below.app (B2.out.alloc B2.out.size _) (O2.out.alloc _) G3.out (Nat.le_refl _) (by have := B2.out.size; simp; omega), by show _ = _; rw [Hdt.out]; exact hcn.out⟩
              case measure => simp [intOf]; omega
            · have hnb : ((held.length : Int) == (n : Int)) = false := by rw [beq_eq_false_iff_ne]; omega
              have hcn : Hid (c + 1 + Xp.runP n used goes t (held ++ [p]) = total) := by
                have := hcnt.out; rw [Hdk.out, runP_room hm hn] at this; show _ = _; omega
              have Hhl := Lib.hid (show held.length + 1 ≤ n by omega)
              clear hm hidx hcnt hn
              go_wp2_with fail
              refine (Index_c held p _ _ ho.out.ri).mono ?_; rintro e _ ⟨rfl, rfl⟩; rw [Hidx.out]
              go_wp2_with (at_builtin; refine wpList_app rfl _ _ rfl w.heap.size _ held rfl (ho.out.alloc _) _ 1 1 [p] rfl rfl (cell_one_new _ _ _) (by have := Hhl.out; omega) (by have := hsz.out; simp; omega) ?_; intro v' w3 ho3 hg3; have O3 := Lib.hid ho3; have G3 := Lib.hid hg3; clear ho3 hg3)
              go_roundw
              case rel => exact ⟨k + 1, c + 1, _, by go_num, by omega, by go_num, by omega, by have := Hhl.out; simp; omega, O3.out, Below.app (hb.out.alloc hsz.out _) (ho.out.alloc _) G3.out (Nat.le_refl _) (by have := hsz.out; simp; omega), by show _ = _; rw [Hdt.out]; exact hcn.out⟩
              case measure => simp [intOf]; omega
        · have hke : k = xs.length := by omega
          subst hke
          have hcz : Hid (c = total) := by
            have := hcnt.out; rw [List.drop_length] at this; show c = total; simpa [Xp.runP] using this
          clear hcnt
          go_wp2_with fail
          go_ret
          exact ⟨ret_int (congrArg Int.ofNat hcz.out), hb.out⟩

theorem usedLast_len (l : List Int) (p : Int) (h : p ∈ l) : (Xp.usedLast l p).length = l.length := by
  have := List.length_pos_of_mem h
  simp [Xp.usedLast, List.length_erase_of_mem h]; omega

/-- the three answers -/
def faultsFirst (xs : List Int) (f : Int) : Int := faultsR xs f (fun h _ => h) (fun _ _ => 0)
def faultsLast (xs : List Int) (f : Int) : Int := faultsR xs f Xp.usedLast (fun _ _ => 0)
def faultsBest (xs : List Int) (f : Int) : Int := faultsR xs f (fun h _ => h) Xp.goesBest

theorem implFaultsFirst_c (xs : List Int) (f : Int) (v : Value) (w : World) (h : RI w v xs) : Calls Try.prog 12 #[v, .int .i64 f] w fun e w' => e = .returned (.int .i64 (faultsFirst xs f)) ∧ Below w.heap.size w w' := by
  have Hc := Lib.hid (faults_c xs f v w h 26 27 #[] (fun h _ => h) (fun _ _ => 0) stay_c (first_c xs w) (fun _ _ _ => rfl) (fun l _ hl => List.length_pos_iff.2 hl) Try.call26 Try.call27)
  clear h
  go_enter Try.func12, Try.ntmps12
  go_wp2_with fail
  refine Hc.out.mono ?_; rintro e w1 ⟨rfl, hb⟩
  go_wp2_with fail
  go_ret
  exact ⟨rfl, hb⟩

theorem implFaultsLast_c (xs : List Int) (f : Int) (v : Value) (w : World) (h : RI w v xs) : Calls Try.prog 14 #[v, .int .i64 f] w fun e w' => e = .returned (.int .i64 (faultsLast xs f)) ∧ Below w.heap.size w w' := by
  have Hc := Lib.hid (faults_c xs f v w h 30 27 #[] Xp.usedLast (fun _ _ => 0) toEnd_c (first_c xs w) usedLast_len (fun l _ hl => List.length_pos_iff.2 hl) Try.call30 Try.call27)
  clear h
  go_enter Try.func14, Try.ntmps14
  go_wp2_with fail
  refine Hc.out.mono ?_; rintro e w1 ⟨rfl, hb⟩
  go_wp2_with fail
  go_ret
  exact ⟨rfl, hb⟩

theorem implFaultsBest_c (xs : List Int) (f : Int) (v : Value) (w : World) (h : RI w v xs) (hco : CapOk v) : Calls Try.prog 15 #[v, .int .i64 f] w fun e w' => e = .returned (.int .i64 (faultsBest xs f)) ∧ Below w.heap.size w w' := by
  obtain ⟨a, cap, rfl⟩ := h.val
  have hb0 : Below w.heap.size w (w.alloc (.cells #[.slice a xs.length cap] 23)) := (Below.refl _ _).alloc (Nat.le_refl _) _
  have Hc := Lib.hid (faults_c xs f _ _ (h.below hb0) 26 31 #[.pointer (some ⟨w.heap.size, 0, none⟩)] (fun h _ => h) Xp.goesBest stay_c
    (best1_c xs a cap w.heap.size _ (by simp) (by simp) (h.below hb0) hco) (fun _ _ _ => rfl) (fun l _ hl => Xp.argk_lt _ hl) Try.call26 Try.call31)
  have Hb := Lib.hid hb0
  clear h hb0
  go_enter Try.func15, Try.ntmps15
  go_wp2_with fail
  refine Hc.out.mono ?_; rintro e w1 ⟨rfl, hb⟩
  go_wp2_with fail
  go_ret
  exact ⟨rfl, Hb.out.trans (hb.mono (by simp))⟩
end Go.Proofs.Ytdmjpikkgfedmaa
