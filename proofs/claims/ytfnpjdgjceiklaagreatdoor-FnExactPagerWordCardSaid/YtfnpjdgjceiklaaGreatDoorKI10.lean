/- Contracts: the impl's side: named, reached. -/
import Derived.Test.YtfnpjdgjceiklaaGreatDoorKI9
namespace Go.Proofs.YtfnpjdgjceiklaaGreatDoor
open Go.RowKit

theorem flat_len4 {m : List (List Int)} (hm : Kx.memOk m = true) : ∀ (fs : List Nat), (∀ f ∈ fs, f < 12) → (fs.flatMap fun f => Kx.namedW (Kx.row m f)).length ≤ 4 * fs.length
  | [], _ => by simp
  | f :: fs, h => by
    have h1 := flat_len4 hm fs fun x hx => h x (List.mem_cons_of_mem _ hx)
    have h4 := (mem_row hm (h f (List.mem_cons_self ..))).2.1
    have h2 : (Kx.namedW (Kx.row m f)).length ≤ (Kx.row m f).length := by unfold Kx.namedW; exact List.length_filterMap_le _ _
    rw [List.flatMap_cons, List.length_append, List.length_cons]
    omega
theorem flat_lt {m : List (List Int)} {fs : List Nat} : ∀ x ∈ fs.flatMap (fun f => Kx.namedW (Kx.row m f)), x < 12 := fun x hx => by
  obtain ⟨f, _, hf⟩ := List.mem_flatMap.1 hx
  exact Kx.namedW_lt hf
set_option maxHeartbeats 2000000 in
theorem named_c (m : List (List Int)) (fs : List Nat) (vm v : Value) (w : World) (hm : RM w vm m) (hmo : Kx.memOk m = true) (h : RI w v (ofN fs)) (hlt : ∀ f ∈ fs, f < 12) (hl : fs.length ≤ 12) :
    Calls Tryz.prog 156 #[vm, v] w (MadeI w (ofN (Kx.sortedF (fs.flatMap fun f => Kx.namedW (Kx.row m f))))) := by
  have Hc := Lib.hid (compact_sortedF _ (flat_lt (m := m) (fs := fs)))
  obtain ⟨_, am, cm, rfl, _, _⟩ := hm.len
  obtain ⟨a, cap, rfl⟩ := h.val
  have Hm := Lib.hid hm; have H := Lib.hid h; have Hlt := Lib.hid hlt; have Hmo := Lib.hid hmo
  have Hfl := Lib.hid (show ∀ k, k ≤ fs.length → ((fs.take k).flatMap fun f => Kx.namedW (Kx.row m f)).length ≤ 4 * k from fun k hk => by
    have := flat_len4 hmo (fs.take k) fun f hf => hlt f (List.mem_of_mem_take hf)
    rw [List.length_take, Nat.min_eq_left hk] at this; exact this)
  obtain ⟨n, hn⟩ : ∃ n, (ofN fs).length = n := ⟨_, rfl⟩
  have Hn := Lib.hid (show fs.length = n by rw [← hn, ofN_length])
  have hn12 : n ≤ 12 := by have := Hn.out; omega
  have Hm12 := Lib.hid (show m.length = 12 from (Kx.memOk_iff.1 hmo).1)
  rw [hn] at H ⊢
  clear hm h hlt hmo hn hl
  go_enter Tryz.func156, Tryz.ntmps156
  go_wp2_with fail
  go_loopw [5, 15] (fun out i wr => ∃ k : Nat, i = .int .i64 k ∧ k ≤ n ∧ Hid (OS intC 1 3 wr w.heap.size out (ofN ((fs.take k).flatMap fun f => Kx.namedW (Kx.row m f)))) ∧ Hid (Below w.heap.size w wr)) (fun _ i _ => n - (intOf i).toNat)
  case atStart => exact ⟨0, rfl, Nat.zero_le _, (OI.nil _ _).os, Below.refl _ _⟩
  case round =>
    obtain ⟨k, rfl, hk, ho, hb⟩ := hrel
    by_cases hlt : k < n
    · have hkf : k < fs.length := by have := Hn.out; omega
      have hko : k < (ofN fs).length := by rw [ofN_length]; exact hkf
      obtain ⟨b, off, cap', e, _, hc⟩ := (H.out.below hb.out).at hko
      rw [ofN_length, Hn.out] at e
      simp only [Value.slice.injEq] at e
      obtain ⟨rfl, _, rfl⟩ := e
      have hlI : (k : Int) < (n : Int) := by omega
      have hf12 := Hlt.out _ (List.getElem_mem hkf)
      have htk : fs.take (k + 1) = fs.take k ++ [fs[k]] := by rw [List.take_succ_eq_append_getElem hkf]
      rw [ofN_getElem fs k hko hkf] at hc
      generalize fs[k] = f at hc hf12 htk
      have Hs := Lib.hid (show (fs.take (k + 1)).flatMap (fun f => Kx.namedW (Kx.row m f)) = (fs.take k).flatMap (fun f => Kx.namedW (Kx.row m f)) ++ Kx.namedW (Kx.row m f) by rw [htk]; simp)
      have Hk4 := Lib.hid (Hfl.out k (by omega))
      obtain ⟨b2, off2, cap2, u2, e, hc2', hr2⟩ := Hm.out.row Hmo.out hf12
      have hc2 := (hb.out.cell (p := ⟨b2, off2 + f, none⟩) (World.block_lt_of_cell? w _ hc2')).trans hc2'
      rw [← Hm12.out] at e
      simp only [Value.slice.injEq] at e
      obtain ⟨rfl, _, rfl⟩ := e
      have hfI : (f : Int) < (m.length : Int) := by rw [Hm12.out]; omega
      obtain ⟨hmx, h4, hw⟩ := mem_row Hmo.out hf12
      have H4 := Lib.hid h4; have Hw := Lib.hid hw
      obtain ⟨a3, c3, rfl⟩ := hr2.val
      rw [h4] at hc2 hr2
      have Hrow := Lib.hid hr2
      clear htk h4 hw hr2 hc2' hmx
      generalize (fs.take k).flatMap (fun f => Kx.namedW (Kx.row m f)) = ys at ho Hs Hk4
      generalize Kx.row m f = row at Hs H4 Hw Hrow
      go_wp2_with fail
      go_loopw [5, 24] (fun out i wi => ∃ j : Nat, i = .int .i64 j ∧ j ≤ 4 ∧ Hid (OS intC 1 3 wi w.heap.size out (ofN (ys ++ Kx.namedW (row.take j)))) ∧ Hid (Below w.heap.size w wi)) (fun _ i _ => 4 - (intOf i).toNat)
      case atStart => exact ⟨0, rfl, Nat.zero_le _, by simpa [Hid, Kx.namedW] using ho.out, hb.out⟩
      case round =>
        clear hc hc2 ho hb
        obtain ⟨j, rfl, hj, ho2, hb2⟩ := hrel
        by_cases hjl : j < 4
        · have hjr : j < row.length := by rw [H4.out]; exact hjl
          have hjI : (j : Int) < 4 := by omega
          obtain ⟨b4, off4, cap4, e, _, hc4⟩ := (Hrow.out.below hb2.out).at hjr
          rw [H4.out] at e
          simp only [Value.slice.injEq] at e
          obtain ⟨rfl, _, rfl⟩ := e
          have htj : row.take (j + 1) = row.take j ++ [row[j]] := by rw [List.take_succ_eq_append_getElem hjr]
          have hx9 := Hw.out _ (List.getElem_mem hjr)
          generalize row[j] = x at hc4 htj hx9
          obtain ⟨hx0, hx9⟩ := hx9
          have hnt : ys ++ Kx.namedW (row.take (j + 1)) = (ys ++ Kx.namedW (row.take j)) ++ Kx.namedW [x] := by rw [htj]; simp [Kx.namedW]
          have hl2 : (ys ++ Kx.namedW (row.take j)).length ≤ 100 := by
            have h1 : (Kx.namedW (row.take j)).length ≤ j := Nat.le_trans (by unfold Kx.namedW; exact List.length_filterMap_le _ _) (List.length_take_le _ _)
            have h2 := Hk4.out
            rw [List.length_append]; omega
          have Hnt := Lib.hid hnt; have Hl2 := Lib.hid hl2
          clear hnt hl2 htj
          generalize ys ++ Kx.namedW (row.take j) = zs at ho2 Hnt Hl2
          cases he : Kx.entry x with
          | none =>
            have Hx := Lib.hid (show Kx.namedW [x] = [] by simp [Kx.namedW, he])
            have He := Lib.hid he; clear he
            go_wp2_with fail
            refine (implEntryGet_c _ _ (by omega)).mono ?_; rintro e w' ⟨rfl, rfl⟩; rw [EgN He.out]
            go_wp2_with fail
            go_roundw
            case rel => exact ⟨j + 1, by go_num, by omega, by show OS _ _ _ _ _ _ _; rw [Hnt.out, Hx.out, List.append_nil]; exact ho2.out, hb2.out⟩
            case measure => simp [intOf]; omega
          | some p =>
            obtain ⟨g, c⟩ := p
            have Hx := Lib.hid (show Kx.namedW [x] = [g] by simp [Kx.namedW, he])
            have He := Lib.hid he; clear he
            have hsz := Lib.hid hb2.out.size
            have hsz2 := Lib.hid (show w.heap.size ≤ (wr.alloc (.cells #[.int .i64 (g : Int)] 3)).heap.size by simp; exact Nat.le_succ_of_le hsz.out)
            have hR := Lib.hid (RS.one (f := intC) (sz := 1) (g : Int) #[.int .i64 (g : Int)] rfl wr 3)
            have hL := Lib.hid (show (ofN zs).length + [(g : Int)].length ≤ 1099511627776 by rw [ofN_length]; have := Hl2.out; simp; omega)
            go_wp2_with fail
            refine (implEntryGet_c _ _ (by omega)).mono ?_; rintro e w' ⟨rfl, rfl⟩; rw [EgS He.out]
            go_wp2_with (at_builtin; refine wpList_appS tiInt rfl _ _ rfl w.heap.size _ (ofN zs) rfl (ho2.out.alloc _) _ [(g : Int)] rfl hR.out hL.out hsz2.out ?_; intro v' w3 ho3 hg3 hn3; have Ho3 := Lib.hid ho3; have Hg3 := Lib.hid hg3; clear ho3 hg3 hn3)
            go_roundw
            case rel =>
              refine ⟨j + 1, by go_num, by omega, ?_, ?_⟩
              · show OS _ _ _ _ _ _ _; rw [Hnt.out, Hx.out, ofN_append]; exact Ho3.out
              · exact Below.appS (hb2.out.alloc hb2.out.size _) (ho2.out.alloc _) Hg3.out (Nat.le_refl _) hsz2.out
            case measure => simp [intOf]; omega
        · have hj4 : j = 4 := by omega
          subst hj4
          have Ht := Lib.hid (show ys ++ Kx.namedW (row.take 4) = ys ++ Kx.namedW row by rw [List.take_of_length_le (by rw [H4.out]; omega)])
          go_wp2_with fail
          go_roundw
          case rel => exact ⟨k + 1, by go_num, by omega, by show OS _ _ _ _ _ _ _; rw [Hs.out, ← Ht.out]; exact ho2.out, hb2.out⟩
          case measure => simp [intOf]; omega
    · have hkn : k = n := by omega
      subst hkn
      have htk : fs.take k = fs := List.take_of_length_le (by have := Hn.out; omega)
      have ho9 := ho.out.oi
      rw [htk] at ho9
      have Ho9 := Lib.hid ho9
      clear ho9 htk
      go_wp2_with fail
      refine (SortI_c _ _ _ _ Ho9.out).mono ?_; rintro e w4 ⟨rfl, ho4, hg4⟩
      have Ho4 := Lib.hid ho4; have B4 := Lib.hid (Below.mark hb.out Ho9.out hg4 (Nat.le_refl _) hb.out.size); clear ho4 hg4
      go_wp2_with fail
      refine (CompactI_c _ _ _ _ Ho4.out).mono ?_; rintro e w5 ⟨u5, rfl, ho5, hg5⟩
      have Ho5 := Lib.hid ho5; have B5 := Lib.hid (Below.mark B4.out Ho4.out hg5 (Nat.le_refl _) B4.out.size); clear ho5 hg5
      go_wp2_with fail
      go_ret
      refine ⟨_, rfl, ?_, B5.out⟩
      rw [← Hc.out]; exact Ho5.out

theorem tables_flat (m : List (List Int)) (r : Nat) : Kx.sortedF (([r] : List Nat).flatMap fun f => Kx.namedW (Kx.row m f)) = Kx.tables m r := by simp [Kx.tables]
set_option maxHeartbeats 2000000 in
theorem reached_c (m : List (List Int)) (root : Int) (v : Value) (w : World) (h : RM w v m) (hm : Kx.memOk m = true) (hr : root ≤ 11) :
    Calls Tryz.prog 103 #[v, .int .i64 root] w (MadeI w (ofN (Kx.reach m root))) := by
  by_cases h0 : root < 0
  · have hw := Lib.hid (show Kx.reach m root = [] by unfold Kx.reach; rw [if_pos h0])
    obtain ⟨_, a, cap, rfl, _, _⟩ := h.len
    go_enter Tryz.func103, Tryz.ntmps103
    go_wp2_with fail
    go_ret
    refine ⟨_, rfl, ?_, Below.refl _ _⟩
    rw [hw.out]; exact OI.nil _ _
  · obtain ⟨r, rfl⟩ := Int.eq_ofNat_of_zero_le (show 0 ≤ root by omega)
    have hr12 : r < 12 := by omega
    have hw := Lib.hid (show Kx.reach m (r : Int) = Kx.sortedF (r :: (Kx.tables m r ++ Kx.framesR m r)) by unfold Kx.reach; rw [if_neg h0]; simp)
    have Hcs := Lib.hid (compact_sortedF (r :: (Kx.tables m r ++ Kx.framesR m r)) (fun x hx => by
      have : x ∈ Kx.reach m (r : Int) ∨ x < 12 := by
        rcases List.mem_cons.1 hx with rfl | hx
        · exact .inr hr12
        · rcases List.mem_append.1 hx with hx | hx
          · unfold Kx.tables Kx.sortedF at hx
            exact .inr (by simpa using (List.mem_filter.1 hx).1)
          · unfold Kx.framesR Kx.sortedF at hx
            exact .inr (by simpa using (List.mem_filter.1 hx).1)
      rcases this with h | h
      · exact reach_lt x h
      · exact h))
    obtain ⟨w1, hw1⟩ : ∃ w1, w.alloc (.cells #[.int .i64 (r : Int)] 3) = w1 := ⟨_, rfl⟩
    have B1 := Lib.hid (show Below w.heap.size w w1 from hw1 ▸ Below.lit (Below.refl _ _) _)
    have H1 := Lib.hid (show OS intC 1 3 w1 w.heap.size (.slice (some ⟨w.heap.size, 0, none⟩) 1 1) [(r : Int)] from hw1 ▸ OS.lit (l := [(r : Int)]) (Nat.le_refl _) _ rfl rfl (by simp))
    obtain ⟨w2, hw2⟩ : ∃ w2, w1.alloc (.cells #[.int .i64 (r : Int)] 3) = w2 := ⟨_, rfl⟩
    have B2 := Lib.hid (show Below w1.heap.size w1 w2 from hw2 ▸ Below.lit (Below.refl _ _) _)
    have H2 := Lib.hid (show RI w2 (.slice (some ⟨w1.heap.size, 0, none⟩) 1 1) (ofN [r]) from RI.rs (hw2 ▸ RS.one (f := intC) (sz := 1) (r : Int) #[.int .i64 (r : Int)] rfl w1 3))
    have B12 := Lib.hid (B1.out.trans (B2.out.mono B1.out.size))
    have HN := Lib.hid (named_c m [r] v _ w2 (h.below B12.out) hm H2.out (by simpa using hr12) (by simp))
    rw [tables_flat] at HN
    have H12 := Lib.hid (H1.out.below B2.out)
    have Hh := Lib.hid h; have Hm := Lib.hid hm
    have Hl := Lib.hid (show (Kx.tables m r).length ≤ 12 ∧ (Kx.framesR m r).length ≤ 12 from ⟨Nat.le_trans (List.length_filter_le _ _) (by simp), Nat.le_trans (List.length_filter_le _ _) (by simp)⟩)
    have Ht12 := Lib.hid (show ∀ x ∈ Kx.tables m r, x < 12 from fun x hx => by
      unfold Kx.tables Kx.sortedF at hx
      simpa using (List.mem_filter.1 hx).1)
    have hfr := Lib.hid (show Kx.framesR m r = Kx.sortedF ((Kx.tables m r).flatMap fun f => Kx.namedW (Kx.row m f)) from rfl)
    obtain ⟨_, a, cap, rfl, _, _⟩ := h.len
    clear h hm
    go_enter Tryz.func103, Tryz.ntmps103
    go_wp2_with fail
    refine HN.out.mono ?_; rintro e w3 ⟨u3, rfl, ho, hb⟩
    have Ho3 := Lib.hid ho.os; have H13 := Lib.hid (H12.out.below hb); have B3 := Lib.hid (B12.out.trans (hb.mono B12.out.size))
    have HL := Lib.hid (show [(r : Int)].length + (ofN (Kx.tables m r)).length ≤ 1099511627776 by rw [ofN_length]; have := Hl.out; simp; omega)
    clear ho hb HN hw1 hw2
    go_wp2_with (at_builtin; refine wpList_appS tiInt rfl _ _ rfl w.heap.size _ [(r : Int)] rfl H13.out _ (ofN (Kx.tables m r)) rfl Ho3.out.rs HL.out B3.out.size ?_; intro v4 w4 ho4 hg4 hn4; have Ho4 := Lib.hid ho4; have B4 := Lib.hid (Below.appS B3.out H13.out hg4 (Nat.le_refl _) B3.out.size); clear ho4 hg4 hn4)
    obtain ⟨w5, hw5⟩ : ∃ w5, w4.alloc (.cells #[.int .i64 (r : Int)] 3) = w5 := ⟨_, rfl⟩
    have B45 := Lib.hid (show Below w4.heap.size w4 w5 from hw5 ▸ Below.lit (Below.refl _ _) _)
    have H5 := Lib.hid (show RI w5 (.slice (some ⟨w4.heap.size, 0, none⟩) 1 1) (ofN [r]) from RI.rs (hw5 ▸ RS.one (f := intC) (sz := 1) (r : Int) #[.int .i64 (r : Int)] rfl w4 3))
    have B5 := Lib.hid (B4.out.trans (B45.out.mono B4.out.size))
    have HN := Lib.hid (named_c m [r] _ _ w5 (Hh.out.below B5.out) Hm.out H5.out (by simpa using hr12) (by simp))
    rw [tables_flat] at HN
    have Ho5 := Lib.hid (Ho4.out.below B45.out)
    rw [hw5]
    refine HN.out.mono ?_; rintro e w6 ⟨u6, rfl, ho, hb⟩
    have Ho6 := Lib.hid ho; have Hv6 := Lib.hid (Ho5.out.below hb); have B6 := Lib.hid (B5.out.trans (hb.mono B5.out.size))
    clear ho hb HN hw5
    have HN := Lib.hid (named_c m (Kx.tables m r) _ u6 w6 (Hh.out.below B6.out) Hm.out Ho6.out.ri Ht12.out Hl.out.1)
    rw [← hfr.out] at HN
    go_wp2_with fail
    refine HN.out.mono ?_; rintro e w7 ⟨u7, rfl, ho, hb⟩
    have Ho7 := Lib.hid ho.os; have Hv7 := Lib.hid (Hv6.out.below hb); have B7 := Lib.hid (B6.out.trans (hb.mono B6.out.size))
    have HL2 := Lib.hid (show ([(r : Int)] ++ ofN (Kx.tables m r)).length + (ofN (Kx.framesR m r)).length ≤ 1099511627776 by rw [List.length_append, ofN_length, ofN_length]; have := Hl.out; simp; omega)
    clear ho hb HN
    go_wp2_with (at_builtin; refine wpList_appS tiInt rfl _ _ rfl w.heap.size _ ([(r : Int)] ++ ofN (Kx.tables m r)) rfl Hv7.out _ (ofN (Kx.framesR m r)) rfl Ho7.out.rs HL2.out B7.out.size ?_; intro v8 w8 ho8 hg8 hn8; have Ho8 := Lib.hid ho8; have B8 := Lib.hid (Below.appS B7.out Hv7.out hg8 (Nat.le_refl _) B7.out.size); clear ho8 hg8 hn8)
    have H8 := Lib.hid (show OI w8 w.heap.size v8 (ofN (r :: (Kx.tables m r ++ Kx.framesR m r))) by
      have := Ho8.out.oi
      rw [List.append_assoc, ← ofN_append] at this
      exact this)
    refine (SortI_c _ _ _ _ H8.out).mono ?_; rintro e w9 ⟨rfl, ho9, hg9⟩
    have Ho9 := Lib.hid ho9; have B9 := Lib.hid (Below.mark B8.out H8.out hg9 (Nat.le_refl _) B8.out.size); clear ho9 hg9
    go_wp2_with fail
    refine (CompactI_c _ _ _ _ Ho9.out).mono ?_; rintro e w10 ⟨u10, rfl, ho10, hg10⟩
    have Ho10 := Lib.hid ho10; have B10 := Lib.hid (Below.mark B9.out Ho9.out hg10 (Nat.le_refl _) B9.out.size); clear ho10 hg10
    go_wp2_with fail
    go_ret
    refine ⟨_, rfl, ?_, B10.out⟩
    rw [hw.out, ← Hcs.out]; exact Ho10.out
end Go.Proofs.YtfnpjdgjceiklaaGreatDoor
