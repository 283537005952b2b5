/- Contracts: the impl's side: counted. -/
import Derived.Test.YtfnpjdgjceiklaaGreatDoorKI10
namespace Go.Proofs.YtfnpjdgjceiklaaGreatDoor
open Go.RowKit

/-- uses by the first f tables, and by the first i words of the next one -/
def cntW (m : List (List Int)) (l : List Kx.Info) (f i g : Nat) : Nat := ((List.range f).map (Kx.ctr m l g)).sum + (Kx.namedW ((Kx.row m f).take i)).count g
theorem cntW_zero (m : List (List Int)) (l : List Kx.Info) (f g : Nat) : cntW m l f 0 g = cnt m l f 0 g := by simp [cntW, cnt, Kx.namedW]
theorem cntW_next (m : List (List Int)) (l : List Kx.Info) (f g : Nat) (h4 : (Kx.row m f).length = 4) (ht : Kx.isTab (Kx.inf l f).kind = true) : cnt m l (f + 1) 0 g = cntW m l f 4 g := by
  rw [cnt_next m l f g ht]
  unfold cnt cntW
  rw [List.take_length, List.take_of_length_le (by omega)]
theorem cntW_step (m : List (List Int)) (l : List Kx.Info) (f i g : Nat) (x : Int) (hi : i < (Kx.row m f).length) (hx : (Kx.row m f)[i] = x) : cntW m l f (i + 1) g = cntW m l f i g + (Kx.namedW [x]).count g := by
  unfold cntW
  have : Kx.namedW ((Kx.row m f).take (i + 1)) = Kx.namedW ((Kx.row m f).take i) ++ Kx.namedW [x] := by
    rw [List.take_succ_eq_append_getElem hi, hx]; simp [Kx.namedW]
  rw [this, List.count_append]; omega
theorem cntW_le (m : List (List Int)) (l : List Kx.Info) (hm : ∀ f, f < 12 → (Kx.row m f).length = 4) (f i g : Nat) (hf : f ≤ 12) : cntW m l f i g ≤ 4 * f + i := by
  unfold cntW
  have h1 : ((List.range f).map (Kx.ctr m l g)).sum ≤ f * 4 := Kx.sum_le fun j hj => by
    unfold Kx.ctr; split
    · exact Nat.le_trans (Kx.count_le _ _) (by rw [hm j (by omega)]; omega)
    · omega
  have h2 : (Kx.namedW ((Kx.row m f).take i)).count g ≤ i := Nat.le_trans List.count_le_length (Nat.le_trans (by unfold Kx.namedW; exact List.length_filterMap_le _ _) (List.length_take_le _ _))
  omega

set_option maxHeartbeats 2000000 in
theorem counted_c (m : List (List Int)) (l : List Kx.Info) (vm v : Value) (w : World) (hm : RM w vm m) (hmo : Kx.memOk m = true) (h : RInfo w v l) (h12 : l.length = 12) :
    Calls Tryz.prog 99 #[vm, v] w (MadeI w (Kx.counts m l)) := by
  obtain ⟨a, cap, rfl, _, _⟩ := RS.val h
  obtain ⟨_, a2, cap2, rfl, _, _⟩ := hm.len
  have hrow4 := Lib.hid (show ∀ f, f < 12 → (Kx.row m f).length = 4 from fun f hf => (mem_row hmo hf).2.1)
  have Hm12 := Lib.hid (mem_row hmo (show 0 < 12 by omega)).1
  have H := Lib.hid h; have Hm := Lib.hid hm; have H12 := Lib.hid h12; have Hmo := Lib.hid hmo
  have Hall := Lib.hid (cnt_all m l)
  have hmk : ∀ w : World, (Instr.makeSlice 28 (.int .i64 12) (.int .i64 12)).run Tryz.prog w = .ok (.slice (some ⟨w.heap.size, 0, none⟩) 12 12) (w.alloc (.cells #[.int .i64 0, .int .i64 0, .int .i64 0, .int .i64 0, .int .i64 0, .int .i64 0, .int .i64 0, .int .i64 0, .int .i64 0, .int .i64 0, .int .i64 0, .int .i64 0] 3)) := fun _ => by kernel_rfl
  have H0 := Lib.hid (show OS intC 1 3 (w.alloc (.cells #[.int .i64 0, .int .i64 0, .int .i64 0, .int .i64 0, .int .i64 0, .int .i64 0, .int .i64 0, .int .i64 0, .int .i64 0, .int .i64 0, .int .i64 0, .int .i64 0] 3)) w.heap.size (.slice (some ⟨w.heap.size, 0, none⟩) 12 12) (tab12 (cnt m l 0 0)) by
    have e : tab12 (cnt m l 0 0) = [0, 0, 0, 0, 0, 0, 0, 0, 0, 0, 0, 0] := by
      rw [tab12_congr (F' := fun _ => 0) (fun g _ => cnt_zero m l g)]; rfl
    rw [e]
    exact OS.lit (l := [0, 0, 0, 0, 0, 0, 0, 0, 0, 0, 0, 0]) (Nat.le_refl _) _ rfl rfl (by simp))
  clear h hm h12 hmo
  go_enter Tryz.func99, Tryz.ntmps99
  go_wp2_with fail
  clear hmk
  go_loopw [16] (fun i wr => ∃ f : Nat, i = .int .i64 f ∧ f ≤ l.length ∧ Hid (OS intC 1 3 wr w.heap.size (.slice (some ⟨w.heap.size, 0, none⟩) 12 12) (tab12 (cnt m l f 0))) ∧ Hid (Below w.heap.size w wr)) (fun i _ => l.length - (intOf i).toNat)
  case atStart => exact ⟨0, rfl, Nat.zero_le _, H0.out, (Below.refl _ _).alloc (Nat.le_refl _) _⟩
  case round =>
    clear H0
    obtain ⟨f, rfl, hf, ho, hb⟩ := hrel
    by_cases hlt : f < l.length
    · obtain ⟨b5, off5, cap5, e, _, h1, h2, h3⟩ := RInfo.at (RS.below H.out hb.out) hlt
      simp only [Value.slice.injEq] at e
      obtain ⟨rfl, _, rfl⟩ := e
      have hfl : (f : Int) < (l.length : Int) := by omega
      have hf12 : f < 12 := by have := H12.out; omega
      have Ht0 := Lib.hid (show ∀ b, Kx.isTab (Kx.inf l f).kind = b → Kx.isTab (Kx.inf l f).kind = b from fun _ h => h)
      have Hkind := Lib.hid (show Kx.isTab (Kx.inf l f).kind = Kx.isTab (Kx.inf l f).kind from rfl)
      cases ht : Kx.isTab (Kx.inf l f).kind with
      | false =>
        have Hskip := Lib.hid (show tab12 (cnt m l (f + 1) 0) = tab12 (cnt m l f 0) from tab12_congr fun g _ => cnt_skip m l f g ht)
        have Ht := Lib.hid ht
        clear ht Ht0 Hkind
        generalize Kx.inf l f = y at h1 h2 h3 Ht
        obtain ⟨W1, hW1⟩ : ∃ W1, wr.alloc (.cells #[.int .i64 y.kind, .string y.guard, .int .i64 y.refs] 111) = W1 := ⟨_, rfl⟩
        have B1 := Lib.hid (show Below wr.heap.size wr W1 from hW1 ▸ Below.lit (Below.refl _ _) _)
        obtain ⟨c0, c1, c2⟩ := (show W1.cell? ⟨wr.heap.size, 0, none⟩ = some (.int .i64 y.kind) ∧ W1.cell? ⟨wr.heap.size, 1, none⟩ = some (.string y.guard) ∧ W1.cell? ⟨wr.heap.size, 2, none⟩ = some (.int .i64 y.refs) from hW1 ▸ Box3.new wr _ _ _ _)
        go_wp2_with (go_at_call 104; refine (isTable_c _ _).mono ?_; rintro e w' ⟨rfl, rfl⟩; rw [Ht.out])
        go_roundw
        case rel => exact ⟨f + 1, by go_num, by omega, by show OS _ _ _ _ _ _ _; rw [Hskip.out]; exact ho.out.below B1.out, hb.out.trans (B1.out.mono hb.out.size)⟩
        case measure => simp [intOf]; omega
      | true =>
        obtain ⟨b2, off2, cap3, u2, e, hc2', hr2⟩ := Hm.out.row Hmo.out hf12
        have hc2 := (hb.out.cell (p := ⟨b2, off2 + f, none⟩) (World.block_lt_of_cell? w _ hc2')).trans hc2'
        have hb2l := World.block_lt_of_cell? w _ hc2'
        rw [← Hm12.out] at e
        simp only [Value.slice.injEq] at e
        obtain ⟨rfl, _, rfl⟩ := e
        have hfm : (f : Int) < (m.length : Int) := by rw [Hm12.out]; omega
        have h4 := hrow4.out f hf12
        obtain ⟨a3, c3, rfl⟩ := hr2.val
        rw [h4] at hc2 hr2
        have Hnext := Lib.hid (show tab12 (cnt m l (f + 1) 0) = tab12 (cntW m l f 4) from tab12_congr fun g _ => cntW_next m l f g h4 ht)
        have H4 := Lib.hid h4; have Hrow := Lib.hid hr2; have Ht := Lib.hid ht
        have Hw := Lib.hid (mem_row Hmo.out hf12).2.2
        have Hwle := Lib.hid (fun i g => cntW_le m l hrow4.out f i g (by omega))
        have Hst0 := Lib.hid (show tab12 (cnt m l f 0) = tab12 (cntW m l f 0) from tab12_congr fun g _ => (cntW_zero m l f g).symm)
        have Hws := Lib.hid (fun i g x hi hx => cntW_step m l f i g x hi hx)
        clear ht Ht0 Hkind h4 hr2 hc2'
        generalize Kx.inf l f = y at h1 h2 h3 Ht
        generalize Kx.row m f = row at H4 Hrow Hw Hws
        obtain ⟨W1, hW1⟩ : ∃ W1, wr.alloc (.cells #[.int .i64 y.kind, .string y.guard, .int .i64 y.refs] 111) = W1 := ⟨_, rfl⟩
        have B1 := Lib.hid (show Below wr.heap.size wr W1 from hW1 ▸ Below.lit (Below.refl _ _) _)
        obtain ⟨c0, c1, c2⟩ := (show W1.cell? ⟨wr.heap.size, 0, none⟩ = some (.int .i64 y.kind) ∧ W1.cell? ⟨wr.heap.size, 1, none⟩ = some (.string y.guard) ∧ W1.cell? ⟨wr.heap.size, 2, none⟩ = some (.int .i64 y.refs) from hW1 ▸ Box3.new wr _ _ _ _)
        have B01 := Lib.hid (hb.out.trans (B1.out.mono hb.out.size))
        have hc2W : W1.cell? ⟨b2, off2 + f, none⟩ = some (.slice a3 4 c3) := (B1.out.cell (p := ⟨b2, off2 + f, none⟩) (Nat.lt_of_lt_of_le hb2l hb.out.size)).trans hc2
        have Ho1 := Lib.hid (ho.out.below B1.out)
        rw [Hst0.out] at Ho1
        clear hc2 hb2l
        go_wp2_with (go_at_call 104; refine (isTable_c _ _).mono ?_; rintro e w' ⟨rfl, rfl⟩; rw [Ht.out])
        go_loopw [30] (fun i wq => ∃ j : Nat, i = .int .i64 j ∧ j ≤ 4 ∧ Hid (OS intC 1 3 wq w.heap.size (.slice (some ⟨w.heap.size, 0, none⟩) 12 12) (tab12 (cntW m l f j))) ∧ Hid (Below w.heap.size w wq)) (fun i _ => 4 - (intOf i).toNat)
        case atStart => exact ⟨0, rfl, Nat.zero_le _, Ho1.out, B01.out⟩
        case round =>
          clear c0 c1 c2 hc2W Ho1 B01 B1 ho hb h1 h2 h3 hW1
          obtain ⟨j, rfl, hj, ho, hb⟩ := hrel
          by_cases hjl : j < 4
          · have hjr : j < row.length := by rw [H4.out]; exact hjl
            have hjI : (j : Int) < 4 := by omega
            obtain ⟨b4, off4, cap4, e, _, hc4⟩ := (Hrow.out.below hb.out).at hjr
            rw [H4.out] at e
            simp only [Value.slice.injEq] at e
            obtain ⟨rfl, _, rfl⟩ := e
            have hx9 := Hw.out _ (List.getElem_mem hjr)
            have Hs := Lib.hid (fun g => Hws.out j g row[j] hjr rfl)
            generalize row[j] = x at hc4 Hs hx9
            obtain ⟨hx0, hx9⟩ := hx9
            cases he : Kx.entry x with
            | none =>
              have Hx := Lib.hid (show tab12 (cntW m l f (j + 1)) = tab12 (cntW m l f j) from tab12_congr fun g _ => by rw [Hs.out]; simp [Kx.namedW, he])
              have He := Lib.hid he; clear he
              go_wp2_with fail
              refine (implEntryGet_c _ _ (by omega)).mono ?_; rintro e w' ⟨rfl, rfl⟩; rw [EgN He.out]
              go_wp2_with fail
              go_roundw
              case rel => exact ⟨j + 1, by go_num, by omega, by show OS _ _ _ _ _ _ _; rw [Hx.out]; exact ho.out, hb.out⟩
              case measure => simp [intOf]; omega
            | some p =>
              obtain ⟨g, c⟩ := p
              have hg12 := Kx.entry_lt he
              have hstep : ∀ i, cntW m l f (j + 1) i = cntW m l f j i + if i = g then 1 else 0 := fun i => by
                rw [Hs.out]
                congr 1
                by_cases e : i = g
                · simp [Kx.namedW, he, e]
                · simp [Kx.namedW, he, e, Ne.symm e]
              obtain ⟨b6, cap6, e, _, hcg, hfg⟩ := ho.out.oi.at (k := g) (by rw [tab12_length]; exact hg12)
              simp only [Value.slice.injEq, Option.some.injEq, Addr.mk.injEq] at e
              obtain ⟨⟨rfl, _, _⟩, he12, rfl⟩ := e
              clear he12
              rw [tab12_get] at hcg
              have hset := Lib.hid (tab12_set (cntW m l f j) (cntW m l f (j + 1)) g ((cntW m l f j g : Int) + 1) (by rw [hstep, if_pos rfl]; omega) (fun i hi => by rw [hstep, if_neg hi]; rfl))
              have hst := ho.out.oi.stored (tab12_length _) g ((cntW m l f j g : Int) + 1)
              rw [hset.out] at hst
              have Hst := Lib.hid hst.1
              have hgI : (g : Int) < 12 := by omega
              have hbI : (cntW m l f j g : Int) ≤ 1000 := by have := Hwle.out j g; omega
              have He := Lib.hid he
              clear hst hset hstep he
              generalize cntW m l f j g = q at hcg Hst hbI
              go_wp2_with fail
              refine (implEntryGet_c _ _ (by omega)).mono ?_; rintro e w' ⟨rfl, rfl⟩; rw [EgS He.out]
              go_wp2_with fail
              go_roundw
              case rel => exact ⟨j + 1, by go_num, by omega, Hst.out.os, hb.out.setCell (p := ⟨w.heap.size, g, none⟩) (Nat.le_refl _) _⟩
              case measure => simp [intOf]; omega
          · have hj4 : j = 4 := by omega
            subst hj4
            go_wp2_with fail
            go_roundw
            case rel => exact ⟨f + 1, by go_num, by omega, by show OS _ _ _ _ _ _ _; rw [Hnext.out]; exact ho.out, hb.out⟩
            case measure => simp [intOf]; omega
    · have hf12 : f = 12 := by have := H12.out; omega
      have Ho := Lib.hid (show OS intC 1 3 wr w.heap.size (.slice (some ⟨w.heap.size, 0, none⟩) 12 12) (Kx.counts m l) by have h9 := ho.out; rw [hf12, Hall.out] at h9; exact h9)
      clear hf12
      go_wp2_with fail
      go_ret
      exact ⟨_, rfl, Ho.out.oi, hb.out⟩
end Go.Proofs.YtfnpjdgjceiklaaGreatDoor
