/- Contracts: spec.l32Page. (printed by kw19.py) -/
import Derived.Test.YtfnpjdgjceiklaaGreatDoorKW18
namespace Go.Proofs.YtfnpjdgjceiklaaGreatDoor
open Go.RowKit

theorem pageOk_eq (p : Kx.Pager) (n : Nat) : Kx.pageOk p n = (if (Kx.pageAt p.pages n).wh = 0 then (Kx.pageAt p.pages n) == Kx.Page.zero && Kx.word p.k.mem ((p.low.getD (n / 4) 0).toNat) (n % 4) == 0
  else if (Kx.pageAt p.pages n).wh = 1 then Kx.inR (Kx.pageAt p.pages n).at_ 0 11 && Kx.word p.k.mem ((p.low.getD (n / 4) 0).toNat) (n % 4) == Kx.put (Kx.pageAt p.pages n).at_.toNat true && decide ((Kx.inf p.k.infos (Kx.pageAt p.pages n).at_.toNat).guard = Kx.sA) && (Kx.inf p.k.infos (Kx.pageAt p.pages n).at_.toNat).refs == 1
  else if (Kx.pageAt p.pages n).wh = 2 then Kx.inR (Kx.pageAt p.pages n).at_ 0 15 && !(Kx.row p.swap (Kx.pageAt p.pages n).at_.toNat).isEmpty && !(Kx.pageAt p.pages n).used && Kx.word p.k.mem ((p.low.getD (n / 4) 0).toNat) (n % 4) == 0
  else false) := rfl
set_option maxHeartbeats 4000000 in
theorem l32Page_c (p : Kx.Pager) (n : Nat) (vm vi ve vc vs vl vp : Value) (hand limit : Int) (w : World) (h : RP w vm vi ve vc vs vl vp p) (hmo : Kx.memOk p.k.mem = true) (hio : p.k.infos.length = 12) (hpl : p.pages.length = 16) (hll : p.low.length = 4) (hsw : Kx.swapOk p.swap = true)
    (hlo : ∀ i, i < 4 → 0 ≤ p.low.getD i 0 ∧ p.low.getD i 0 ≤ 11) (hn : n < 16) :
    Calls Tryz.prog 40 #[pagerV vm vi ve vc vs vl vp hand limit, .int .i64 n] w fun e w' => e = .returned (.bool (Kx.pageOk p n)) ∧ Below w.heap.size w w' := by
  obtain ⟨w0, hw0⟩ : ∃ w0, w.alloc (.cells #[vm, vi, ve, vc, vs, vl, vp, .int .i64 hand, .int .i64 limit] 41) = w0 := ⟨_, rfl⟩
  have Hw0 := Lib.hid (show Below w.heap.size w w0 from hw0 ▸ (Below.refl w.heap.size w).alloc (Nat.le_refl _) _)
  have Hbx := Lib.hid (show BoxP w0 w.heap.size vm vi ve vc vs vl vp hand limit from hw0 ▸ BoxP.new w vm vi ve vc vs vl vp hand limit _)
  have HP := Lib.hid (h.below Hw0.out)
  have Hok := Lib.hid (pageOk_eq p n)
  obtain ⟨q, hq⟩ : ∃ q, n / 4 = q := ⟨_, rfl⟩
  obtain ⟨r, hr⟩ : ∃ r, n % 4 = r := ⟨_, rfl⟩
  have eq : (n : Int) / 4 = (q : Int) := by omega
  have er : (n : Int) % 4 = (r : Int) := by omega
  have hq4 : (q : Int) < 4 := by omega
  have et : (n : Int).tmod 4 = (r : Int) := by rw [Int.tmod_eq_emod_of_nonneg (by omega)]; exact er
  have hr0 : (0 : Int) ≤ (r : Int) := by omega
  have hqw : IntKind.i64.wrap (q : Int) = (q : Int) := IntWalk.i64_in _ (by omega)
  have hq0 : (0 : Int) ≤ (q : Int) := by omega
  have hr4 : (r : Int) < 4 := by omega
  have hnI : (n : Int) < 16 := by omega
  rw [hq, hr] at Hok
  obtain ⟨bp, op, cp, rfl, hbp, g0, g1, g2⟩ := RPage.at HP.out.g (k := n) (by omega)
  obtain ⟨bl, ol, cl, rfl, hbl, hcl⟩ := HP.out.l.at (k := q) (by omega)
  have hget : p.low[q]'(by omega) = p.low.getD q 0 := by simp [show q < p.low.length by omega]
  rw [hget] at hcl
  obtain ⟨hf0, hf11⟩ := hlo q (by omega)
  generalize p.low.getD q 0 = f at hcl hf0 hf11 Hok
  obtain ⟨f0, rfl⟩ := Int.eq_ofNat_of_zero_le hf0
  rw [Int.toNat_natCast] at Hok
  have hf12 : f0 < 12 := by omega
  have hfI : (f0 : Int) < 12 := by omega
  have Hio := Lib.hid hio; have Hmo := Lib.hid hmo; have Hsw := Lib.hid hsw
  have k6 := Hbx.out.2.1.2.2.1
  obtain ⟨ai, ci, rfl, _, _⟩ := RS.val HP.out.k.i
  obtain ⟨pg, hx⟩ : ∃ pg, Kx.pageAt p.pages n = pg := ⟨_, rfl⟩
  rw [hx] at g0 g1 g2 Hok
  clear hx hget hf0 hf11 hlo
  obtain ⟨x, y, z⟩ := pg
  dsimp only at g0 g1 g2 Hok
  obtain ⟨W1, hW1⟩ : ∃ W1, w0.alloc (.cells #[.int .i64 x, .int .i64 y, .bool z] 90) = W1 := ⟨_, rfl⟩
  have B1 := Lib.hid (show Below w0.heap.size w0 W1 from hW1 ▸ Below.lit (Below.refl _ _) _)
  obtain ⟨c0, c1, c2⟩ := (show W1.cell? ⟨w0.heap.size, 0, none⟩ = some (.int .i64 x) ∧ W1.cell? ⟨w0.heap.size, 1, none⟩ = some (.int .i64 y) ∧ W1.cell? ⟨w0.heap.size, 2, none⟩ = some (.bool z) from hW1 ▸ Box3.new w0 _ _ _ 90)
  have HP1 := Lib.hid (HP.out.below B1.out)
  have HS1 := Lib.hid (show w0.heap.size < W1.heap.size from hW1 ▸ by simp)
  obtain ⟨bm, om, cm, bq, oq, cq, rfl, n1, n2, _, _⟩ := HP1.out.k.m.word Hmo.out (f := f0) (a := r) hf12 (by omega)
  generalize Kx.word p.k.mem f0 r = wd at n2 Hok
  obtain ⟨⟨m0, m1, m2, m3⟩, ⟨m4, m5, m6, m7, m8⟩, _⟩ := Hbx.out.below B1.out
  have hcl1 : W1.cell? ⟨bl, ol + q, none⟩ = some (.int .i64 f0) := (B1.out.cell (p := ⟨bl, ol + q, none⟩) hbl).trans hcl
  have HB := Lib.hid (Below.drewB (Hw0.out.trans (B1.out.mono Hw0.out.size)))
  rw [hpl] at m6 k6 hw0 ⊢
  rw [hll] at m5 hw0 ⊢
  clear h hio hmo hsw hbp hbl hq hr hcl
  clear hpl hll
  unfold pagerV
  go_enter Tryz.func40, Tryz.ntmps40
  go_wp2_with fail
  clear hW1 hw0
  refine wp_region_held_drew (S := (fun wz => wz.cell? ⟨w.heap.size, 0, none⟩ = some (.slice (some ⟨bm, om, none⟩) 12 cm) ∧ wz.cell? ⟨w.heap.size, 5, none⟩ = some (.slice (some ⟨bl, ol, none⟩) 4 cl) ∧ wz.cell? ⟨bl, ol + q, none⟩ = some (.int .i64 f0) ∧ wz.cell? ⟨bm, om + f0, none⟩ = some (.slice (some ⟨bq, oq, none⟩) 4 cq) ∧ wz.cell? ⟨bq, oq + r, none⟩ = some (.int .i64 wd))) (by kernel_rfl) (by first | assumption | go_keep) (fun hHeld => ?_)
  refine wpAnyH_take (i := 0) (v := ?_) rfl (by kernel_rfl) (by kernel_rfl) (by kernel_rfl) (fun _ _ _ h => h) (Or.inl ⟨by rfl, ?_⟩) (by assumption) ?_
  rotate_left
  · intro w hSw; (try dsimp only at hSw); go_simp; try with_reducible rfl
  try simp only [Act.put, List.getElem_toArray, List.getElem_cons_zero, List.setIfInBounds_toArray, List.set_cons_zero, List.set_cons_succ]
  refine wpAnyH_take (i := 1) (v := ?_) rfl (by kernel_rfl) (by kernel_rfl) (by kernel_rfl) (fun _ _ _ h => h) (Or.inl ⟨by rfl, ?_⟩) (by assumption) ?_
  rotate_left
  · intro w hSw; (try dsimp only at hSw); go_simp; try with_reducible rfl
  try simp only [Act.put, List.getElem_toArray, List.getElem_cons_zero, List.getElem_cons_succ, List.setIfInBounds_toArray, List.set_cons_zero, List.set_cons_succ]
  refine wpAnyH_take (i := 2) (v := ?_) rfl (by kernel_rfl) (by kernel_rfl) (by kernel_rfl) (fun _ _ _ h => h) (Or.inl ⟨by rfl, ?_⟩) (by assumption) ?_
  rotate_left
  · intro w hSw; (try dsimp only at hSw); go_simp; try with_reducible rfl
  try simp only [Act.put, List.getElem_toArray, List.getElem_cons_zero, List.getElem_cons_succ, List.setIfInBounds_toArray, List.set_cons_zero, List.set_cons_succ]
  refine wpAnyH_take (i := 3) (v := ?_) rfl (by kernel_rfl) (by kernel_rfl) (by kernel_rfl) (fun _ _ _ h => h) (Or.inl ⟨by rfl, ?_⟩) (by assumption) ?_
  rotate_left
  · intro w hSw; (try dsimp only at hSw); go_simp; try with_reducible rfl
  try simp only [Act.put, List.getElem_toArray, List.getElem_cons_zero, List.getElem_cons_succ, List.setIfInBounds_toArray, List.set_cons_zero, List.set_cons_succ]
  refine wpAnyH_take (i := 4) (v := ?_) rfl (by kernel_rfl) (by kernel_rfl) (by kernel_rfl) (fun _ _ _ h => h) (Or.inl ⟨by rfl, ?_⟩) (by assumption) ?_
  rotate_left
  · intro w hSw; (try dsimp only at hSw); go_simp; try with_reducible rfl
  try simp only [Act.put, List.getElem_toArray, List.getElem_cons_zero, List.getElem_cons_succ, List.setIfInBounds_toArray, List.set_cons_zero, List.set_cons_succ]
  refine wpAnyH_take (i := 5) (v := ?_) rfl (by kernel_rfl) (by kernel_rfl) (by kernel_rfl) (fun _ _ _ h => h) (Or.inl ⟨by rfl, ?_⟩) (by assumption) ?_
  rotate_left
  · intro w hSw; (try dsimp only at hSw); go_simp; try with_reducible rfl
  try simp only [Act.put, List.getElem_toArray, List.getElem_cons_zero, List.getElem_cons_succ, List.setIfInBounds_toArray, List.set_cons_zero, List.set_cons_succ]
  refine wpAnyH_take (i := 6) (v := ?_) rfl (by kernel_rfl) (by kernel_rfl) (by kernel_rfl) (fun _ _ _ h => h) (Or.inl ⟨by rfl, ?_⟩) (by assumption) ?_
  rotate_left
  · intro w hSw; (try dsimp only at hSw); go_simp; try with_reducible rfl
  try simp only [Act.put, List.getElem_toArray, List.getElem_cons_zero, List.getElem_cons_succ, List.setIfInBounds_toArray, List.set_cons_zero, List.set_cons_succ]
  refine wpAnyH_take (i := 7) (v := ?_) rfl (by kernel_rfl) (by kernel_rfl) (by kernel_rfl) (fun _ _ _ h => h) (Or.inl ⟨by rfl, ?_⟩) (by assumption) ?_
  rotate_left
  · intro w hSw; (try dsimp only at hSw); go_simp; try with_reducible rfl
  try simp only [Act.put, List.getElem_toArray, List.getElem_cons_zero, List.getElem_cons_succ, List.setIfInBounds_toArray, List.set_cons_zero, List.set_cons_succ]
  refine wpAnyH_take (i := 8) (v := ?_) rfl (by kernel_rfl) (by kernel_rfl) (by kernel_rfl) (fun _ _ _ h => h) (Or.inl ⟨by rfl, ?_⟩) (by assumption) ?_
  rotate_left
  · intro w hSw; (try dsimp only at hSw); go_simp; try with_reducible rfl
  try simp only [Act.put, List.getElem_toArray, List.getElem_cons_zero, List.getElem_cons_succ, List.setIfInBounds_toArray, List.set_cons_zero, List.set_cons_succ]
  refine wpAnyH_take (i := 9) (v := ?_) rfl (by kernel_rfl) (by kernel_rfl) (by kernel_rfl) (fun _ _ _ h => h) (Or.inl ⟨by rfl, ?_⟩) (by assumption) ?_
  rotate_left
  · intro w hSw; (try dsimp only at hSw); go_simp; try with_reducible rfl
  try simp only [Act.put, List.getElem_toArray, List.getElem_cons_zero, List.getElem_cons_succ, List.setIfInBounds_toArray, List.set_cons_zero, List.set_cons_succ]
  refine wpAnyH_take (i := 10) (v := ?_) rfl (by kernel_rfl) (by kernel_rfl) (by kernel_rfl) (fun _ _ _ h => h) (Or.inl ⟨by rfl, ?_⟩) (by assumption) ?_
  rotate_left
  · intro w hSw; (try dsimp only at hSw); go_simp; try with_reducible rfl
  try simp only [Act.put, List.getElem_toArray, List.getElem_cons_zero, List.getElem_cons_succ, List.setIfInBounds_toArray, List.set_cons_zero, List.set_cons_succ]
  refine wpAnyH_take (i := 11) (v := ?_) rfl (by kernel_rfl) (by kernel_rfl) (by kernel_rfl) (fun _ _ _ h => h) (Or.inl ⟨by rfl, ?_⟩) (by assumption) ?_
  rotate_left
  · intro w hSw; (try dsimp only at hSw); go_simp; try with_reducible rfl
  try simp only [Act.put, List.getElem_toArray, List.getElem_cons_zero, List.getElem_cons_succ, List.setIfInBounds_toArray, List.set_cons_zero, List.set_cons_succ]
  refine wpAnyH_take (i := 12) (v := ?_) rfl (by kernel_rfl) (by kernel_rfl) (by kernel_rfl) (fun _ _ _ h => h) (Or.inl ⟨by rfl, ?_⟩) (by assumption) ?_
  rotate_left
  · intro w hSw; (try dsimp only at hSw); go_simp; try with_reducible rfl
  try simp only [Act.put, List.getElem_toArray, List.getElem_cons_zero, List.getElem_cons_succ, List.setIfInBounds_toArray, List.set_cons_zero, List.set_cons_succ]
  refine wpAnyH_take (i := 13) (v := ?_) rfl (by kernel_rfl) (by kernel_rfl) (by kernel_rfl) (fun _ _ _ h => h) (Or.inl ⟨by rfl, ?_⟩) (by assumption) ?_
  rotate_left
  · intro w hSw; (try dsimp only at hSw); go_simp; try with_reducible rfl
  try simp only [Act.put, List.getElem_toArray, List.getElem_cons_zero, List.getElem_cons_succ, List.setIfInBounds_toArray, List.set_cons_zero, List.set_cons_succ]
  refine wpAnyH_take (i := 14) (v := ?_) rfl (by kernel_rfl) (by kernel_rfl) (by kernel_rfl) (fun _ _ _ h => h) (Or.inl ⟨by rfl, ?_⟩) (by assumption) ?_
  rotate_left
  · intro w hSw; (try dsimp only at hSw); go_simp; try with_reducible rfl
  try simp only [Act.put, List.getElem_toArray, List.getElem_cons_zero, List.getElem_cons_succ, List.setIfInBounds_toArray, List.set_cons_zero, List.set_cons_succ]
  refine wpAnyH_take (i := 15) (v := ?_) rfl (by kernel_rfl) (by kernel_rfl) (by kernel_rfl) (fun _ _ _ h => h) (Or.inl ⟨by rfl, ?_⟩) (by assumption) ?_
  rotate_left
  · intro w hSw; (try dsimp only at hSw); go_simp; try with_reducible rfl
  try simp only [Act.put, List.getElem_toArray, List.getElem_cons_zero, List.getElem_cons_succ, List.setIfInBounds_toArray, List.set_cons_zero, List.set_cons_succ]
  refine wpAnyH_done (by kernel_rfl) ?_ _
  clear eq er hqw et
  by_cases h0 : x = 0
  · subst h0
    have Hok := Lib.hid (show Kx.pageOk p n = (((⟨0, y, z⟩ : Kx.Page) == Kx.Page.zero) && wd == 0) from Hok.out)
    by_cases hy : y = 0
    case neg =>
      have HF := Lib.hid (show Kx.pageOk p n = false by rw [Hok.out, show ((⟨0, y, z⟩ : Kx.Page) == Kx.Page.zero) = false from by simp [Kx.Page.zero, hy], Bool.false_and])
      have hyb : (y == 0) = false := by simpa using hy
      clear Hok hy
      go_wp2_with fail
      go_ret
      exact ⟨ret_bool HF.out.symm, HB.out⟩
    subst hy
    cases z
    case true =>
      have HF := Lib.hid (show Kx.pageOk p n = false by rw [Hok.out]; rfl)
      clear Hok
      go_wp2_with fail
      go_ret
      exact ⟨ret_bool HF.out.symm, HB.out⟩
    have HF := Lib.hid (show Kx.pageOk p n = (wd == 0) by rw [Hok.out]; rfl)
    clear Hok
    go_wp2_with fail
    go_ret
    exact ⟨ret_bool HF.out.symm, HB.out⟩
  have hxa : (x == 0) = false := by simpa using h0
  by_cases h1 : x = 1
  · subst h1
    have Hok := Lib.hid (show Kx.pageOk p n = (Kx.inR y 0 11 && wd == Kx.put y.toNat true && decide ((Kx.inf p.k.infos y.toNat).guard = Kx.sA) && (Kx.inf p.k.infos y.toNat).refs == 1) from Hok.out)
    go_wp2_with fail
    refine (l1Frame_c _ _).mono ?_; rintro e w' ⟨rfl, rfl⟩
    cases hin : Kx.inR y 0 11 with
    | false =>
      have HF := Lib.hid (show Kx.pageOk p n = false by rw [Hok.out, hin]; rfl)
      clear hin Hok h0 hxa
      go_wp2_with fail
      go_ret
      exact ⟨ret_bool HF.out.symm, HB.out⟩
    | true =>
      obtain ⟨y0, y11⟩ := Kx.inR_true.1 hin
      obtain ⟨g, rfl⟩ := Int.eq_ofNat_of_zero_le y0
      rw [hin, Bool.true_and, Int.toNat_natCast] at Hok
      have hg12 : g < 12 := by omega
      obtain ⟨bi, oi, ci', ev, _, j0, j1, j2⟩ := RInfo.at HP1.out.k.i (k := g) (by rw [Hio.out]; exact hg12)
      simp only [Value.slice.injEq] at ev
      obtain ⟨rfl, _, rfl⟩ := ev
      have hgI : (g : Int) < (p.k.infos.length : Int) := by rw [Hio.out]; omega
      clear hin y0 h0 hxa
      generalize (Kx.inf p.k.infos g).guard = gf at j1 Hok
      generalize (Kx.inf p.k.infos g).refs = rf at j2 Hok
      go_wp2_with fail
      refine (l1Put_c g true _ hg12).mono ?_; rintro e w' ⟨rfl, rfl⟩
      generalize Kx.put g true = pw at Hok ⊢
      by_cases hw : wd = pw
      case neg =>
        have hwb : (wd == pw) = false := by simpa using hw
        have HF := Lib.hid (show Kx.pageOk p n = false by rw [Hok.out, hwb]; rfl)
        clear Hok hw
        go_wp2_with fail
        go_ret
        exact ⟨ret_bool HF.out.symm, HB.out⟩
      subst hw
      rw [beq_self_eq_true, Bool.true_and] at Hok
      by_cases hg : gf = Kx.sA
      case neg =>
        have hgt := toList_inj hg
        have hgd : decide (ByteArray.toList gf = [97]) = false := by simpa using hgt
        have hge : (ByteArray.toList gf == [97]) = false := by simpa using hgt
        have HF := Lib.hid (show Kx.pageOk p n = false by rw [Hok.out, show decide (gf = Kx.sA) = false from by simpa using hg]; rfl)
        clear Hok hg
        go_wp2_with fail
        go_ret
        exact ⟨ret_bool HF.out.symm, HB.out⟩
      have HF := Lib.hid (show Kx.pageOk p n = (rf == 1) by rw [Hok.out, show decide (gf = Kx.sA) = true from by simpa using hg]; simp)
      unfold Kx.sA at hg
      subst hg
      clear Hok
      go_wp2_with fail
      go_ret
      exact ⟨ret_bool HF.out.symm, HB.out⟩
  have hxb : (x == 1) = false := by simpa using h1
  by_cases h2 : x = 2
  · subst h2
    have Hok := Lib.hid (show Kx.pageOk p n = (Kx.inR y 0 15 && !(Kx.row p.swap y.toNat).isEmpty && !z && wd == 0) from Hok.out)
    have HG := Lib.hid (show getOk p.swap y = (Kx.inR y 0 15 && !(Kx.row p.swap y.toNat).isEmpty) by unfold getOk; rw [Hsw.out, Bool.true_and])
    clear h0 h1 hxa hxb
    go_wp2_with fail
    refine (SwapGet_c p.swap y _ W1.drew (show RM W1.drew _ _ from HP1.out.s)).mono ?_; rintro e w3 ⟨u3, rfl, _, hb3⟩
    have d2 : w3.cell? ⟨w0.heap.size, 2, none⟩ = some (.bool z) := ((Below.undrew hb3).cell (p := ⟨w0.heap.size, 2, none⟩) HS1.out).trans c2
    have HB3 := Lib.hid (HB.out.trans (hb3.mono HB.out.size))
    clear hb3 c0 c1 c2
    cases hgo : getOk p.swap y with
    | false =>
      have HF := Lib.hid (show Kx.pageOk p n = false by rw [Hok.out, ← HG.out, hgo]; rfl)
      clear Hok HG hgo
      go_wp2_with fail
      go_ret
      exact ⟨ret_bool HF.out.symm, HB3.out⟩
    | true =>
      have Hok := Lib.hid (show Kx.pageOk p n = (!z && wd == 0) by rw [Hok.out, ← HG.out, hgo]; simp)
      clear HG hgo
      cases z
      · have HF := Lib.hid (show Kx.pageOk p n = (wd == 0) by rw [Hok.out]; rfl)
        clear Hok
        go_wp2_with fail
        go_ret
        exact ⟨ret_bool HF.out.symm, HB3.out⟩
      · have HF := Lib.hid (show Kx.pageOk p n = false by rw [Hok.out]; rfl)
        clear Hok
        go_wp2_with fail
        go_ret
        exact ⟨ret_bool HF.out.symm, HB3.out⟩
  have hxc : (x == 2) = false := by simpa using h2
  have HF := Lib.hid (show Kx.pageOk p n = false by rw [Hok.out, if_neg h0, if_neg h1, if_neg h2])
  clear Hok h0 h1 h2
  go_wp2_with fail
  go_ret
  exact ⟨ret_bool HF.out.symm, HB.out⟩
end Go.Proofs.YtfnpjdgjceiklaaGreatDoor
