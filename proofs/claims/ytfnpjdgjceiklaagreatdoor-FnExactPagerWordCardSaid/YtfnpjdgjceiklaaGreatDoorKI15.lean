/- Contracts: the impl's side: pageOk. (printed by ki15.py) -/
import Derived.Test.YtfnpjdgjceiklaaGreatDoorKI13
namespace Go.Proofs.YtfnpjdgjceiklaaGreatDoor
open Go.RowKit

/-- a row of numbers by their places -/
def tabN (n : Nat) (F : Nat → Nat) : List Int := (List.range n).map fun g => (F g : Int)
theorem tabN_length (n : Nat) (F : Nat → Nat) : (tabN n F).length = n := by simp [tabN]
theorem tabN_get (n : Nat) (F : Nat → Nat) (k : Nat) (h : k < (tabN n F).length) : (tabN n F)[k] = (F k : Int) := by simp [tabN]
theorem tabN_set (n : Nat) (F F' : Nat → Nat) (k : Nat) (x : Int) (hx : x = (F' k : Int)) (h : ∀ g, g ≠ k → F' g = F g) : (tabN n F).set k x = tabN n F' := by
  refine List.ext_getElem (by simp [tabN]) fun i h1 h2 => ?_
  rw [List.getElem_set]
  split
  · rename_i e; subst e; rw [tabN_get, hx]
  · rename_i e; rw [tabN_get, tabN_get, h i (Ne.symm e)]
theorem tabN_congr {n : Nat} {F F' : Nat → Nat} (h : ∀ g, g < n → F g = F' g) : tabN n F = tabN n F' := by
  unfold tabN
  exact List.map_congr_left fun g hg => by rw [h g (by simpa using hg)]
/-- what the program asks of a page by itself -/
def pI (p : Kx.Pager) (n : Nat) : Bool :=
  if (Kx.pageAt p.pages n).wh = 0 then (Kx.pageAt p.pages n) == Kx.Page.zero && Kx.word p.k.mem ((p.low.getD (n / 4) 0).toNat) (n % 4) == 0
  else if (Kx.pageAt p.pages n).wh = 1 then Kx.inR (Kx.pageAt p.pages n).at_ 0 11 && (Kx.word p.k.mem ((p.low.getD (n / 4) 0).toNat) (n % 4) == Kx.put (Kx.pageAt p.pages n).at_.toNat true) && mine p.k.infos (Kx.pageAt p.pages n).at_.toNat
  else if (Kx.pageAt p.pages n).wh = 2 then Kx.inR (Kx.pageAt p.pages n).at_ 0 15 && !(Kx.pageAt p.pages n).used && Kx.word p.k.mem ((p.low.getD (n / 4) 0).toNat) (n % 4) == 0
  else false
theorem pI_eq (p : Kx.Pager) (n : Nat) : pI p n = (
  if (Kx.pageAt p.pages n).wh = 0 then (Kx.pageAt p.pages n) == Kx.Page.zero && Kx.word p.k.mem ((p.low.getD (n / 4) 0).toNat) (n % 4) == 0
  else if (Kx.pageAt p.pages n).wh = 1 then Kx.inR (Kx.pageAt p.pages n).at_ 0 11 && (Kx.word p.k.mem ((p.low.getD (n / 4) 0).toNat) (n % 4) == Kx.put (Kx.pageAt p.pages n).at_.toNat true) && mine p.k.infos (Kx.pageAt p.pages n).at_.toNat
  else if (Kx.pageAt p.pages n).wh = 2 then Kx.inR (Kx.pageAt p.pages n).at_ 0 15 && !(Kx.pageAt p.pages n).used && Kx.word p.k.mem ((p.low.getD (n / 4) 0).toNat) (n % 4) == 0
  else false) := rfl
/-- the call says whether the page is as it should be, and counts it -/
def KeptP (p : Kx.Pager) (n : Nat) (w : World) (base : Nat) (g cap : Nat) (e : Ending) (w' : World) : Prop :=
  e = .returned (.bool (pI p n)) ∧ w.grownBy w' (some g) ∧ (pI p n = true → OS intC 1 3 w' base (.slice (some ⟨g, 0, none⟩) 16 cap) (tabN 16 fun s => cntS p s (n + 1)))
theorem KeptP.no {p : Kx.Pager} {n : Nat} {w w' : World} {base g cap : Nat} (h : pI p n = false) (hg : w.grownBy w' (some g)) : KeptP p n w base g cap (.returned (.bool false)) w' :=
  ⟨by rw [h], hg, fun e => by rw [h] at e; cases e⟩
theorem KeptP.yes {p : Kx.Pager} {n : Nat} {w w' : World} {base g cap : Nat} {b : Bool} (h : pI p n = b) (hb : Below w.heap.size w w') (hk : OS intC 1 3 w base (.slice (some ⟨g, 0, none⟩) 16 cap) (tabN 16 fun s => cntS p s n)) (hs : ∀ s, cntS p s (n + 1) = cntS p s n) : KeptP p n w base g cap (.returned (.bool b)) w' :=
  ⟨by rw [h], grownBy_of_below hb _, fun _ => by rw [show (tabN 16 fun s => cntS p s (n + 1)) = tabN 16 fun s => cntS p s n from tabN_congr fun s _ => hs s]; exact hk.below hb⟩
set_option maxHeartbeats 4000000 in
theorem pageOkI_c (p : Kx.Pager) (n pb base g cap : Nat) (vm vi ve vc vs vl vp : Value) (hand limit : Int) (w : World) (h : RP w vm vi ve vc vs vl vp p) (hbx : BoxP w pb vm vi ve vc vs vl vp hand limit) (hmo : Kx.memOk p.k.mem = true) (hio : Kx.infosOk p.k.infos = true) (hpl : p.pages.length = 16) (hll : p.low.length = 4)
    (hlo : ∀ i, i < 4 → 0 ≤ p.low.getD i 0 ∧ p.low.getD i 0 ≤ 11) (hn : n < 16) (hk : OS intC 1 3 w base (.slice (some ⟨g, 0, none⟩) 16 cap) (tabN 16 fun s => cntS p s n)) :
    Calls Tryz.prog 50 #[.pointer (some ⟨pb, 0, none⟩), .int .i64 n, .slice (some ⟨g, 0, none⟩) 16 cap] w (KeptP p n w base g cap) := by
  have Hok := Lib.hid (pI_eq p n)
  have Hbx := Lib.hid hbx; have HP := Lib.hid h; have Hio := Lib.hid hio
  have HW := Lib.hid (show ∀ wz, Below w.heap.size w wz → Calls Tryz.prog 115 #[.pointer (some ⟨pb, 0, none⟩), .int .i64 n] wz (Qt (.int .i64 (Kx.word p.k.mem (p.low.getD (n / 4) 0).toNat (n % 4))) wz) from fun wz hz => word_c p.k.mem p.low n pb vm vl wz (h.k.m.below hz) hmo (h.l.below hz) hll hlo hn (hbx.below hz).1.1 (hbx.below hz).2.1.2.1)
  have hnI : (n : Int) < 16 := by omega
  have Hstep := Lib.hid (fun s => cntS_step p s n (by omega))
  have Hle := Lib.hid (fun s => cntS_le p s n)
  have Hk := Lib.hid hk
  have k6 := hbx.2.1.2.2.1
  have hbl := Lib.hid hbx.2.2
  obtain ⟨bp, op, cp, rfl, hbp, g0, g1, g2⟩ := RPage.at h.g (k := n) (by omega)
  have Hbp := Lib.hid hbp
  rw [hpl] at k6 HP Hbx
  generalize Kx.word p.k.mem ((p.low.getD (n / 4) 0).toNat) (n % 4) = wd at HW Hok
  generalize hx : Kx.pageAt p.pages n = pg at g0 g1 g2 Hok Hstep
  obtain ⟨x, y, z⟩ := pg
  dsimp only at g0 g1 g2 Hok
  have Hpl := Lib.hid hpl
  clear h hbx hmo hio hpl hll hlo hk hbp hx
  have Hcl := Lib.hid (show ∀ wz, Below w.heap.size w wz → (wz.cell? ⟨pb, 6, none⟩ = some (.slice (some ⟨bp, op, none⟩) 16 cp) ∧ wz.cell? ⟨bp, op + n * 3, none⟩ = some (.int .i64 x) ∧ wz.cell? ⟨bp, op + n * 3 + 1, none⟩ = some (.int .i64 y) ∧ wz.cell? ⟨bp, op + n * 3 + 2, none⟩ = some (.bool z)) from fun wz hz => ⟨(hz.cell (p := ⟨pb, 6, none⟩) hbl.out).trans k6, (hz.cell (p := ⟨bp, op + n * 3, none⟩) Hbp.out).trans g0, (hz.cell (p := ⟨bp, op + n * 3 + 1, none⟩) Hbp.out).trans g1, (hz.cell (p := ⟨bp, op + n * 3 + 2, none⟩) Hbp.out).trans g2⟩)
  have S1 := Hcl.out w (Below.refl _ _)
  go_enter Tryz.func50, Tryz.ntmps50
  go_wp2_with fail
  obtain ⟨W1, hW1⟩ : ∃ W1, (w.alloc (.cells #[.int .i64 0, .int .i64 0, .bool false] 90)).drew = W1 := ⟨_, rfl⟩
  have B1 := Lib.hid (show Below w.heap.size w W1 from hW1 ▸ Below.drewB (Below.lit (Below.refl _ _) _))
  have S2 := Hcl.out W1 B1.out
  have HZ := Lib.hid (show ∀ wz, Below W1.heap.size W1 wz → ((wz.frozen? ⟨w.heap.size, 0, none⟩ = false ∧ wz.frozen? ⟨w.heap.size, 1, none⟩ = false ∧ wz.frozen? ⟨w.heap.size, 2, none⟩ = false) ∧
      wz.cell? ⟨w.heap.size, 0, none⟩ = some (.int .i64 0) ∧ wz.cell? ⟨w.heap.size, 1, none⟩ = some (.int .i64 0) ∧ wz.cell? ⟨w.heap.size, 2, none⟩ = some (.bool false)) ∧ w.heap.size < wz.heap.size from fun wz hz => by
    have hl : w.heap.size < W1.heap.size := by rw [← hW1]; show w.heap.size < (w.alloc _).heap.size; simp
    have h : (w.alloc (.cells #[.int .i64 0, .int .i64 0, .bool false] 90)).heap[w.heap.size]? = some (.cells #[.int .i64 0, .int .i64 0, .bool false] 90 (0, 0)) := heap_alloc_new w _
    have h' : W1.heap[w.heap.size]? = some (.cells #[.int .i64 0, .int .i64 0, .bool false] 90 (0, 0)) := by rw [← hW1]; exact h
    have hf : ∀ o, W1.frozen? ⟨w.heap.size, o, none⟩ = false := fun o => by
      simp only [World.frozen?, h']
      simp
    exact ⟨⟨⟨(hz.frozen (p := ⟨w.heap.size, 0, none⟩) hl).trans (hf 0), (hz.frozen (p := ⟨w.heap.size, 1, none⟩) hl).trans (hf 1), (hz.frozen (p := ⟨w.heap.size, 2, none⟩) hl).trans (hf 2)⟩,
      (hz.cell (p := ⟨w.heap.size, 0, none⟩) hl).trans (cell_of_row _ _ 0 _ _ _ h'), (hz.cell (p := ⟨w.heap.size, 1, none⟩) hl).trans (cell_of_row _ _ 1 _ _ _ h'), (hz.cell (p := ⟨w.heap.size, 2, none⟩) hl).trans (cell_of_row _ _ 2 _ _ _ h')⟩, Nat.lt_of_lt_of_le hl hz.size⟩)
  refine wp_region_held_drew (S := (fun wz => wz.cell? ⟨pb, 6, none⟩ = some (.slice (some ⟨bp, op, none⟩) 16 cp) ∧ wz.cell? ⟨bp, op + n * 3, none⟩ = some (.int .i64 x) ∧ wz.cell? ⟨bp, op + n * 3 + 1, none⟩ = some (.int .i64 y) ∧ wz.cell? ⟨bp, op + n * 3 + 2, none⟩ = some (.bool z))) (by kernel_rfl) (by first | assumption | go_keep) (fun hHeld => ?_)
  refine wpAnyH_take (i := 0) (v := ?_) rfl (by kernel_rfl) (by kernel_rfl) (by kernel_rfl) (fun _ _ _ h => h) (Or.inl ⟨by rfl, ?_⟩) (by assumption) ?_
  rotate_left
  · intro w hSw; (try dsimp only at hSw); go_simp; try with_reducible rfl
  try simp only [Act.put, List.getElem_toArray, List.getElem_cons_zero, List.setIfInBounds_toArray, List.set_cons_zero, List.set_cons_succ]
  refine wpAnyH_take (i := 1) (v := ?_) rfl (by kernel_rfl) (by kernel_rfl) (by kernel_rfl) (fun _ _ _ h => h) (Or.inl ⟨by rfl, ?_⟩) (by assumption) ?_
  rotate_left
  · intro w hSw; (try dsimp only at hSw); go_simp; try with_reducible rfl
  try simp only [Act.put, List.getElem_toArray, List.getElem_cons_zero, List.getElem_cons_succ, List.setIfInBounds_toArray, List.set_cons_zero, List.set_cons_succ]
  refine wpAnyH_take (i := 2) (v := ?_) rfl (by kernel_rfl) (by kernel_rfl) (by kernel_rfl) (fun _ _ _ h => h) (Or.inl ⟨by rfl, ?_⟩) (by assumption) ?_
  rotate_left
  · intro w hSw; (try dsimp only at hSw); go_simp; try with_reducible rfl
  try simp only [Act.put, List.getElem_toArray, List.getElem_cons_zero, List.getElem_cons_succ, List.setIfInBounds_toArray, List.set_cons_zero, List.set_cons_succ]
  refine wpAnyH_take (i := 3) (v := ?_) rfl (by kernel_rfl) (by kernel_rfl) (by kernel_rfl) (fun _ _ _ h => h) (Or.inl ⟨by rfl, ?_⟩) (by assumption) ?_
  rotate_left
  · intro w hSw; (try dsimp only at hSw); go_simp; try with_reducible rfl
  try simp only [Act.put, List.getElem_toArray, List.getElem_cons_zero, List.getElem_cons_succ, List.setIfInBounds_toArray, List.set_cons_zero, List.set_cons_succ]
  refine wpAnyH_take (i := 4) (v := ?_) rfl (by kernel_rfl) (by kernel_rfl) (by kernel_rfl) (fun _ _ _ h => h) (Or.inl ⟨by rfl, ?_⟩) (by assumption) ?_
  rotate_left
  · intro w hSw; (try dsimp only at hSw); go_simp; try with_reducible rfl
  try simp only [Act.put, List.getElem_toArray, List.getElem_cons_zero, List.getElem_cons_succ, List.setIfInBounds_toArray, List.set_cons_zero, List.set_cons_succ]
  refine wpAnyH_take (i := 5) (v := ?_) rfl (by kernel_rfl) (by kernel_rfl) (by kernel_rfl) (fun _ _ _ h => h) (Or.inl ⟨by rfl, ?_⟩) (by assumption) ?_
  rotate_left
  · intro w hSw; (try dsimp only at hSw); go_simp; try with_reducible rfl
  try simp only [Act.put, List.getElem_toArray, List.getElem_cons_zero, List.getElem_cons_succ, List.setIfInBounds_toArray, List.set_cons_zero, List.set_cons_succ]
  refine wpAnyH_take (i := 6) (v := ?_) rfl (by kernel_rfl) (by kernel_rfl) (by kernel_rfl) (fun _ _ _ h => h) (Or.inl ⟨by rfl, ?_⟩) (by assumption) ?_
  rotate_left
  · intro w hSw; (try dsimp only at hSw); go_simp; try with_reducible rfl
  try simp only [Act.put, List.getElem_toArray, List.getElem_cons_zero, List.getElem_cons_succ, List.setIfInBounds_toArray, List.set_cons_zero, List.set_cons_succ]
  refine wpAnyH_take (i := 7) (v := ?_) rfl (by kernel_rfl) (by kernel_rfl) (by kernel_rfl) (fun _ _ _ h => h) (Or.inl ⟨by rfl, ?_⟩) (by assumption) ?_
  rotate_left
  · intro w hSw; (try dsimp only at hSw); go_simp; try with_reducible rfl
  try simp only [Act.put, List.getElem_toArray, List.getElem_cons_zero, List.getElem_cons_succ, List.setIfInBounds_toArray, List.set_cons_zero, List.set_cons_succ]
  refine wpAnyH_take (i := 8) (v := ?_) rfl (by kernel_rfl) (by kernel_rfl) (by kernel_rfl) (fun _ _ _ h => h) (Or.inl ⟨by rfl, ?_⟩) (by assumption) ?_
  rotate_left
  · intro w hSw; (try dsimp only at hSw); go_simp; try with_reducible rfl
  try simp only [Act.put, List.getElem_toArray, List.getElem_cons_zero, List.getElem_cons_succ, List.setIfInBounds_toArray, List.set_cons_zero, List.set_cons_succ]
  refine wpAnyH_ready (rs := [9, 10]) (by kernel_rfl) (by simp) ?_
  refine AllReadyH.cons rfl (fun K hK => ?_) (AllReadyH.cons rfl (fun K hK => ?_) AllReadyH.nil)
  · (rw [if_pos (by rfl)]; go_simp; go_at_call 115; refine (HW.out w.drew ⟨rfl, rfl, rfl, Nat.le_refl _, fun _ _ => rfl⟩).mono ?_; rintro e w2 ⟨rfl, nn, hw2⟩; have hb2 : Below w.heap.size w w2 := (by rw [hw2]; exact ⟨rfl, rfl, rfl, Nat.le_refl _, fun _ _ => rfl⟩); clear hw2; have hc2 := Hcl.out w2 hb2; go_wp2_with fail)
    refine hK.out _ _ ?_ (fun hHeld => ?_)
    · first | assumption | go_keep
    clear hK K
    try simp only [Act.put, List.getElem_toArray, List.getElem_cons_zero, List.getElem_cons_succ, List.setIfInBounds_toArray, List.set_cons_zero, List.set_cons_succ]
    refine wpAnyH_ready (rs := [10]) (by kernel_rfl) (by simp) ?_
    refine AllReadyH.cons rfl (fun K hK => ?_) AllReadyH.nil
    (rw [if_pos (by rfl)]; go_simp)
    refine hK.out _ _ ?_ (fun hHeld => ?_)
    · first | assumption | go_keep
    clear hK K
    try simp only [Act.put, List.getElem_toArray, List.getElem_cons_zero, List.getElem_cons_succ, List.setIfInBounds_toArray, List.set_cons_zero, List.set_cons_succ]
    refine wpAnyH_ready (rs := [11]) (by kernel_rfl) (by simp) ?_
    refine AllReadyH.cons rfl (fun K hK => ?_) AllReadyH.nil
    (rw [if_pos (by rfl)]; go_simp)
    refine hK.out _ _ ?_ (fun hHeld => ?_)
    · first | assumption | go_keep
    clear hK K
    try simp only [Act.put, List.getElem_toArray, List.getElem_cons_zero, List.getElem_cons_succ, List.setIfInBounds_toArray, List.set_cons_zero, List.set_cons_succ]
    refine wpAnyH_take (i := 12) (v := ?_) rfl (by kernel_rfl) (by kernel_rfl) (by kernel_rfl) (fun _ _ _ h => h) (Or.inl ⟨by rfl, ?_⟩) (by assumption) ?_
    rotate_left
    · intro w hSw; (try dsimp only at hSw); go_simp; try with_reducible rfl
    try simp only [Act.put, List.getElem_toArray, List.getElem_cons_zero, List.getElem_cons_succ, List.setIfInBounds_toArray, List.set_cons_zero, List.set_cons_succ]
    refine wpAnyH_done (by kernel_rfl) ?_ _
    obtain ⟨bx, ebx⟩ : ∃ b, w2.heap.size = b := ⟨_, rfl⟩
    obtain ⟨WF, hWF⟩ : ∃ W, w2.alloc (.cells #[.int .i64 x, .int .i64 y, .bool z] 90) = W := ⟨_, rfl⟩
    have BF := Lib.hid (show Below w.heap.size w WF from hWF ▸ hb2.alloc hb2.size _)
    have HX := Lib.hid (show (WF.cell? ⟨bx, 0, none⟩ = some (.int .i64 x) ∧ WF.cell? ⟨bx, 1, none⟩ = some (.int .i64 y) ∧ WF.cell? ⟨bx, 2, none⟩ = some (.bool z)) ∧ bx < WF.heap.size ∧ w.heap.size ≤ bx from by subst ebx; exact ⟨hWF ▸ Box3.new w2 _ _ _ _, by rw [← hWF]; simp, hb2.size⟩)
    rw [hWF, ebx]
    clear hWF ebx hc2 hb2
    clear S1 g0 g1 g2 k6 hW1 S2 HZ B1
    obtain ⟨⟨c0, c1, c2⟩, hbxl, hbx0⟩ := HX.out
    obtain ⟨⟨j0, j1, j2, j3⟩, ⟨j4, j5, j6, j7, j8⟩, _⟩ := Hbx.out.below BF.out
    by_cases h0 : x = 0
    · subst h0
      have HS := Lib.hid (show ∀ s, cntS p s (n + 1) = cntS p s n from fun s => by rw [Hstep.out, if_neg (by simp [slP])]; rfl)
      have Hok := Lib.hid (show pI p n = (((⟨0, y, z⟩ : Kx.Page) == Kx.Page.zero) && wd == 0) from Hok.out)
      by_cases hy : y = 0
      case neg =>
        have HF := Lib.hid (show pI p n = false by rw [Hok.out, show ((⟨0, y, z⟩ : Kx.Page) == Kx.Page.zero) = false from by simp [Kx.Page.zero, hy], Bool.false_and])
        have hyb : (y == 0) = false := by simpa using hy
        clear Hok hy
        go_wp2_with fail
        go_ret
        exact KeptP.yes HF.out BF.out Hk.out HS.out
      subst hy
      cases z
      case true =>
        have HF := Lib.hid (show pI p n = false by rw [Hok.out]; rfl)
        clear Hok
        go_wp2_with fail
        go_ret
        exact KeptP.yes HF.out BF.out Hk.out HS.out
      have HF := Lib.hid (show pI p n = (wd == 0) by rw [Hok.out]; rfl)
      clear Hok
      go_wp2_with fail
      go_ret
      exact KeptP.yes HF.out BF.out Hk.out HS.out
    have hxa : (x == 0) = false := by simpa using h0
    by_cases h1 : x = 1
    · subst h1
      have HS := Lib.hid (show ∀ s, cntS p s (n + 1) = cntS p s n from fun s => by rw [Hstep.out, if_neg (by simp [slP])]; rfl)
      have Hok1 := Lib.hid (show pI p n = (Kx.inR y 0 11 && (wd == Kx.put y.toNat true) && mine p.k.infos y.toNat) from Hok.out)
      clear Hok
      cases hin : Kx.inR y 0 11 with
      | false =>
        have HF := Lib.hid (show pI p n = false by rw [Hok1.out, hin]; rfl)
        have Hin := Lib.hid hin
        clear hin Hok1 h0 hxa
        go_wp2_with fail
        refine (EntryPutF_c _ _ Hin.out).mono ?_; rintro e w' ⟨rfl, rfl⟩
        go_wp2_with fail
        go_ret
        exact KeptP.yes HF.out BF.out Hk.out HS.out
      | true =>
        obtain ⟨y0, y11⟩ := Kx.inR_true.1 hin
        obtain ⟨f, rfl⟩ := Int.eq_ofNat_of_zero_le y0
        rw [hin, Bool.true_and, Int.toNat_natCast] at Hok1
        have hf12 : f < 12 := by omega
        have HC := Lib.hid (isMine_c p.k.infos f pb vi WF (RS.below HP.out.k.i BF.out) Hio.out hf12 j1)
        clear hin y0 h0 hxa
        generalize hpw : Kx.put f true = pw at Hok1
        have Hpw := Lib.hid hpw; clear hpw
        by_cases hw : wd = pw
        case neg =>
          have hwb : (wd == pw) = false := by simpa using hw
          have HF := Lib.hid (show pI p n = false by rw [Hok1.out, hwb]; rfl)
          clear Hok1 hw
          go_wp2_with fail
          refine (EntryPutT_c f _ hf12).mono ?_; rintro e w' ⟨rfl, rfl⟩; rw [Hpw.out]
          go_wp2_with fail
          go_ret
          exact KeptP.yes HF.out BF.out Hk.out HS.out
        have hwb : (wd == pw) = true := by simpa using hw
        rw [hwb, Bool.true_and] at Hok1
        clear hw
        go_wp2_with fail
        refine (EntryPutT_c f _ hf12).mono ?_; rintro e w' ⟨rfl, rfl⟩; rw [Hpw.out]
        go_wp2_with fail
        refine HC.out.mono ?_; rintro e w3 ⟨rfl, hb3⟩
        have B3 := Lib.hid (BF.out.trans (hb3.mono BF.out.size))
        clear hb3 HC c0 c1 c2 j0 j1 j2 j3 j4 j5 j6 j7 j8
        go_wp2_with fail
        go_ret
        exact KeptP.yes Hok1.out B3.out Hk.out HS.out
    have hxb : (x == 1) = false := by simpa using h1
    by_cases h2 : x = 2
    · subst h2
      have Hok := Lib.hid (show pI p n = (Kx.inR y 0 15 && !z && wd == 0) from Hok.out)
      clear h0 h1 hxa hxb
      cases hin : Kx.inR y 0 15 with
      | false =>
        have HF := Lib.hid (show pI p n = false by rw [Hok.out, hin]; rfl)
        have Hin := Lib.hid hin
        clear hin Hok
        go_wp2_with fail
        refine (withinK_c _ _ _ _).mono ?_; rintro e w' ⟨rfl, rfl⟩; rw [Hin.out]
        go_wp2_with fail
        go_ret
        exact KeptP.no HF.out (grownBy_of_below BF.out _)
      | true =>
        have Hin := Lib.hid hin
        obtain ⟨y0, y15⟩ := Kx.inR_true.1 hin
        obtain ⟨s0, rfl⟩ := Int.eq_ofNat_of_zero_le y0
        have hs16 : s0 < 16 := by omega
        rw [hin, Bool.true_and] at Hok
        clear hin y0
        cases z
        case true =>
          have HF := Lib.hid (show pI p n = false by rw [Hok.out]; rfl)
          clear Hok
          go_wp2_with fail
          refine (withinK_c _ _ _ _).mono ?_; rintro e w' ⟨rfl, rfl⟩; rw [Hin.out]
          go_wp2_with fail
          go_ret
          exact KeptP.no HF.out (grownBy_of_below BF.out _)
        rw [Bool.not_false, Bool.true_and] at Hok
        by_cases hw : wd = 0
        case neg =>
          have hwb : (wd == 0) = false := by simpa using hw
          have hwn : (wd != 0) = true := by simpa using hw
          have HF := Lib.hid (show pI p n = false by rw [Hok.out, hwb])
          clear Hok hw hwb
          go_wp2_with fail
          refine (withinK_c _ _ _ _).mono ?_; rintro e w' ⟨rfl, rfl⟩; rw [Hin.out]
          go_wp2_with fail
          go_ret
          exact KeptP.no HF.out (grownBy_of_below BF.out _)
        subst hw
        have HT := Lib.hid (show pI p n = true by rw [Hok.out]; rfl)
        have hkF := (Hk.out.below BF.out).oi
        obtain ⟨b6, cap6, e, _, hcg, hfg⟩ := hkF.at (k := s0) (by rw [tabN_length]; exact hs16)
        simp only [Value.slice.injEq, Option.some.injEq, Addr.mk.injEq] at e
        obtain ⟨⟨rfl, _, _⟩, he12, rfl⟩ := e
        clear he12
        rw [tabN_get] at hcg
        have hset := Lib.hid (tabN_set 16 (fun s => cntS p s n) (fun s => cntS p s (n + 1)) s0 ((cntS p s0 n : Int) + 1) (by rw [Hstep.out, if_pos (by simp [slP])]; omega) (fun i hi => by rw [Hstep.out, if_neg (by simp [slP]; omega)]; rfl))
        have hst := hkF.stored (tabN_length _ _) s0 ((cntS p s0 n : Int) + 1)
        rw [hset.out] at hst
        have Hst := Lib.hid hst.1
        have Hgr := Lib.hid (grownBy_trans (grownBy_of_below BF.out (some g)) hst.2)
        have hsI : (s0 : Int) < 16 := by omega
        have hbI : (cntS p s0 n : Int) ≤ 1000 := by have := Hle.out s0; omega
        clear hst hset hkF Hok
        generalize cntS p s0 n = q0 at hcg Hst hbI Hgr
        go_wp2_with fail
        refine (withinK_c _ _ _ _).mono ?_; rintro e w' ⟨rfl, rfl⟩; rw [Hin.out]
        go_wp2_with fail
        go_ret
        exact ⟨by rw [HT.out]; rfl, Hgr.out, fun _ => Hst.out.os⟩
    have hxc : (x == 2) = false := by simpa using h2
    have HF := Lib.hid (show pI p n = false by rw [Hok.out, if_neg h0, if_neg h1, if_neg h2])
    clear Hok h0 h1 h2
    go_wp2_with fail
    go_ret
    exact KeptP.no HF.out (grownBy_of_below BF.out _)
  · (rw [if_pos (by rfl)]; go_simp)
    refine hK.out _ _ ?_ (fun hHeld => ?_)
    · first | exact S2 | assumption | go_keep
    clear hK K
    try simp only [Act.put, List.getElem_toArray, List.getElem_cons_zero, List.getElem_cons_succ, List.setIfInBounds_toArray, List.set_cons_zero, List.set_cons_succ]
    refine wpAnyH_ready (rs := [9]) (by kernel_rfl) (by simp) ?_
    refine AllReadyH.cons rfl (fun K hK => ?_) AllReadyH.nil
    (rw [if_pos (by rfl)]; go_simp; go_at_call 115; refine (HW.out W1 B1.out).mono ?_; rintro e w2 ⟨rfl, nn, hw2⟩; have hb2 : Below W1.heap.size W1 w2 := (by rw [hw2]; exact ⟨rfl, rfl, rfl, Nat.le_refl _, fun _ _ => rfl⟩); clear hw2; have hb3 := B1.out.trans (hb2.mono B1.out.size); have hc2 := Hcl.out w2 hb3; obtain ⟨⟨⟨f0, f1, f2⟩, e0, e1, e2⟩, el⟩ := HZ.out w2 hb2; go_wp2_with fail)
    refine hK.out _ _ ?_ (fun hHeld => ?_)
    · first | assumption | go_keep
    clear hK K
    try simp only [Act.put, List.getElem_toArray, List.getElem_cons_zero, List.getElem_cons_succ, List.setIfInBounds_toArray, List.set_cons_zero, List.set_cons_succ]
    refine wpAnyH_ready (rs := [11]) (by kernel_rfl) (by simp) ?_
    refine AllReadyH.cons rfl (fun K hK => ?_) AllReadyH.nil
    (rw [if_pos (by rfl)]; go_simp)
    refine hK.out _ _ ?_ (fun hHeld => ?_)
    · exact Hcl.out _ (((hb3.setCell (p := ⟨w.heap.size, 0, none⟩) (Nat.le_refl _) _).setCell (p := ⟨w.heap.size, 1, none⟩) (Nat.le_refl _) _).setCell (p := ⟨w.heap.size, 2, none⟩) (Nat.le_refl _) _)
    clear hK K
    try simp only [Act.put, List.getElem_toArray, List.getElem_cons_zero, List.getElem_cons_succ, List.setIfInBounds_toArray, List.set_cons_zero, List.set_cons_succ]
    refine wpAnyH_take (i := 12) (v := ?_) rfl (by kernel_rfl) (by kernel_rfl) (by kernel_rfl) (fun _ _ _ h => h) (Or.inl ⟨by rfl, ?_⟩) (by assumption) ?_
    rotate_left
    · intro w hSw; (try dsimp only at hSw); go_simp; try with_reducible rfl
    try simp only [Act.put, List.getElem_toArray, List.getElem_cons_zero, List.getElem_cons_succ, List.setIfInBounds_toArray, List.set_cons_zero, List.set_cons_succ]
    refine wpAnyH_done (by kernel_rfl) ?_ _
    obtain ⟨bx, ebx⟩ : ∃ b, w.heap.size = b := ⟨_, rfl⟩
    have z0 := World.cell?_setCell_same' w2 ⟨w.heap.size, 0, none⟩ (.int .i64 x) (by rw [e0]; rfl)
    have hWF : ∃ WF, ((w2.setCell ⟨w.heap.size, 0, none⟩ (.int .i64 x)).setCell ⟨w.heap.size, 1, none⟩ (.int .i64 y)).setCell ⟨w.heap.size, 2, none⟩ (.bool z) = WF := ⟨_, rfl⟩
    obtain ⟨WF, hWF⟩ := hWF
    have BF := Lib.hid (show Below w.heap.size w WF from hWF ▸ ((hb3.setCell (p := ⟨w.heap.size, 0, none⟩) (Nat.le_refl _) _).setCell (p := ⟨w.heap.size, 1, none⟩) (Nat.le_refl _) _).setCell (p := ⟨w.heap.size, 2, none⟩) (Nat.le_refl _) _)
    have HX := Lib.hid (show (WF.cell? ⟨bx, 0, none⟩ = some (.int .i64 x) ∧ WF.cell? ⟨bx, 1, none⟩ = some (.int .i64 y) ∧ WF.cell? ⟨bx, 2, none⟩ = some (.bool z)) ∧ bx < WF.heap.size ∧ w.heap.size ≤ bx from by
      subst ebx
      have y1 : (w2.setCell ⟨w.heap.size, 0, none⟩ (.int .i64 x)).cell? ⟨w.heap.size, 1, none⟩ = some (.int .i64 0) := by rw [World.cell?_setCell_other _ _ _ _ (by simp)]; exact e1
      have y2 : ((w2.setCell ⟨w.heap.size, 0, none⟩ (.int .i64 x)).setCell ⟨w.heap.size, 1, none⟩ (.int .i64 y)).cell? ⟨w.heap.size, 2, none⟩ = some (.bool false) := by rw [World.cell?_setCell_other _ _ _ _ (by simp), World.cell?_setCell_other _ _ _ _ (by simp)]; exact e2
      have hsz : WF.heap.size = w2.heap.size := by rw [← hWF]; simp
      refine ⟨⟨?_, ?_, ?_⟩, by rw [hsz]; exact el, Nat.le_refl _⟩
      · rw [← hWF, World.cell?_setCell_other _ _ _ _ (by simp), World.cell?_setCell_other _ _ _ _ (by simp)]; exact z0
      · rw [← hWF, World.cell?_setCell_other _ _ _ _ (by simp)]; exact World.cell?_setCell_same' _ _ _ (by rw [y1]; rfl)
      · rw [← hWF]; exact World.cell?_setCell_same' _ _ _ (by rw [y2]; rfl))
    clear hc2 f0 f1 f2 e0 e1 e2 el z0
    rw [hWF, ebx]
    clear hWF hb2 hb3
    clear S1 g0 g1 g2 k6 hW1 S2 HZ B1
    obtain ⟨⟨c0, c1, c2⟩, hbxl, hbx0⟩ := HX.out
    obtain ⟨⟨j0, j1, j2, j3⟩, ⟨j4, j5, j6, j7, j8⟩, _⟩ := Hbx.out.below BF.out
    by_cases h0 : x = 0
    · subst h0
      have HS := Lib.hid (show ∀ s, cntS p s (n + 1) = cntS p s n from fun s => by rw [Hstep.out, if_neg (by simp [slP])]; rfl)
      have Hok := Lib.hid (show pI p n = (((⟨0, y, z⟩ : Kx.Page) == Kx.Page.zero) && wd == 0) from Hok.out)
      by_cases hy : y = 0
      case neg =>
        have HF := Lib.hid (show pI p n = false by rw [Hok.out, show ((⟨0, y, z⟩ : Kx.Page) == Kx.Page.zero) = false from by simp [Kx.Page.zero, hy], Bool.false_and])
        have hyb : (y == 0) = false := by simpa using hy
        clear Hok hy
        go_wp2_with fail
        go_ret
        exact KeptP.yes HF.out BF.out Hk.out HS.out
      subst hy
      cases z
      case true =>
        have HF := Lib.hid (show pI p n = false by rw [Hok.out]; rfl)
        clear Hok
        go_wp2_with fail
        go_ret
        exact KeptP.yes HF.out BF.out Hk.out HS.out
      have HF := Lib.hid (show pI p n = (wd == 0) by rw [Hok.out]; rfl)
      clear Hok
      go_wp2_with fail
      go_ret
      exact KeptP.yes HF.out BF.out Hk.out HS.out
    have hxa : (x == 0) = false := by simpa using h0
    by_cases h1 : x = 1
    · subst h1
      have HS := Lib.hid (show ∀ s, cntS p s (n + 1) = cntS p s n from fun s => by rw [Hstep.out, if_neg (by simp [slP])]; rfl)
      have Hok1 := Lib.hid (show pI p n = (Kx.inR y 0 11 && (wd == Kx.put y.toNat true) && mine p.k.infos y.toNat) from Hok.out)
      clear Hok
      cases hin : Kx.inR y 0 11 with
      | false =>
        have HF := Lib.hid (show pI p n = false by rw [Hok1.out, hin]; rfl)
        have Hin := Lib.hid hin
        clear hin Hok1 h0 hxa
        go_wp2_with fail
        refine (EntryPutF_c _ _ Hin.out).mono ?_; rintro e w' ⟨rfl, rfl⟩
        go_wp2_with fail
        go_ret
        exact KeptP.yes HF.out BF.out Hk.out HS.out
      | true =>
        obtain ⟨y0, y11⟩ := Kx.inR_true.1 hin
        obtain ⟨f, rfl⟩ := Int.eq_ofNat_of_zero_le y0
        rw [hin, Bool.true_and, Int.toNat_natCast] at Hok1
        have hf12 : f < 12 := by omega
        have HC := Lib.hid (isMine_c p.k.infos f pb vi WF (RS.below HP.out.k.i BF.out) Hio.out hf12 j1)
        clear hin y0 h0 hxa
        generalize hpw : Kx.put f true = pw at Hok1
        have Hpw := Lib.hid hpw; clear hpw
        by_cases hw : wd = pw
        case neg =>
          have hwb : (wd == pw) = false := by simpa using hw
          have HF := Lib.hid (show pI p n = false by rw [Hok1.out, hwb]; rfl)
          clear Hok1 hw
          go_wp2_with fail
          refine (EntryPutT_c f _ hf12).mono ?_; rintro e w' ⟨rfl, rfl⟩; rw [Hpw.out]
          go_wp2_with fail
          go_ret
          exact KeptP.yes HF.out BF.out Hk.out HS.out
        have hwb : (wd == pw) = true := by simpa using hw
        rw [hwb, Bool.true_and] at Hok1
        clear hw
        go_wp2_with fail
        refine (EntryPutT_c f _ hf12).mono ?_; rintro e w' ⟨rfl, rfl⟩; rw [Hpw.out]
        go_wp2_with fail
        refine HC.out.mono ?_; rintro e w3 ⟨rfl, hb3⟩
        have B3 := Lib.hid (BF.out.trans (hb3.mono BF.out.size))
        clear hb3 HC c0 c1 c2 j0 j1 j2 j3 j4 j5 j6 j7 j8
        go_wp2_with fail
        go_ret
        exact KeptP.yes Hok1.out B3.out Hk.out HS.out
    have hxb : (x == 1) = false := by simpa using h1
    by_cases h2 : x = 2
    · subst h2
      have Hok := Lib.hid (show pI p n = (Kx.inR y 0 15 && !z && wd == 0) from Hok.out)
      clear h0 h1 hxa hxb
      cases hin : Kx.inR y 0 15 with
      | false =>
        have HF := Lib.hid (show pI p n = false by rw [Hok.out, hin]; rfl)
        have Hin := Lib.hid hin
        clear hin Hok
        go_wp2_with fail
        refine (withinK_c _ _ _ _).mono ?_; rintro e w' ⟨rfl, rfl⟩; rw [Hin.out]
        go_wp2_with fail
        go_ret
        exact KeptP.no HF.out (grownBy_of_below BF.out _)
      | true =>
        have Hin := Lib.hid hin
        obtain ⟨y0, y15⟩ := Kx.inR_true.1 hin
        obtain ⟨s0, rfl⟩ := Int.eq_ofNat_of_zero_le y0
        have hs16 : s0 < 16 := by omega
        rw [hin, Bool.true_and] at Hok
        clear hin y0
        cases z
        case true =>
          have HF := Lib.hid (show pI p n = false by rw [Hok.out]; rfl)
          clear Hok
          go_wp2_with fail
          refine (withinK_c _ _ _ _).mono ?_; rintro e w' ⟨rfl, rfl⟩; rw [Hin.out]
          go_wp2_with fail
          go_ret
          exact KeptP.no HF.out (grownBy_of_below BF.out _)
        rw [Bool.not_false, Bool.true_and] at Hok
        by_cases hw : wd = 0
        case neg =>
          have hwb : (wd == 0) = false := by simpa using hw
          have hwn : (wd != 0) = true := by simpa using hw
          have HF := Lib.hid (show pI p n = false by rw [Hok.out, hwb])
          clear Hok hw hwb
          go_wp2_with fail
          refine (withinK_c _ _ _ _).mono ?_; rintro e w' ⟨rfl, rfl⟩; rw [Hin.out]
          go_wp2_with fail
          go_ret
          exact KeptP.no HF.out (grownBy_of_below BF.out _)
        subst hw
        have HT := Lib.hid (show pI p n = true by rw [Hok.out]; rfl)
        have hkF := (Hk.out.below BF.out).oi
        obtain ⟨b6, cap6, e, _, hcg, hfg⟩ := hkF.at (k := s0) (by rw [tabN_length]; exact hs16)
        simp only [Value.slice.injEq, Option.some.injEq, Addr.mk.injEq] at e
        obtain ⟨⟨rfl, _, _⟩, he12, rfl⟩ := e
        clear he12
        rw [tabN_get] at hcg
        have hset := Lib.hid (tabN_set 16 (fun s => cntS p s n) (fun s => cntS p s (n + 1)) s0 ((cntS p s0 n : Int) + 1) (by rw [Hstep.out, if_pos (by simp [slP])]; omega) (fun i hi => by rw [Hstep.out, if_neg (by simp [slP]; omega)]; rfl))
        have hst := hkF.stored (tabN_length _ _) s0 ((cntS p s0 n : Int) + 1)
        rw [hset.out] at hst
        have Hst := Lib.hid hst.1
        have Hgr := Lib.hid (grownBy_trans (grownBy_of_below BF.out (some g)) hst.2)
        have hsI : (s0 : Int) < 16 := by omega
        have hbI : (cntS p s0 n : Int) ≤ 1000 := by have := Hle.out s0; omega
        clear hst hset hkF Hok
        generalize cntS p s0 n = q0 at hcg Hst hbI Hgr
        go_wp2_with fail
        refine (withinK_c _ _ _ _).mono ?_; rintro e w' ⟨rfl, rfl⟩; rw [Hin.out]
        go_wp2_with fail
        go_ret
        exact ⟨by rw [HT.out]; rfl, Hgr.out, fun _ => Hst.out.os⟩
    have hxc : (x == 2) = false := by simpa using h2
    have HF := Lib.hid (show pI p n = false by rw [Hok.out, if_neg h0, if_neg h1, if_neg h2])
    clear Hok h0 h1 h2
    go_wp2_with fail
    go_ret
    exact KeptP.no HF.out (grownBy_of_below BF.out _)
end Go.Proofs.YtfnpjdgjceiklaaGreatDoor
