/- Contracts: the impl's side: SwapValid, EntryPut, isMine, word, count. -/
import Derived.Test.YtfnpjdgjceiklaaGreatDoorKI11
namespace Go.Proofs.YtfnpjdgjceiklaaGreatDoor
open Go.RowKit

set_option maxHeartbeats 1000000 in
theorem SwapValid1_c (ws : List Int) (v : Value) (w : World) (h : RI w v ws) :
    Calls Tryz.prog 108 #[v] w fun e w' => e = .returned (.bool (!(ws.isEmpty || Kx.wordsOk ws))) ∧ Below w.heap.size w w' := by
  obtain ⟨a, cap, rfl⟩ := h.val
  have Hc := Lib.hid (isWords_c ws _ w h)
  have He := Lib.hid (wordsOk_eq ws)
  have hl := h.1
  by_cases h0 : ws = []
  · subst h0
    clear h Hc He
    go_enter Tryz.func108, Tryz.ntmps108
    go_wp2_with fail
    go_ret
    exact ⟨by rfl, Below.refl _ _⟩
  · have hg : decide (0 < ws.length) = true := by simpa using List.length_pos_iff.2 h0
    have hem := Lib.hid (show ws.isEmpty = false by cases ws with | nil => exact absurd rfl h0 | cons => rfl)
    clear h h0
    go_enter Tryz.func108, Tryz.ntmps108
    go_wp2_with (go_at_call 109; refine Hc.out.mono ?_; rintro e w' ⟨rfl, hb'⟩; have Hb' := Lib.hid hb'; clear hb'; rw [He.out])
    go_ret
    exact ⟨ret_bool (by rw [hem.out]; rfl), Hb'.out⟩
set_option maxHeartbeats 1000000 in
theorem implSwapValid_c (s : List (List Int)) (v : Value) (w : World) (h : RM w v s) :
    Calls Tryz.prog 47 #[v] w fun e w' => e = .returned (.bool (Kx.swapOk s)) ∧ Below w.heap.size w w' := by
  obtain ⟨hl, a, cap, rfl, _, _⟩ := h.len
  obtain ⟨vs, hvl, hvs, hr⟩ := h
  have hc := ContainsVal_c 108 #[] (fun k => !((Kx.row s k).isEmpty || Kx.wordsOk (Kx.row s k))) vs _ w hvs ⟨Proofs.enters_of Tryz.func108 (by kernel_rfl) rfl, fun k W hk hb => by
    have h2 := (hr k hk (by omega)).below hb
    have e1 : vs.getD k undef = vs[k] := by simp [hk]
    have e2 : Kx.row s k = s[k]'(by omega) := by simp [Kx.row, show k < s.length by omega]
    show Calls Tryz.prog 108 #[vs.getD k undef] W fun e w' => e = .returned (.bool (!((Kx.row s k).isEmpty || Kx.wordsOk (Kx.row s k)))) ∧ Below W.heap.size W w'
    rw [e1, e2]
    exact SwapValid1_c _ _ _ h2⟩
  have e : ((List.range vs.length).any fun k => !((Kx.row s k).isEmpty || Kx.wordsOk (Kx.row s k))) = !(s.all fun ws => ws.isEmpty || Kx.wordsOk ws) := by
    rw [hvl, Bool.eq_iff_iff, List.any_eq_true, Bool.not_eq_true', List.all_eq_false]
    constructor
    · rintro ⟨k, hk, hq⟩
      have hk : k < s.length := by simpa using hk
      exact ⟨_, Kx.row_mem hk, by simpa using hq⟩
    · rintro ⟨x, hx, hq⟩
      obtain ⟨k, hk, rfl⟩ := List.getElem_of_mem hx
      exact ⟨k, by simpa using hk, by rw [show Kx.row s k = s[k] from by simp [Kx.row, hk]]; simpa using hq⟩
  rw [e] at hc
  have Hc := Lib.hid hc
  clear hc e hr hvs hvl
  have HM := Lib.hid (show Kx.swapOk s = ((s.all fun ws => ws.isEmpty || Kx.wordsOk ws) && s.length == 16) from rfl)
  generalize (s.all fun ws => ws.isEmpty || Kx.wordsOk ws) = t at Hc HM
  by_cases h12 : s.length = 16
  · have hb : ((s.length : Int) == 16) = true := by simp; omega
    have H12 := Lib.hid h12; clear h12
    go_enter Tryz.func47, Tryz.ntmps47
    go_wp2_with (go_at_call 107; refine Hc.out.mono ?_; rintro e w' ⟨rfl, hb'⟩; have Hb' := Lib.hid hb'; clear hb')
    go_ret
    exact ⟨ret_bool (by rw [HM.out, H12.out]; simp), Hb'.out⟩
  · have hb : ((s.length : Int) == 16) = false := by simp; omega
    have H12 := Lib.hid h12; clear h12
    go_enter Tryz.func47, Tryz.ntmps47
    go_wp2_with fail
    go_ret
    exact ⟨ret_bool (by rw [HM.out]; simp [H12.out]), Below.refl _ _⟩
theorem EntryPutT_c (f : Nat) (w : World) (hf : f < 12) : Calls Tryz.prog 111 #[.int .i64 f, .bool true] w fun e w' => e = .returned (.tuple #[.int .i64 (Kx.put f true), .bool true]) ∧ w = w' := by
  have Hv := Lib.hid (show Kx.inR (f : Int) 0 11 = true by rw [Kx.inR_true]; omega)
  have hfI : (f : Int) < 12 := by omega
  have HP := Lib.hid (show Kx.put f true = 4 * (f : Int) + 3 from rfl)
  go_enter Tryz.func111, Tryz.ntmps111
  go_wp2_with (go_at_call 101; refine (isFrame_c _ _).mono ?_; rintro e w' ⟨rfl, rfl⟩; rw [Hv.out])
  go_ret2
  exact ⟨by rw [HP.out]; rfl, rfl⟩
theorem EntryPutF_c (f : Int) (w : World) (hf : Kx.inR f 0 11 = false) : Calls Tryz.prog 111 #[.int .i64 f, .bool true] w fun e w' => e = .returned (.tuple #[.int .i64 0, .bool false]) ∧ w = w' := by
  have Hv := Lib.hid hf; clear hf
  go_enter Tryz.func111, Tryz.ntmps111
  go_wp2_with (go_at_call 101; refine (isFrame_c _ _).mono ?_; rintro e w' ⟨rfl, rfl⟩; rw [Hv.out])
  go_ret2
  exact ⟨rfl, rfl⟩
/-- the pager's own frame -/
def mine (l : List Kx.Info) (f : Nat) : Bool := decide ((Kx.inf l f).guard = Kx.sA) && (Kx.inf l f).refs == 1
theorem mine_kind {l : List Kx.Info} (h : Kx.infosOk l = true) {f : Nat} (hf : f < 12) (hg : (Kx.inf l f).guard = Kx.sA) : (Kx.inf l f).kind ≠ 0 := by
  unfold Kx.infosOk at h
  simp only [Bool.and_eq_true, List.all_eq_true] at h
  have hl : l.length = 12 := by simpa using h.2
  have e : Kx.inf l f = l[f]'(by omega) := by simp [Kx.inf, show f < l.length by omega]
  have h2 := h.1 _ (List.getElem_mem (show f < l.length by omega))
  rw [← e] at h2
  intro h0
  unfold Kx.infoOk at h2
  rw [if_pos h0] at h2
  have : Kx.inf l f = Kx.Info.zero := by simpa using h2
  rw [this] at hg
  exact absurd (congrArg ByteArray.toList hg) (by decide +kernel)
set_option maxHeartbeats 1000000 in
theorem isMine_c (l : List Kx.Info) (f pb : Nat) (vi : Value) (w : World) (h : RInfo w vi l) (hio : Kx.infosOk l = true) (hf : f < 12) (hc : w.cell? ⟨pb, 1, none⟩ = some vi) :
    Calls Tryz.prog 110 #[.pointer (some ⟨pb, 0, none⟩), .int .i64 f] w fun e w' => e = .returned (.bool (mine l f)) ∧ Below w.heap.size w w' := by
  have h12 := Lib.hid (show l.length = 12 by unfold Kx.infosOk at hio; simp only [Bool.and_eq_true] at hio; simpa using hio.2)
  have hk := Lib.hid (mine_kind hio hf)
  have HM := Lib.hid (show mine l f = (decide ((Kx.inf l f).guard = Kx.sA) && (Kx.inf l f).refs == 1) from rfl)
  obtain ⟨b, off, cap, rfl, _, g0, g1, g2⟩ := RInfo.at h (k := f) (by rw [h12.out]; exact hf)
  have hfI : (f : Int) < (l.length : Int) := by rw [h12.out]; omega
  clear h hio
  generalize Kx.inf l f = y at g0 g1 g2 hk HM
  obtain ⟨kd, gf, rf⟩ := y
  dsimp only at g0 g1 g2 hk HM
  obtain ⟨w0, hw0⟩ : ∃ w0, w.alloc (.cells #[.int .i64 kd, .string gf, .int .i64 rf] 111) = w0 := ⟨_, rfl⟩
  have hb := Lib.hid (show Below w.heap.size w w0 from hw0 ▸ (Below.refl _ _).alloc (Nat.le_refl _) _)
  obtain ⟨c0, c1, c2⟩ := (show w0.cell? ⟨w.heap.size, 0, none⟩ = some (.int .i64 kd) ∧ w0.cell? ⟨w.heap.size, 1, none⟩ = some (.string gf) ∧ w0.cell? ⟨w.heap.size, 2, none⟩ = some (.int .i64 rf) from hw0 ▸ Box3.new w _ _ _ _)
  by_cases hg : gf = Kx.sA
  case neg =>
    have hgt := toList_inj hg
    have hgd : decide (ByteArray.toList gf = [97]) = false := by simpa using hgt
    have hge : (ByteArray.toList gf == [97]) = false := by simpa using hgt
    have HF := Lib.hid (show mine l f = false by rw [HM.out, show decide (gf = Kx.sA) = false from by simpa using hg]; rfl)
    clear HM hg hk
    go_enter Tryz.func110, Tryz.ntmps110
    go_wp2_with fail
    go_ret
    exact ⟨ret_bool HF.out.symm, hb.out⟩
  have hkn : (kd != 0) = true := by simpa using hk.out hg
  have HF := Lib.hid (show mine l f = (rf == 1) by rw [HM.out, show decide (gf = Kx.sA) = true from by simpa using hg]; simp)
  unfold Kx.sA at hg
  subst hg
  clear HM hk
  by_cases hr : rf = 1
  · subst hr
    go_enter Tryz.func110, Tryz.ntmps110
    go_wp2_with fail
    go_ret
    exact ⟨ret_bool HF.out.symm, hb.out⟩
  · have hrb : (rf == 1) = false := by simpa using hr
    rw [hrb] at HF
    clear hr
    go_enter Tryz.func110, Tryz.ntmps110
    go_wp2_with fail
    go_ret
    exact ⟨ret_bool HF.out.symm, hb.out⟩
set_option maxHeartbeats 2000000 in
theorem word_c (m : List (List Int)) (low : List Int) (n pb : Nat) (vm vl : Value) (w : World) (hm : RM w vm m) (hmo : Kx.memOk m = true) (hl : RI w vl low) (hll : low.length = 4) (hlo : ∀ i, i < 4 → 0 ≤ low.getD i 0 ∧ low.getD i 0 ≤ 11) (hn : n < 16)
    (h0 : w.cell? ⟨pb, 0, none⟩ = some vm) (h5 : w.cell? ⟨pb, 5, none⟩ = some vl) :
    Calls Tryz.prog 115 #[.pointer (some ⟨pb, 0, none⟩), .int .i64 n] w (Qt (.int .i64 (Kx.word m (low.getD (n / 4) 0).toNat (n % 4))) w) := by
  obtain ⟨q, hq⟩ : ∃ q, n / 4 = q := ⟨_, rfl⟩
  obtain ⟨r, hr⟩ : ∃ r, n % 4 = r := ⟨_, rfl⟩
  have eq : (n : Int) / 4 = (q : Int) := by omega
  have er : (n : Int) % 4 = (r : Int) := by omega
  have hq4 : (q : Int) < 4 := by omega
  have et : (n : Int).tmod 4 = (r : Int) := by rw [Int.tmod_eq_emod_of_nonneg (by omega)]; exact er
  have ed : (n : Int).tdiv 4 = (q : Int) := by rw [Int.tdiv_eq_ediv_of_nonneg (by omega)]; exact eq
  have hr0 : (0 : Int) ≤ (r : Int) := by omega
  have hqw : IntKind.i64.wrap (q : Int) = (q : Int) := IntWalk.i64_in _ (by omega)
  have hq0 : (0 : Int) ≤ (q : Int) := by omega
  have hr4 : (r : Int) < 4 := by omega
  have hnI : (n : Int) < 16 := by omega
  rw [hq, hr]
  obtain ⟨bl, ol, cl, rfl, hbl, hcl⟩ := hl.at (k := q) (by omega)
  have hget : low[q]'(by omega) = low.getD q 0 := by simp [show q < low.length by omega]
  rw [hget] at hcl
  obtain ⟨hf0, hf11⟩ := hlo q (by omega)
  generalize low.getD q 0 = f at hcl hf0 hf11 ⊢
  obtain ⟨f0, rfl⟩ := Int.eq_ofNat_of_zero_le hf0
  rw [Int.toNat_natCast]
  have hf12 : f0 < 12 := by omega
  have hfI : (f0 : Int) < 12 := by omega
  obtain ⟨bm, om, cm, bq, oq, cq, rfl, n1, n2, _, _⟩ := hm.word hmo (f := f0) (a := r) hf12 (by omega)
  generalize Kx.word m f0 r = wd at n2 ⊢
  rw [hll] at h5
  clear hm hmo hl hlo hget hf0 hf11 hbl hq hr hll
  go_enter Tryz.func115, Tryz.ntmps115
  go_wp2_with fail
  go_quiet (fail)
  go_wp2_with fail
  go_ret
  exact ⟨rfl, _, rfl⟩
set_option maxHeartbeats 2000000 in
theorem implCount_c (p : Kx.Pager) (wh : Int) (pb : Nat) (vp : Value) (w : World) (h : RPage w vp p.pages) (h6 : w.cell? ⟨pb, 6, none⟩ = some vp) :
    Calls Tryz.prog 52 #[.pointer (some ⟨pb, 0, none⟩), .int .i64 wh] w fun e w' => e = .returned (.int .i64 (Kx.countP p wh)) ∧ Below w.heap.size w w' := by
  obtain ⟨ap, cp, rfl, _, _⟩ := RS.val h
  have hpl := h.1
  have HG := Lib.hid h; clear h
  go_enter Tryz.func52, Tryz.ntmps52
  go_wp2_with fail
  go_loopw [5, 13] (fun n i wr => ∃ q : Nat, i = .int .i64 q ∧ q ≤ p.pages.length ∧ n = .int .i64 (cntP p wh q) ∧ Hid (Below w.heap.size w wr)) (fun _ i _ => p.pages.length - (intOf i).toNat)
  case atStart => exact ⟨0, rfl, Nat.zero_le _, by rw [cntP_zero]; rfl, Below.refl _ _⟩
  case round =>
    clear h6
    obtain ⟨q, rfl, hq, rfl, hb⟩ := hrel
    by_cases hlt : q < p.pages.length
    · obtain ⟨b, off, cap, ev, hbb, h1, h2, h3⟩ := RPage.at (RS.below HG.out hb.out) hlt
      simp only [Value.slice.injEq] at ev
      obtain ⟨rfl, _, rfl⟩ := ev
      have hlI : (q : Int) < (p.pages.length : Int) := by omega
      have hst := Lib.hid (cntP_step p wh q hlt)
      have hle := cntP_le p wh q
      generalize Kx.pageAt p.pages q = pg at h1 h2 h3 hst
      obtain ⟨x, y, z⟩ := pg
      dsimp only at h1 h2 h3 hst
      obtain ⟨W1, hW1⟩ : ∃ W1, wr.alloc (.cells #[.int .i64 x, .int .i64 y, .bool z] 90) = W1 := ⟨_, rfl⟩
      have B1 := Lib.hid (show Below w.heap.size w W1 from hW1 ▸ hb.out.alloc hb.out.size _)
      obtain ⟨c0, c1, c2⟩ := (show W1.cell? ⟨wr.heap.size, 0, none⟩ = some (.int .i64 x) ∧ W1.cell? ⟨wr.heap.size, 1, none⟩ = some (.int .i64 y) ∧ W1.cell? ⟨wr.heap.size, 2, none⟩ = some (.bool z) from hW1 ▸ Box3.new wr _ _ _ 90)
      by_cases hx : x = wh
      · have hN := Lib.hid (show cntP p wh (q + 1) = cntP p wh q + 1 by rw [hst.out, if_pos hx])
        subst hx
        generalize cntP p x q = n0 at hN hle
        have hnI : (n0 : Int) ≤ 1099511627776 := by omega
        clear hst
        go_wp2_with fail
        go_roundw
        case rel => exact ⟨q + 1, by go_num, by omega, by rw [hN.out]; go_num, B1.out⟩
        case measure => simp [intOf]; omega
      · have hN := Lib.hid (show cntP p wh (q + 1) = cntP p wh q by rw [hst.out, if_neg hx, Nat.add_zero])
        have hxb : (x == wh) = false := by simpa using hx
        clear hst hx
        go_wp2_with fail
        go_roundw
        case rel => exact ⟨q + 1, by go_num, by omega, by rw [hN.out], B1.out⟩
        case measure => simp [intOf]; omega
    · have e : q = p.pages.length := by omega
      subst e
      have HF := Lib.hid (cntP_all p wh)
      go_wp2_with fail
      go_ret
      exact ⟨by rw [HF.out]; rfl, hb.out⟩
end Go.Proofs.YtfnpjdgjceiklaaGreatDoor
