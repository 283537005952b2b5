/- Contracts: the laws' measures of what comes in. (printed by kl2.py) -/
import Derived.Test.YtfnpjdgjceiklaaGreatDoorKL1
namespace Go.Proofs.YtfnpjdgjceiklaaGreatDoor
open Go.RowKit

theorem RWM.len {w : World} {v : Value} {m : List (List Int)} (h : RWM w v m) : ∃ a cap, v = .slice a m.length cap ∧ m.length ≤ maxLen := by
  obtain ⟨vs, hl, hs, _⟩ := h
  rw [← hl]; exact hs.val
theorem RWE.len {w : World} {v : Value} {m : List Kx.Env} (h : RWE w v m) : ∃ a cap, v = .slice a m.length cap ∧ m.length ≤ maxLen := by
  obtain ⟨vs, hl, hs, _⟩ := h
  rw [← hl]; exact hs.val
def sumT {α : Type} (g : α → Nat) (l : List α) (k : Nat) : Nat := ((l.take k).map g).sum
theorem sumT_zero {α : Type} (g : α → Nat) (l : List α) : sumT g l 0 = 0 := by simp [sumT]
theorem sumT_succ {α : Type} (g : α → Nat) (l : List α) (k : Nat) (h : k < l.length) : sumT g l (k + 1) = sumT g l k + g l[k] := by
  unfold sumT; rw [List.take_succ_eq_append_getElem h, List.map_append, List.sum_append]; simp only [List.map_cons, List.map_nil, List.sum_cons, List.sum_nil, Nat.add_zero]
theorem sumT_all {α : Type} (g : α → Nat) (l : List α) : sumT g l l.length = (l.map g).sum := by unfold sumT; rw [List.take_length]
theorem sumT_le {α : Type} (g : α → Nat) (l : List α) (k : Nat) : sumT g l k ≤ (l.map g).sum := by
  unfold sumT
  conv => rhs; rw [← List.take_append_drop k l]
  rw [List.map_append, List.sum_append]; omega
/-- what is left of lf behind tot, or -1 -/
def szR (lf tot : Nat) : Int := if lf < tot then -1 else ((lf - tot : Nat) : Int)
theorem szR_no {lf tot : Nat} (h : lf < tot) : szR lf tot = -1 := by unfold szR; rw [if_pos h]
theorem szR_yes {lf tot : Nat} (h : tot ≤ lf) : szR lf tot = ((lf - tot : Nat) : Int) := by unfold szR; rw [if_neg (by omega)]
def tRows (m : List (List Int)) : Nat := m.length + (m.map List.length).sum
def tStrs (l : List Kx.Str) : Nat := l.length + (l.map fun s => s.size).sum
def tInfos (l : List Kx.Info) : Nat := l.length + (l.map fun x => x.guard.size).sum
def tEnvs (l : List Kx.Env) : Nat := l.length + (l.map fun x => tStrs x.rights).sum
def tKernel (k : Kx.Kernel) : Nat := tRows k.mem + tInfos k.infos + tEnvs k.envs + k.cache.length
def tPager (p : Kx.Pager) : Nat := tKernel p.k + tRows p.swap + p.low.length + p.pages.length
def Sz (lf tot : Nat) (w : World) (e : Ending) (w' : World) : Prop := e = .returned (.int .i64 (szR lf tot)) ∧ Below w.heap.size w w'
theorem mul_le_cap {n : Nat} (h : n ≤ maxLen) : (n : Int) ≤ 9223372036854775807 := by unfold maxLen at h; omega
theorem szIntS_c (l : List Int) (lf : Nat) (v : Value) (w : World) (h : RW intC 1 w v l) (hl : lf ≤ 1048576) : Calls Tryz.prog 33 #[v, .int .i64 lf] w (Sz lf l.length w) := by
  obtain ⟨a, cap, rfl, hm⟩ := h.val
  have hmI := mul_le_cap hm
  clear h hm
  by_cases hlt : lf < l.length
  · have HR := Lib.hid (szR_no hlt)
    have hI : (lf : Int) < (l.length : Int) := by omega
    go_enter Tryz.func33, Tryz.ntmps33
    go_wp2_with fail
    go_ret
    exact ⟨ret_int HR.out.symm, Below.refl _ _⟩
  · have HR := Lib.hid (szR_yes (Nat.not_lt.1 hlt))
    have hI : ¬ (lf : Int) < (l.length : Int) := by omega
    go_enter Tryz.func33, Tryz.ntmps33
    go_wp2_with fail
    go_ret
    exact ⟨ret_int (by rw [HR.out]; omega), Below.refl _ _⟩
theorem szCachedS_c (l : List Kx.Cached) (lf : Nat) (v : Value) (w : World) (h : RW cachedC 4 w v l) (hl : lf ≤ 1048576) : Calls Tryz.prog 60 #[v, .int .i64 lf] w (Sz lf l.length w) := by
  obtain ⟨a, cap, rfl, hm⟩ := h.val
  have hmI := mul_le_cap hm
  clear h hm
  by_cases hlt : lf < l.length
  · have HR := Lib.hid (szR_no hlt)
    have hI : (lf : Int) < (l.length : Int) := by omega
    go_enter Tryz.func60, Tryz.ntmps60
    go_wp2_with fail
    go_ret
    exact ⟨ret_int HR.out.symm, Below.refl _ _⟩
  · have HR := Lib.hid (szR_yes (Nat.not_lt.1 hlt))
    have hI : ¬ (lf : Int) < (l.length : Int) := by omega
    go_enter Tryz.func60, Tryz.ntmps60
    go_wp2_with fail
    go_ret
    exact ⟨ret_int (by rw [HR.out]; omega), Below.refl _ _⟩
theorem szPageS_c (l : List Kx.Page) (lf : Nat) (v : Value) (w : World) (h : RW pageC 3 w v l) (hl : lf ≤ 1048576) : Calls Tryz.prog 34 #[v, .int .i64 lf] w (Sz lf l.length w) := by
  obtain ⟨a, cap, rfl, hm⟩ := h.val
  have hmI := mul_le_cap hm
  clear h hm
  by_cases hlt : lf < l.length
  · have HR := Lib.hid (szR_no hlt)
    have hI : (lf : Int) < (l.length : Int) := by omega
    go_enter Tryz.func34, Tryz.ntmps34
    go_wp2_with fail
    go_ret
    exact ⟨ret_int HR.out.symm, Below.refl _ _⟩
  · have HR := Lib.hid (szR_yes (Nat.not_lt.1 hlt))
    have hI : ¬ (lf : Int) < (l.length : Int) := by omega
    go_enter Tryz.func34, Tryz.ntmps34
    go_wp2_with fail
    go_ret
    exact ⟨ret_int (by rw [HR.out]; omega), Below.refl _ _⟩
theorem szInfo_c (x : Kx.Info) (lf : Nat) (w : World) (hs : x.guard.size ≤ 9223372036854775807) (hl : lf ≤ 1048576) : Calls Tryz.prog 117 #[infoV x, .int .i64 lf] w (Sz lf x.guard.size w) := by
  have hb := Lib.hid (show Below w.heap.size w (w.alloc (.cells #[.int .i64 x.kind, .string x.guard, .int .i64 x.refs] 137)) from (Below.refl _ _).alloc (Nat.le_refl _) _)
  have hmI : (x.guard.size : Int) ≤ 9223372036854775807 := by omega
  clear hs
  unfold infoV
  by_cases hlt : lf < x.guard.size
  · have HR := Lib.hid (szR_no hlt)
    have hI : (lf : Int) < (x.guard.size : Int) := by omega
    go_enter Tryz.func117, Tryz.ntmps117
    go_wp2_with fail
    go_ret
    exact ⟨ret_int HR.out.symm, hb.out⟩
  · have HR := Lib.hid (szR_yes (Nat.not_lt.1 hlt))
    have hI : ¬ (lf : Int) < (x.guard.size : Int) := by omega
    go_enter Tryz.func117, Tryz.ntmps117
    go_wp2_with fail
    go_ret
    exact ⟨ret_int (by rw [HR.out]; omega), hb.out⟩
set_option maxHeartbeats 2000000 in
theorem szIntSS_c (l : List (List Int)) (lf : Nat) (v : Value) (w : World) (h : RWM w v l) (hl : lf ≤ 1048576) : Calls Tryz.prog 32 #[v, .int .i64 lf] w (Sz lf (tRows l) w) := by
  obtain ⟨vs, hvl, h1, h2⟩ := h
  obtain ⟨a, cap, rfl, hm⟩ := h1.val
  rw [hvl] at hm ⊢
  have hmI := mul_le_cap hm
  have HT := Lib.hid (show tRows l = l.length + (l.map List.length).sum from rfl)
  by_cases hlt : lf < l.length
  · have HR := Lib.hid (szR_no (show lf < tRows l by rw [HT.out]; omega))
    have hI : (lf : Int) < (l.length : Int) := by omega
    clear hm
    go_enter Tryz.func32, Tryz.ntmps32
    go_wp2_with fail
    go_ret
    exact ⟨ret_int HR.out.symm, Below.refl _ _⟩
  · obtain ⟨c0, hc0⟩ := Nat.exists_eq_add_of_le (Nat.not_lt.1 hlt)
    have hI : ¬ (lf : Int) < (l.length : Int) := by omega
    have hsub : (lf : Int) - (l.length : Int) = (c0 : Int) := by omega
    have hln : l.length ≤ 1048576 := by omega
    have Hc0 := Lib.hid hc0
    have hc0l : c0 ≤ 1048576 := by omega
    have H1 := Lib.hid (h1.rs (by omega))
    have H2 := Lib.hid h2; have Hvl := Lib.hid hvl
    clear h1 h2 hvl
    clear hm hc0 hlt
    go_enter Tryz.func32, Tryz.ntmps32
    go_wp2_with fail
    clear hsub hI
    go_loopw [1, 5] (fun L i wr => ∃ k c : Nat, i = .int .i64 k ∧ k ≤ l.length ∧ L = .int .i64 c ∧ c ≤ 1048576 ∧ Hid (lf = l.length + sumT List.length l k + c) ∧ Hid (Below w.heap.size w wr)) (fun _ i _ => l.length - (intOf i).toNat)
    case atStart => exact ⟨0, c0, rfl, Nat.zero_le _, rfl, hc0l, (by show lf = _; rw [sumT_zero]; exact Hc0.out), Below.refl _ _⟩
    case round =>
      clear hc0l
      obtain ⟨k, c, rfl, hk, rfl, hc, hsum, hb⟩ := hrel
      by_cases hlt : k < l.length
      · have hlI : (k : Int) < (l.length : Int) := by omega
        obtain ⟨b, off, cap1, e, _, hcell⟩ := (RS.below H1.out hb.out).at (k := k) (by rw [Hvl.out]; exact hlt)
        have hcell := hcell 0 _ rfl
        have hrow := (H2.out k (by rw [Hvl.out]; exact hlt) hlt).below hb.out
        rw [Hvl.out] at e
        simp only [Value.slice.injEq] at e
        obtain ⟨rfl, _, rfl⟩ := e
        rw [Nat.mul_one, Nat.add_zero] at hcell
        generalize vs[k]'(by rw [Hvl.out]; exact hlt) = u at hcell hrow
        have Hrow := Lib.hid hrow; clear hrow
        have Hstep := Lib.hid (sumT_succ List.length l k hlt)
        have Hle := Lib.hid (sumT_le List.length l (k + 1))
        have Hgx := Lib.hid (show List.length l[k] = l[k].length from rfl)
        by_cases hx : c < l[k].length
        · have HR := Lib.hid (szR_no (show lf < tRows l by have := hsum.out; have := Hstep.out; have := Hle.out; have := Hgx.out; rw [HT.out]; omega))
          have Hx := Lib.hid (szR_no hx)
          clear hx
          go_wp2_with fail
          refine (szIntS_c l[k] c u _ Hrow.out hc).mono ?_; rintro e w2 ⟨rfl, hb2⟩
          have B2 := Lib.hid (hb.out.trans (hb2.mono hb.out.size)); clear hb2
          rw [Hx.out]
          go_wp2_with fail
          go_ret
          exact ⟨ret_int HR.out.symm, B2.out⟩
        · obtain ⟨c2, hc2⟩ := Nat.exists_eq_add_of_le (Nat.not_lt.1 hx)
          have Hx := Lib.hid (show szR c (l[k].length) = (c2 : Int) by rw [szR_yes (by omega)]; omega)
          have Hnew := Lib.hid (show lf = l.length + sumT List.length l (k + 1) + c2 by have := hsum.out; have := Hstep.out; have := Hgx.out; omega)
          have hc2l : c2 ≤ 1048576 := by omega
          clear hx hc2
          go_wp2_with fail
          refine (szIntS_c l[k] c u _ Hrow.out hc).mono ?_; rintro e w2 ⟨rfl, hb2⟩
          have B2 := Lib.hid (hb.out.trans (hb2.mono hb.out.size)); clear hb2
          rw [Hx.out]
          go_wp2_with fail
          go_roundw
          case rel => exact ⟨k + 1, c2, by go_num, by omega, rfl, hc2l, Hnew.out, B2.out⟩
          case measure => simp [intOf]; omega
      · have hkn : k = l.length := by omega
        have HR := Lib.hid (show szR lf (tRows l) = (c : Int) by
          have h1 := hsum.out
          rw [hkn, sumT_all] at h1
          rw [HT.out, szR_yes (by omega)]; omega)
        clear hkn
        go_wp2_with fail
        go_ret
        exact ⟨ret_int HR.out.symm, hb.out⟩
set_option maxHeartbeats 2000000 in
theorem szInfoS_c (l : List Kx.Info) (lf : Nat) (v : Value) (w : World) (h : RW infoC 3 w v l) (hs : ∀ x ∈ l, x.guard.size ≤ 9223372036854775807) (hl : lf ≤ 1048576) : Calls Tryz.prog 58 #[v, .int .i64 lf] w (Sz lf (tInfos l) w) := by
  obtain ⟨a, cap, rfl, hm⟩ := h.val
  have hmI := mul_le_cap hm
  have HT := Lib.hid (show tInfos l = l.length + (l.map (fun x => x.guard.size)).sum from rfl)
  by_cases hlt : lf < l.length
  · have HR := Lib.hid (szR_no (show lf < tInfos l by rw [HT.out]; omega))
    have hI : (lf : Int) < (l.length : Int) := by omega
    clear hm
    go_enter Tryz.func58, Tryz.ntmps58
    go_wp2_with fail
    go_ret
    exact ⟨ret_int HR.out.symm, Below.refl _ _⟩
  · obtain ⟨c0, hc0⟩ := Nat.exists_eq_add_of_le (Nat.not_lt.1 hlt)
    have hI : ¬ (lf : Int) < (l.length : Int) := by omega
    have hsub : (lf : Int) - (l.length : Int) = (c0 : Int) := by omega
    have hln : l.length ≤ 1048576 := by omega
    have Hc0 := Lib.hid hc0
    have hc0l : c0 ≤ 1048576 := by omega
    have H1 := Lib.hid (show RInfo w _ l from h.rs (by omega))
    have Hs := Lib.hid hs
    clear h hs
    clear hm hc0 hlt
    go_enter Tryz.func58, Tryz.ntmps58
    go_wp2_with fail
    clear hsub hI
    go_loopw [1, 5] (fun L i wr => ∃ k c : Nat, i = .int .i64 k ∧ k ≤ l.length ∧ L = .int .i64 c ∧ c ≤ 1048576 ∧ Hid (lf = l.length + sumT (fun x => x.guard.size) l k + c) ∧ Hid (Below w.heap.size w wr)) (fun _ i _ => l.length - (intOf i).toNat)
    case atStart => exact ⟨0, c0, rfl, Nat.zero_le _, rfl, hc0l, (by show lf = _; rw [sumT_zero]; exact Hc0.out), Below.refl _ _⟩
    case round =>
      clear hc0l
      obtain ⟨k, c, rfl, hk, rfl, hc, hsum, hb⟩ := hrel
      by_cases hlt : k < l.length
      · have hlI : (k : Int) < (l.length : Int) := by omega
        obtain ⟨b, off, cap1, e, _, g0, g1, g2⟩ := RInfo.at (RS.below H1.out hb.out) hlt
        rw [show Kx.inf l k = l[k] from by simp [Kx.inf, hlt]] at g0 g1 g2
        have Hsz := Lib.hid (Hs.out _ (List.getElem_mem hlt))
        simp only [Value.slice.injEq] at e
        obtain ⟨rfl, _, rfl⟩ := e
        have Hstep := Lib.hid (sumT_succ (fun x => x.guard.size) l k hlt)
        have Hle := Lib.hid (sumT_le (fun x => x.guard.size) l (k + 1))
        have Hgx := Lib.hid (show (fun x => x.guard.size) l[k] = l[k].guard.size from rfl)
        by_cases hx : c < l[k].guard.size
        · have HR := Lib.hid (szR_no (show lf < tInfos l by have := hsum.out; have := Hstep.out; have := Hle.out; have := Hgx.out; rw [HT.out]; omega))
          have Hx := Lib.hid (szR_no hx)
          have HC := Lib.hid (fun W => szInfo_c l[k] c W Hsz.out hc)
          unfold infoV at HC
          clear hx
          go_wp2_with fail
          refine (HC.out _).mono ?_; rintro e w2 ⟨rfl, hb2⟩
          have B2 := Lib.hid (hb.out.trans (hb2.mono hb.out.size)); clear hb2
          rw [Hx.out]
          go_wp2_with fail
          go_ret
          exact ⟨ret_int HR.out.symm, B2.out⟩
        · obtain ⟨c2, hc2⟩ := Nat.exists_eq_add_of_le (Nat.not_lt.1 hx)
          have Hx := Lib.hid (show szR c (l[k].guard.size) = (c2 : Int) by rw [szR_yes (by omega)]; omega)
          have Hnew := Lib.hid (show lf = l.length + sumT (fun x => x.guard.size) l (k + 1) + c2 by have := hsum.out; have := Hstep.out; have := Hgx.out; omega)
          have hc2l : c2 ≤ 1048576 := by omega
          have HC := Lib.hid (fun W => szInfo_c l[k] c W Hsz.out hc)
          unfold infoV at HC
          clear hx hc2
          go_wp2_with fail
          refine (HC.out _).mono ?_; rintro e w2 ⟨rfl, hb2⟩
          have B2 := Lib.hid (hb.out.trans (hb2.mono hb.out.size)); clear hb2
          rw [Hx.out]
          go_wp2_with fail
          go_roundw
          case rel => exact ⟨k + 1, c2, by go_num, by omega, rfl, hc2l, Hnew.out, B2.out⟩
          case measure => simp [intOf]; omega
      · have hkn : k = l.length := by omega
        have HR := Lib.hid (show szR lf (tInfos l) = (c : Int) by
          have h1 := hsum.out
          rw [hkn, sumT_all] at h1
          rw [HT.out, szR_yes (by omega)]; omega)
        clear hkn
        go_wp2_with fail
        go_ret
        exact ⟨ret_int HR.out.symm, hb.out⟩
set_option maxHeartbeats 2000000 in
theorem szStringS_c (l : List Kx.Str) (lf : Nat) (v : Value) (w : World) (h : RW strC 1 w v l) (hs : ∀ s ∈ l, s.size ≤ 9223372036854775807) (hl : lf ≤ 1048576) : Calls Tryz.prog 167 #[v, .int .i64 lf] w (Sz lf (tStrs l) w) := by
  obtain ⟨a, cap, rfl, hm⟩ := h.val
  have hmI := mul_le_cap hm
  have HT := Lib.hid (show tStrs l = l.length + (l.map (fun s => s.size)).sum from rfl)
  by_cases hlt : lf < l.length
  · have HR := Lib.hid (szR_no (show lf < tStrs l by rw [HT.out]; omega))
    have hI : (lf : Int) < (l.length : Int) := by omega
    clear hm
    go_enter Tryz.func167, Tryz.ntmps167
    go_wp2_with fail
    go_ret
    exact ⟨ret_int HR.out.symm, Below.refl _ _⟩
  · obtain ⟨c0, hc0⟩ := Nat.exists_eq_add_of_le (Nat.not_lt.1 hlt)
    have hI : ¬ (lf : Int) < (l.length : Int) := by omega
    have hsub : (lf : Int) - (l.length : Int) = (c0 : Int) := by omega
    have hln : l.length ≤ 1048576 := by omega
    have Hc0 := Lib.hid hc0
    have hc0l : c0 ≤ 1048576 := by omega
    have H1 := Lib.hid (show RStr w _ l from h.rs (by omega))
    have Hs := Lib.hid hs
    clear h hs
    clear hm hc0 hlt
    go_enter Tryz.func167, Tryz.ntmps167
    go_wp2_with fail
    clear hsub hI
    go_loopw [1, 5] (fun L i wr => ∃ k c : Nat, i = .int .i64 k ∧ k ≤ l.length ∧ L = .int .i64 c ∧ c ≤ 1048576 ∧ Hid (lf = l.length + sumT (fun s => s.size) l k + c) ∧ Hid (Below w.heap.size w wr)) (fun _ i _ => l.length - (intOf i).toNat)
    case atStart => exact ⟨0, c0, rfl, Nat.zero_le _, rfl, hc0l, (by show lf = _; rw [sumT_zero]; exact Hc0.out), Below.refl _ _⟩
    case round =>
      clear hc0l
      obtain ⟨k, c, rfl, hk, rfl, hc, hsum, hb⟩ := hrel
      by_cases hlt : k < l.length
      · have hlI : (k : Int) < (l.length : Int) := by omega
        obtain ⟨b, off, cap1, e, _, g0⟩ := RStr.at (RS.below H1.out hb.out) hlt
        have hszI : (l[k].size : Int) ≤ 9223372036854775807 := by have := Hs.out _ (List.getElem_mem hlt); omega
        simp only [Value.slice.injEq] at e
        obtain ⟨rfl, _, rfl⟩ := e
        have Hstep := Lib.hid (sumT_succ (fun s => s.size) l k hlt)
        have Hle := Lib.hid (sumT_le (fun s => s.size) l (k + 1))
        have Hgx := Lib.hid (show (fun s => s.size) l[k] = l[k].size from rfl)
        by_cases hx : c < l[k].size
        · have HR := Lib.hid (szR_no (show lf < tStrs l by have := hsum.out; have := Hstep.out; have := Hle.out; have := Hgx.out; rw [HT.out]; omega))
          have Hx := Lib.hid (szR_no hx)
          have hxI : (c : Int) < (l[k].size : Int) := by omega
          clear hx
          go_wp2_with fail
          have B2 := Lib.hid hb.out
          
          go_wp2_with fail
          go_ret
          exact ⟨ret_int HR.out.symm, B2.out⟩
        · obtain ⟨c2, hc2⟩ := Nat.exists_eq_add_of_le (Nat.not_lt.1 hx)
          have Hx := Lib.hid (show szR c (l[k].size) = (c2 : Int) by rw [szR_yes (by omega)]; omega)
          have Hnew := Lib.hid (show lf = l.length + sumT (fun s => s.size) l (k + 1) + c2 by have := hsum.out; have := Hstep.out; have := Hgx.out; omega)
          have hc2l : c2 ≤ 1048576 := by omega
          have hxI : ¬ (c : Int) < (l[k].size : Int) := by omega
          have hsub2 : (c : Int) - (l[k].size : Int) = (c2 : Int) := by omega
          clear hx hc2
          go_wp2_with fail
          have B2 := Lib.hid hb.out
          
          go_wp2_with fail
          go_roundw
          case rel => exact ⟨k + 1, c2, by go_num, by omega, rfl, hc2l, Hnew.out, B2.out⟩
          case measure => simp [intOf]; omega
      · have hkn : k = l.length := by omega
        have HR := Lib.hid (show szR lf (tStrs l) = (c : Int) by
          have h1 := hsum.out
          rw [hkn, sumT_all] at h1
          rw [HT.out, szR_yes (by omega)]; omega)
        clear hkn
        go_wp2_with fail
        go_ret
        exact ⟨ret_int HR.out.symm, hb.out⟩
set_option maxHeartbeats 1000000 in
theorem szEnv_c (l : List Kx.Str) (u : Value) (r : Int) (lf : Nat) (w : World) (h : RW strC 1 w u l) (hs : ∀ s ∈ l, s.size ≤ 9223372036854775807) (hl : lf ≤ 1048576) : Calls Tryz.prog 118 #[.agg #[u, .int .i64 r], .int .i64 lf] w (Sz lf (tStrs l) w) := by
  obtain ⟨w0, hw0⟩ : ∃ w0, w.alloc (.cells #[u, .int .i64 r] 139) = w0 := ⟨_, rfl⟩
  have B0 := Lib.hid (show Below w.heap.size w w0 from hw0 ▸ Below.lit (Below.refl _ _) _)
  obtain ⟨c0, c1, _⟩ := (show w0.cell? ⟨w.heap.size, 0, none⟩ = some u ∧ w0.cell? ⟨w.heap.size, 1, none⟩ = some (.int .i64 r) ∧ w.heap.size < w0.heap.size from hw0 ▸ Box2.new w u (.int .i64 r) 139)
  have HC := Lib.hid (szStringS_c l lf u w0 (h.below B0.out) hs hl)
  obtain ⟨a, cap, rfl, _⟩ := h.val
  clear h hs
  generalize tStrs l = tot at HC ⊢
  by_cases hlt : lf < tot
  · have HR := Lib.hid (szR_no hlt)
    unfold Sz at HC
    rw [HR.out] at HC
    go_enter Tryz.func118, Tryz.ntmps118
    go_wp2_with fail
    refine HC.out.mono ?_; rintro e w2 ⟨rfl, hb2⟩
    have B2 := Lib.hid (B0.out.trans (hb2.mono B0.out.size)); clear hb2
    go_wp2_with fail
    go_ret
    exact ⟨ret_int HR.out.symm, B2.out⟩
  · have HR := Lib.hid (szR_yes (Nat.not_lt.1 hlt))
    unfold Sz at HC
    rw [HR.out] at HC
    go_enter Tryz.func118, Tryz.ntmps118
    go_wp2_with fail
    refine HC.out.mono ?_; rintro e w2 ⟨rfl, hb2⟩
    have B2 := Lib.hid (B0.out.trans (hb2.mono B0.out.size)); clear hb2
    go_wp2_with fail
    go_ret
    exact ⟨ret_int HR.out.symm, B2.out⟩
set_option maxHeartbeats 2000000 in
theorem szEnvS_c (l : List Kx.Env) (lf : Nat) (v : Value) (w : World) (h : RWE w v l) (hs : ∀ x ∈ l, ∀ s ∈ x.rights, s.size ≤ 9223372036854775807) (hl : lf ≤ 1048576) : Calls Tryz.prog 59 #[v, .int .i64 lf] w (Sz lf (tEnvs l) w) := by
  obtain ⟨ps, hvl, h1, h2⟩ := h
  obtain ⟨a, cap, rfl, hm⟩ := h1.val
  rw [hvl] at hm ⊢
  have hmI := mul_le_cap hm
  have HT := Lib.hid (show tEnvs l = l.length + (l.map (fun x => tStrs x.rights)).sum from rfl)
  by_cases hlt : lf < l.length
  · have HR := Lib.hid (szR_no (show lf < tEnvs l by rw [HT.out]; omega))
    have hI : (lf : Int) < (l.length : Int) := by omega
    clear hm
    go_enter Tryz.func59, Tryz.ntmps59
    go_wp2_with fail
    go_ret
    exact ⟨ret_int HR.out.symm, Below.refl _ _⟩
  · obtain ⟨c0, hc0⟩ := Nat.exists_eq_add_of_le (Nat.not_lt.1 hlt)
    have hI : ¬ (lf : Int) < (l.length : Int) := by omega
    have hsub : (lf : Int) - (l.length : Int) = (c0 : Int) := by omega
    have hln : l.length ≤ 1048576 := by omega
    have Hc0 := Lib.hid hc0
    have hc0l : c0 ≤ 1048576 := by omega
    have H1 := Lib.hid (h1.rs (by omega))
    have H2 := Lib.hid h2; have Hvl := Lib.hid hvl
    have Hs := Lib.hid hs
    clear h1 h2 hvl hs
    clear hm hc0 hlt
    go_enter Tryz.func59, Tryz.ntmps59
    go_wp2_with fail
    clear hsub hI
    go_loopw [1, 5] (fun L i wr => ∃ k c : Nat, i = .int .i64 k ∧ k ≤ l.length ∧ L = .int .i64 c ∧ c ≤ 1048576 ∧ Hid (lf = l.length + sumT (fun x => tStrs x.rights) l k + c) ∧ Hid (Below w.heap.size w wr)) (fun _ i _ => l.length - (intOf i).toNat)
    case atStart => exact ⟨0, c0, rfl, Nat.zero_le _, rfl, hc0l, (by show lf = _; rw [sumT_zero]; exact Hc0.out), Below.refl _ _⟩
    case round =>
      clear hc0l
      obtain ⟨k, c, rfl, hk, rfl, hc, hsum, hb⟩ := hrel
      by_cases hlt : k < l.length
      · have hlI : (k : Int) < (l.length : Int) := by omega
        obtain ⟨b, off, cap1, e, _, hcell⟩ := (RS.below H1.out hb.out).at (k := k) (by rw [Hvl.out]; exact hlt)
        have g0 := hcell 0 _ rfl
        have g1 := hcell 1 _ rfl
        have hrow := (H2.out k (by rw [Hvl.out]; exact hlt) hlt).2.below hb.out
        rw [Hvl.out] at e
        simp only [Value.slice.injEq] at e
        obtain ⟨rfl, _, rfl⟩ := e
        rw [Nat.add_zero] at g0
        generalize (ps[k]'(by rw [Hvl.out]; exact hlt)) = pr at g0 g1 hrow
        obtain ⟨u, r⟩ := pr
        dsimp only at g0 g1 hrow
        have Hsz := Lib.hid (Hs.out _ (List.getElem_mem hlt))
        have HC := Lib.hid (fun W (hW : RW strC 1 W u l[k].rights) => szEnv_c l[k].rights u r c W hW Hsz.out hc)
        have Hrow := Lib.hid hrow
        obtain ⟨x9, y9, rfl, _⟩ := hrow.val
        clear hcell hrow
        have Hstep := Lib.hid (sumT_succ (fun x => tStrs x.rights) l k hlt)
        have Hle := Lib.hid (sumT_le (fun x => tStrs x.rights) l (k + 1))
        have Hgx := Lib.hid (show (fun x => tStrs x.rights) l[k] = tStrs l[k].rights from rfl)
        by_cases hx : c < tStrs l[k].rights
        · have HR := Lib.hid (szR_no (show lf < tEnvs l by have := hsum.out; have := Hstep.out; have := Hle.out; have := Hgx.out; rw [HT.out]; omega))
          have Hx := Lib.hid (szR_no hx)
          clear hx
          go_wp2_with fail
          refine (HC.out _ Hrow.out).mono ?_; rintro e w2 ⟨rfl, hb2⟩
          have B2 := Lib.hid (hb.out.trans (hb2.mono hb.out.size)); clear hb2
          rw [Hx.out]
          go_wp2_with fail
          go_ret
          exact ⟨ret_int HR.out.symm, B2.out⟩
        · obtain ⟨c2, hc2⟩ := Nat.exists_eq_add_of_le (Nat.not_lt.1 hx)
          have Hx := Lib.hid (show szR c (tStrs l[k].rights) = (c2 : Int) by rw [szR_yes (by omega)]; omega)
          have Hnew := Lib.hid (show lf = l.length + sumT (fun x => tStrs x.rights) l (k + 1) + c2 by have := hsum.out; have := Hstep.out; have := Hgx.out; omega)
          have hc2l : c2 ≤ 1048576 := by omega
          clear hx hc2
          go_wp2_with fail
          refine (HC.out _ Hrow.out).mono ?_; rintro e w2 ⟨rfl, hb2⟩
          have B2 := Lib.hid (hb.out.trans (hb2.mono hb.out.size)); clear hb2
          rw [Hx.out]
          go_wp2_with fail
          go_roundw
          case rel => exact ⟨k + 1, c2, by go_num, by omega, rfl, hc2l, Hnew.out, B2.out⟩
          case measure => simp [intOf]; omega
      · have hkn : k = l.length := by omega
        have HR := Lib.hid (show szR lf (tEnvs l) = (c : Int) by
          have h1 := hsum.out
          rw [hkn, sumT_all] at h1
          rw [HT.out, szR_yes (by omega)]; omega)
        clear hkn
        go_wp2_with fail
        go_ret
        exact ⟨ret_int HR.out.symm, hb.out⟩
theorem RWM.below {w w' : World} {v : Value} {m : List (List Int)} (h : RWM w v m) (hb : Below w.heap.size w w') : RWM w' v m := by
  obtain ⟨vs, hl, hs, hr⟩ := h
  exact ⟨vs, hl, hs.below hb, fun i h h' => (hr i h h').below hb⟩
theorem RWE.below {w w' : World} {v : Value} {m : List Kx.Env} (h : RWE w v m) (hb : Below w.heap.size w w') : RWE w' v m := by
  obtain ⟨vs, hl, hs, hr⟩ := h
  exact ⟨vs, hl, hs.below hb, fun i h h' => ⟨(hr i h h').1, (hr i h h').2.below hb⟩⟩
theorem RWK.below {w w' : World} {vm vi ve vc : Value} {k : Kx.Kernel} (h : RWK w vm vi ve vc k) (hb : Below w.heap.size w w') : RWK w' vm vi ve vc k :=
  ⟨h.m.below hb, h.i.below hb, h.e.below hb, h.c.below hb⟩
set_option maxHeartbeats 4000000 in
theorem szKernel_c (k : Kx.Kernel) (vm vi ve vc : Value) (w : World) (h : RWK w vm vi ve vc k) (hs : SaneK2 k) (lf : Nat) (hl : lf ≤ 1048576) : Calls Tryz.prog 14 #[.agg #[vm, vi, ve, vc], .int .i64 lf] w (Sz lf (tKernel k) w) := by
  obtain ⟨w0, hw0⟩ : ∃ w0, w.alloc (.cells #[vm, vi, ve, vc] 27) = w0 := ⟨_, rfl⟩
  have Hw0 := Lib.hid (show Below w.heap.size w w0 from hw0 ▸ (Below.refl w.heap.size w).alloc (Nat.le_refl _) _)
  have Hbx := Lib.hid (show Box4 w0 w.heap.size vm vi ve vc from hw0 ▸ Box4.new w vm vi ve vc _)
  have HT := Lib.hid (show tKernel k = tRows k.mem + tInfos k.infos + tEnvs k.envs + k.cache.length from rfl)
  have HK := Lib.hid (h.below Hw0.out)
  have Hs := Lib.hid hs
  obtain ⟨am, cm, rfl, _⟩ := h.m.len
  obtain ⟨ai, ci, rfl, _⟩ := h.i.val
  obtain ⟨ae, ce, rfl, _⟩ := h.e.len
  obtain ⟨ac, cc, rfl, _⟩ := h.c.val
  obtain ⟨k0, k1, k2, k3, _⟩ := Hbx.out
  clear h hs
  go_enter Tryz.func14, Tryz.ntmps14
  go_wp2_with fail
  clear hw0
  refine (szIntSS_c k.mem lf _ _ (HK.out.m.below (Below.refl _ _)) hl).mono ?_; rintro e w1 ⟨rfl, hb⟩
  have B1 := Lib.hid hb; clear hb
  obtain ⟨a0, a1, a2, a3, _⟩ := Hbx.out.below B1.out
  clear k0 k1 k2 k3
  by_cases hx : lf < tRows k.mem
  · have HR := Lib.hid (szR_no (show lf < tKernel k by rw [HT.out]; omega))
    rw [szR_no hx]
    clear hx
    go_wp2_with fail
    go_ret
    exact ⟨ret_int HR.out.symm, Hw0.out.trans (B1.out.mono Hw0.out.size)⟩
  obtain ⟨l1, hl1e⟩ := Nat.exists_eq_add_of_le (Nat.not_lt.1 hx)
  rw [show szR lf (tRows k.mem) = (l1 : Int) from by rw [szR_yes (Nat.not_lt.1 hx)]; omega]
  have hl1 : l1 ≤ 1048576 := by omega
  have HE1 := Lib.hid hl1e; clear hx hl1e
  go_wp2_with fail
  refine (szInfoS_c k.infos l1 _ _ (HK.out.i.below B1.out) Hs.out.1 hl1).mono ?_; rintro e w2 ⟨rfl, hb⟩
  have B2 := Lib.hid (B1.out.trans (hb.mono B1.out.size)); clear hb
  obtain ⟨k0, k1, k2, k3, _⟩ := Hbx.out.below B2.out
  clear a0 a1 a2 a3
  by_cases hx : l1 < tInfos k.infos
  · have HR := Lib.hid (szR_no (show lf < tKernel k by rw [HT.out]; have := HE1.out; omega))
    rw [szR_no hx]
    clear hx
    go_wp2_with fail
    go_ret
    exact ⟨ret_int HR.out.symm, Hw0.out.trans (B2.out.mono Hw0.out.size)⟩
  obtain ⟨l2, hl2e⟩ := Nat.exists_eq_add_of_le (Nat.not_lt.1 hx)
  rw [show szR l1 (tInfos k.infos) = (l2 : Int) from by rw [szR_yes (Nat.not_lt.1 hx)]; omega]
  have hl2 : l2 ≤ 1048576 := by omega
  have HE2 := Lib.hid hl2e; clear hx hl2e
  go_wp2_with fail
  refine (szEnvS_c k.envs l2 _ _ (HK.out.e.below B2.out) Hs.out.2 hl2).mono ?_; rintro e w3 ⟨rfl, hb⟩
  have B3 := Lib.hid (B2.out.trans (hb.mono B2.out.size)); clear hb
  obtain ⟨a0, a1, a2, a3, _⟩ := Hbx.out.below B3.out
  clear k0 k1 k2 k3
  by_cases hx : l2 < tEnvs k.envs
  · have HR := Lib.hid (szR_no (show lf < tKernel k by rw [HT.out]; have := HE1.out; have := HE2.out; omega))
    rw [szR_no hx]
    clear hx
    go_wp2_with fail
    go_ret
    exact ⟨ret_int HR.out.symm, Hw0.out.trans (B3.out.mono Hw0.out.size)⟩
  obtain ⟨l3, hl3e⟩ := Nat.exists_eq_add_of_le (Nat.not_lt.1 hx)
  rw [show szR l2 (tEnvs k.envs) = (l3 : Int) from by rw [szR_yes (Nat.not_lt.1 hx)]; omega]
  have hl3 : l3 ≤ 1048576 := by omega
  have HE3 := Lib.hid hl3e; clear hx hl3e
  go_wp2_with fail
  refine (szCachedS_c k.cache l3 _ _ (HK.out.c.below B3.out) hl3).mono ?_; rintro e w4 ⟨rfl, hb⟩
  have B4 := Lib.hid (B3.out.trans (hb.mono B3.out.size)); clear hb
  clear a0 a1 a2 a3
  by_cases hx : l3 < k.cache.length
  · have HR := Lib.hid (szR_no (show lf < tKernel k by rw [HT.out]; have := HE1.out; have := HE2.out; have := HE3.out; omega))
    rw [szR_no hx]
    clear hx
    go_wp2_with fail
    go_ret
    exact ⟨ret_int HR.out.symm, Hw0.out.trans (B4.out.mono Hw0.out.size)⟩
  obtain ⟨l4, hl4e⟩ := Nat.exists_eq_add_of_le (Nat.not_lt.1 hx)
  rw [show szR l3 (k.cache.length) = (l4 : Int) from by rw [szR_yes (Nat.not_lt.1 hx)]; omega]
  have hl4 : l4 ≤ 1048576 := by omega
  have HE4 := Lib.hid hl4e; clear hx hl4e
  go_wp2_with fail
  have HR := Lib.hid (show szR lf (tKernel k) = (l4 : Int) by rw [HT.out]; have := HE1.out; have := HE2.out; have := HE3.out; have := HE4.out; rw [szR_yes (by omega)]; omega)
  go_ret
  exact ⟨ret_int HR.out.symm, Hw0.out.trans (B4.out.mono Hw0.out.size)⟩
theorem RWP.below {w w' : World} {vm vi ve vc vs vl vp : Value} {p : Kx.Pager} (h : RWP w vm vi ve vc vs vl vp p) (hb : Below w.heap.size w w') : RWP w' vm vi ve vc vs vl vp p :=
  ⟨h.k.below hb, h.s.below hb, h.l.below hb, h.g.below hb⟩
set_option maxHeartbeats 4000000 in
theorem szPager_c (p : Kx.Pager) (vm vi ve vc vs vl vp : Value) (w : World) (h : RWP w vm vi ve vc vs vl vp p) (hs : SaneK2 p.k) (lf : Nat) (hl : lf ≤ 1048576) : Calls Tryz.prog 7 #[pagerV vm vi ve vc vs vl vp p.hand p.limit, .int .i64 lf] w (Sz lf (tPager p) w) := by
  obtain ⟨w0, hw0⟩ : ∃ w0, w.alloc (.cells #[vm, vi, ve, vc, vs, vl, vp, .int .i64 p.hand, .int .i64 p.limit] 31) = w0 := ⟨_, rfl⟩
  have Hw0 := Lib.hid (show Below w.heap.size w w0 from hw0 ▸ (Below.refl w.heap.size w).alloc (Nat.le_refl _) _)
  have Hbx := Lib.hid (show BoxP w0 w.heap.size vm vi ve vc vs vl vp p.hand p.limit from hw0 ▸ BoxP.new w vm vi ve vc vs vl vp p.hand p.limit _)
  have HT := Lib.hid (show tPager p = tKernel p.k + tRows p.swap + p.low.length + p.pages.length from rfl)
  have HP := Lib.hid (h.below Hw0.out)
  have Hs := Lib.hid hs
  obtain ⟨as0, cs0, rfl, _⟩ := h.s.len
  obtain ⟨al, cl, rfl, _⟩ := h.l.val
  obtain ⟨ag, cg, rfl, _⟩ := h.g.val
  obtain ⟨⟨k0, k1, k2, k3⟩, ⟨k4, k5, k6, k7, k8⟩, _⟩ := Hbx.out
  clear h hs
  unfold pagerV
  go_enter Tryz.func7, Tryz.ntmps7
  go_wp2_with fail
  clear hw0
  refine (szKernel_c p.k vm vi ve vc _ (HP.out.k.below (Below.refl _ _)) Hs.out lf hl).mono ?_; rintro e w1 ⟨rfl, hb⟩
  have B1 := Lib.hid hb; clear hb
  obtain ⟨⟨a0, a1, a2, a3⟩, ⟨a4, a5, a6, a7, a8⟩, _⟩ := Hbx.out.below B1.out
  clear k0 k1 k2 k3 k4 k5 k6 k7 k8
  by_cases hx : lf < tKernel p.k
  · have HR := Lib.hid (szR_no (show lf < tPager p by rw [HT.out]; omega))
    rw [szR_no hx]
    clear hx
    go_wp2_with fail
    go_ret
    exact ⟨ret_int HR.out.symm, Hw0.out.trans (B1.out.mono Hw0.out.size)⟩
  obtain ⟨l1, hl1e⟩ := Nat.exists_eq_add_of_le (Nat.not_lt.1 hx)
  rw [show szR lf (tKernel p.k) = (l1 : Int) from by rw [szR_yes (Nat.not_lt.1 hx)]; omega]
  have hl1 : l1 ≤ 1048576 := by omega
  have HE1 := Lib.hid hl1e; clear hx hl1e
  go_wp2_with fail
  refine (szIntSS_c p.swap l1 _ _ (HP.out.s.below B1.out) hl1).mono ?_; rintro e w2 ⟨rfl, hb⟩
  have B2 := Lib.hid (B1.out.trans (hb.mono B1.out.size)); clear hb
  obtain ⟨⟨k0, k1, k2, k3⟩, ⟨k4, k5, k6, k7, k8⟩, _⟩ := Hbx.out.below B2.out
  clear a0 a1 a2 a3 a4 a5 a6 a7 a8
  by_cases hx : l1 < tRows p.swap
  · have HR := Lib.hid (szR_no (show lf < tPager p by rw [HT.out]; have := HE1.out; omega))
    rw [szR_no hx]
    clear hx
    go_wp2_with fail
    go_ret
    exact ⟨ret_int HR.out.symm, Hw0.out.trans (B2.out.mono Hw0.out.size)⟩
  obtain ⟨l2, hl2e⟩ := Nat.exists_eq_add_of_le (Nat.not_lt.1 hx)
  rw [show szR l1 (tRows p.swap) = (l2 : Int) from by rw [szR_yes (Nat.not_lt.1 hx)]; omega]
  have hl2 : l2 ≤ 1048576 := by omega
  have HE2 := Lib.hid hl2e; clear hx hl2e
  go_wp2_with fail
  refine (szIntS_c p.low l2 _ _ (HP.out.l.below B2.out) hl2).mono ?_; rintro e w3 ⟨rfl, hb⟩
  have B3 := Lib.hid (B2.out.trans (hb.mono B2.out.size)); clear hb
  obtain ⟨⟨a0, a1, a2, a3⟩, ⟨a4, a5, a6, a7, a8⟩, _⟩ := Hbx.out.below B3.out
  clear k0 k1 k2 k3 k4 k5 k6 k7 k8
  by_cases hx : l2 < p.low.length
  · have HR := Lib.hid (szR_no (show lf < tPager p by rw [HT.out]; have := HE1.out; have := HE2.out; omega))
    rw [szR_no hx]
    clear hx
    go_wp2_with fail
    go_ret
    exact ⟨ret_int HR.out.symm, Hw0.out.trans (B3.out.mono Hw0.out.size)⟩
  obtain ⟨l3, hl3e⟩ := Nat.exists_eq_add_of_le (Nat.not_lt.1 hx)
  rw [show szR l2 (p.low.length) = (l3 : Int) from by rw [szR_yes (Nat.not_lt.1 hx)]; omega]
  have hl3 : l3 ≤ 1048576 := by omega
  have HE3 := Lib.hid hl3e; clear hx hl3e
  go_wp2_with fail
  refine (szPageS_c p.pages l3 _ _ (HP.out.g.below B3.out) hl3).mono ?_; rintro e w4 ⟨rfl, hb⟩
  have B4 := Lib.hid (B3.out.trans (hb.mono B3.out.size)); clear hb
  clear a0 a1 a2 a3 a4 a5 a6 a7 a8
  by_cases hx : l3 < p.pages.length
  · have HR := Lib.hid (szR_no (show lf < tPager p by rw [HT.out]; have := HE1.out; have := HE2.out; have := HE3.out; omega))
    rw [szR_no hx]
    clear hx
    go_wp2_with fail
    go_ret
    exact ⟨ret_int HR.out.symm, Hw0.out.trans (B4.out.mono Hw0.out.size)⟩
  obtain ⟨l4, hl4e⟩ := Nat.exists_eq_add_of_le (Nat.not_lt.1 hx)
  rw [show szR l3 (p.pages.length) = (l4 : Int) from by rw [szR_yes (Nat.not_lt.1 hx)]; omega]
  have hl4 : l4 ≤ 1048576 := by omega
  have HE4 := Lib.hid hl4e; clear hx hl4e
  go_wp2_with fail
  have HR := Lib.hid (show szR lf (tPager p) = (l4 : Int) by rw [HT.out]; have := HE1.out; have := HE2.out; have := HE3.out; have := HE4.out; rw [szR_yes (by omega)]; omega)
  go_ret
  exact ⟨ret_int HR.out.symm, Hw0.out.trans (B4.out.mono Hw0.out.size)⟩
end Go.Proofs.YtfnpjdgjceiklaaGreatDoor
