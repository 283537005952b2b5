/- Contracts: spec.l21Cache, spec.KernelValid. -/
import Derived.Test.YtfnpjdgjceiklaaGreatDoorKW12
namespace Go.Proofs.YtfnpjdgjceiklaaGreatDoor
open Go.RowKit

/-- the i-th translation is that of the tables -/
def tOk (k : Kx.Kernel) (i : Nat) : Bool := Kx.cachedTrue k (k.cache.getD i Kx.Cached.zero)
theorem tOk_all (k : Kx.Kernel) : Kx.cacheTrue k = (List.range k.cache.length).all (tOk k) := by
  unfold Kx.cacheTrue
  rw [Bool.eq_iff_iff, List.all_eq_true, List.all_eq_true]
  constructor
  · intro h i hi
    have hi : i < k.cache.length := by simpa using hi
    have e : k.cache.getD i Kx.Cached.zero = k.cache[i] := by simp [hi]
    unfold tOk; rw [e]; exact h _ (List.getElem_mem hi)
  · intro h x hx
    obtain ⟨i, hi, rfl⟩ := List.getElem_of_mem hx
    have := h i (by simpa using hi)
    have e : k.cache.getD i Kx.Cached.zero = k.cache[i] := by simp [hi]
    unfold tOk at this; rwa [e] at this
theorem cachedOk_iff {x : Kx.Cached} : Kx.cachedOk x = true ↔ (0 ≤ x.env ∧ x.env ≤ 2) ∧ (0 ≤ x.page ∧ x.page ≤ 15) ∧ (0 ≤ x.frame ∧ x.frame ≤ 11) := by
  unfold Kx.cachedOk
  rw [Bool.and_eq_true, Bool.and_eq_true, Kx.inR_true, Kx.inR_true, Kx.inR_true]
  constructor
  · rintro ⟨⟨a, b⟩, c⟩; exact ⟨a, b, c⟩
  · rintro ⟨a, b, c⟩; exact ⟨⟨a, b⟩, c⟩
theorem cacheOk_at {c : List Kx.Cached} (h : Kx.cacheOk c = true) {i : Nat} (hi : i < c.length) : Kx.cachedOk (c.getD i Kx.Cached.zero) = true := by
  rw [cacheOk_all, Bool.and_eq_true, List.all_eq_true] at h
  have := h.1 i (by simpa using hi)
  unfold cOk at this
  rw [Bool.and_eq_true] at this
  exact this.1
theorem Below.lit2 {a w w' : World} (h : Below a.heap.size a w) (o : Obj) (e : w.alloc o = w') : Below a.heap.size a w' := e ▸ Below.lit h o
theorem beq_not1 {a b : Bool} (h : (a == b) = false) : (!a == b) = true := by cases a <;> cases b <;> simp_all
theorem beq_not2 {a b : Bool} (h : (a == b) = true) : (!a == b) = false := by cases a <;> cases b <;> simp_all
theorem Box3.new (w : World) (v0 v1 v2 : Value) (e : TypeId) : (w.alloc (.cells #[v0, v1, v2] e)).cell? ⟨w.heap.size, 0, none⟩ = some v0 ∧ (w.alloc (.cells #[v0, v1, v2] e)).cell? ⟨w.heap.size, 1, none⟩ = some v1 ∧ (w.alloc (.cells #[v0, v1, v2] e)).cell? ⟨w.heap.size, 2, none⟩ = some v2 := by
  have h : (w.alloc (.cells #[v0, v1, v2] e)).heap[w.heap.size]? = some (.cells #[v0, v1, v2] e (0, 0)) := heap_alloc_new w _
  exact ⟨cell_of_row _ _ 0 _ _ _ h, cell_of_row _ _ 1 _ _ _ h, cell_of_row _ _ 2 _ _ _ h⟩

set_option maxHeartbeats 4000000 in
theorem l21Cache_c (k : Kx.Kernel) (vm vi ve vc : Value) (w : World) (h : RK w vm vi ve vc k) (hmo : Kx.memOk k.mem = true) (hen : k.envs.length = 3) (hco : Kx.cacheOk k.cache = true) (hro : ∀ e, e < k.envs.length → (Kx.envAt k.envs e).root ≤ 11) :
    Calls Tryz.prog 89 #[.agg #[vm, vi, ve, vc]] w fun e w' => e = .returned (.bool (Kx.cacheTrue k)) ∧ Below w.heap.size w w' := by
  obtain ⟨w0, hw0⟩ : ∃ w0, w.alloc (.cells #[vm, vi, ve, vc] 38) = w0 := ⟨_, rfl⟩
  have Hw0 := Lib.hid (show Below w.heap.size w w0 from hw0 ▸ (Below.refl w.heap.size w).alloc (Nat.le_refl _) _)
  have Hbx := Lib.hid (show Box4 w0 w.heap.size vm vi ve vc from hw0 ▸ Box4.new w vm vi ve vc _)
  have HK := Lib.hid (h.below Hw0.out)
  obtain ⟨_, ae, ce, rfl, _, _⟩ := h.e.len
  obtain ⟨ac, cc, rfl, _, _⟩ := RS.val h.c
  have hcl := h.c.1
  have Hen := Lib.hid hen; have Hmo := Lib.hid hmo; have Hco := Lib.hid hco; have Hro := Lib.hid hro
  clear h hen hmo hco hro
  go_enter Tryz.func89, Tryz.ntmps89
  go_wp2_with fail
  clear hw0
  go_loopw [3] (fun i wr => ∃ q : Nat, i = .int .i64 q ∧ q ≤ k.cache.length ∧ Hid (∀ j, j < q → tOk k j = true) ∧ Hid (Below w0.heap.size w0 wr)) (fun i _ => k.cache.length - (intOf i).toNat)
  case atStart => exact ⟨0, rfl, Nat.zero_le _, fun j hj => absurd hj (Nat.not_lt_zero _), Below.refl _ _⟩
  case round =>
    obtain ⟨q, rfl, hq, hall, hb⟩ := hrel
    by_cases hlt : q < k.cache.length
    · obtain ⟨k0, k1, k2, k3, hbl⟩ := Hbx.out.below hb.out
      obtain ⟨b, off, cap, ev, hbb, h1, h2, h3, h4⟩ := RCached.at (RS.below HK.out.c hb.out) hlt
      simp only [Value.slice.injEq] at ev
      obtain ⟨rfl, _, rfl⟩ := ev
      have hlI : (q : Int) < (k.cache.length : Int) := by omega
      have HB := Lib.hid (show tOk k q = false → Kx.cacheTrue k = false from fun h => by
        rw [tOk_all, List.all_eq_false]
        exact ⟨q, by simpa using hlt, by rw [h]; simp⟩)
      have HN := Lib.hid (show tOk k q = true → ∀ j, j < q + 1 → tOk k j = true from fun h => scan_step hall.out h)
      have Hok := Lib.hid (show tOk k q = Kx.cachedTrue k (k.cache.getD q Kx.Cached.zero) from rfl)
      have hxo := cachedOk_iff.1 (cacheOk_at Hco.out hlt)
      generalize k.cache.getD q Kx.Cached.zero = x at h1 h2 h3 h4 Hok hxo
      obtain ⟨xe, xp, xf, xw⟩ := x
      obtain ⟨⟨he0, he2⟩, ⟨hp0, hp15⟩, _⟩ := hxo
      dsimp only at h1 h2 h3 h4 he0 he2 hp0 hp15
      obtain ⟨e0, rfl⟩ := Int.eq_ofNat_of_zero_le he0
      obtain ⟨p0, rfl⟩ := Int.eq_ofNat_of_zero_le hp0
      have he3 : e0 < k.envs.length := by rw [Hen.out]; omega
      have heI : (e0 : Int) < (k.envs.length : Int) := by omega
      obtain ⟨b2, off2, cap2, u2, ev, hb2, _, h6, _⟩ := (HK.out.e.below hb.out).at he3
      simp only [Value.slice.injEq] at ev
      obtain ⟨rfl, _, rfl⟩ := ev
      have Hr11 := Lib.hid (Hro.out e0 he3)
      have hok2 : tOk k q = (!decide ((Kx.envAt k.envs e0).root < 0) && ((Kx.walk k.mem (Kx.envAt k.envs e0).root.toNat (4 * p0)).2 == 0 && (Kx.walk k.mem (Kx.envAt k.envs e0).root.toNat (4 * p0)).1.1 == xf && (Kx.walk k.mem (Kx.envAt k.envs e0).root.toNat (4 * p0)).1.2.2 == xw)) := Hok.out
      have Hok := Lib.hid hok2
      generalize (Kx.envAt k.envs e0).root = r at h6 Hok Hr11
      obtain ⟨W1, hW1⟩ : ∃ W1, wr.alloc (.cells #[.int .i64 e0, .int .i64 p0, .int .i64 xf, .bool xw] 123) = W1 := ⟨_, rfl⟩
      have B1 := Lib.hid (show Below wr.heap.size wr W1 from hW1 ▸ Below.lit (Below.refl _ _) _)
      have Bx := Lib.hid (show Box4 W1 wr.heap.size (.int .i64 e0) (.int .i64 p0) (.int .i64 xf) (.bool xw) from hW1 ▸ Box4.new wr _ _ _ _ 123)
      have B01 := Lib.hid (hb.out.trans (B1.out.mono hb.out.size))
      have M1 := Lib.hid (HK.out.m.below B01.out)
      have Hbx1 := Lib.hid (Hbx.out.below B01.out)
      obtain ⟨c0, c1, c2, c3, _⟩ := Bx.out
      obtain ⟨m0, m1, m2, m3, _⟩ := Hbx1.out
      have n6 : W1.cell? ⟨b2, off2 + e0 * 2 + 1, none⟩ = some (.int .i64 r) := (B1.out.cell (p := ⟨b2, off2 + e0 * 2 + 1, none⟩) hb2).trans h6
      clear hbl hbb hb2 hok2 he0 he2 hp0 h6
      by_cases hneg : r < 0
      · have HF := Lib.hid (HB.out (by rw [Hok.out, show decide (r < 0) = true from by simpa using hneg]; rfl))
        clear HB HN Hok
        go_wp2_with fail
        go_ret
        exact ⟨ret_bool HF.out.symm, Hw0.out.trans (B01.out.mono Hw0.out.size)⟩
      · obtain ⟨x0, rfl⟩ := Int.eq_ofNat_of_zero_le (Int.not_lt.1 hneg)
        have Hwk := Lib.hid (show Calls Tryz.prog 144 #[vm, .int .i64 (x0 : Int), .int .i64 (4 * (p0 : Int))] W1 _ from by
          rw [show (4 * (p0 : Int)) = ((4 * p0 : Nat) : Int) from by omega]
          exact l3Walk_c k.mem x0 (4 * p0) vm W1 M1.out Hmo.out (by have := Hr11.out; omega) (by omega))
        rw [Int.toNat_natCast, show decide ((x0 : Int) < 0) = false from by simp, Bool.not_false, Bool.true_and] at Hok
        clear hneg
        go_wp2_with fail
        refine Hwk.out.mono ?_; rintro e w2 ⟨rfl, hb2⟩
        have Bx2 := Lib.hid (Bx.out.below hb2)
        have Hb2 := Lib.hid (B01.out.trans (hb2.mono B01.out.size))
        clear hb2 Hwk c0 c1 c2 c3 m0 m1 m2 m3 k0 k1 k2 k3 n6 h1 h2 h3 h4
        generalize Kx.walk k.mem x0 (4 * p0) = res at Hok
        obtain ⟨⟨f, a, wt⟩, code⟩ := res
        dsimp only at Hok
        unfold walkV
        dsimp only
        obtain ⟨W3, hW3⟩ : ∃ W3, w2.alloc (.cells #[.int .i64 f, .int .i64 a, .bool wt] 125) = W3 := ⟨_, rfl⟩
        have B3 := Lib.hid (show Below w2.heap.size w2 W3 from hW3 ▸ Below.lit (Below.refl _ _) _)
        obtain ⟨p1, p2, p3⟩ := (show W3.cell? ⟨w2.heap.size, 0, none⟩ = some (.int .i64 f) ∧ W3.cell? ⟨w2.heap.size, 1, none⟩ = some (.int .i64 a) ∧ W3.cell? ⟨w2.heap.size, 2, none⟩ = some (.bool wt) from hW3 ▸ Box3.new w2 _ _ _ 125)
        obtain ⟨c0, c1, c2, c3, _⟩ := Bx2.out.below B3.out
        have Hb3 := Lib.hid (Hb2.out.trans (B3.out.mono Hb2.out.size))
        cases hz : code == 0 with
        | false =>
          have HF := Lib.hid (HB.out (by rw [Hok.out, hz]; rfl))
          have hz2 : (code != 0) = true := by simpa using hz
          clear HB HN Hok hz
          go_wp2_with fail
          go_ret
          exact ⟨ret_bool HF.out.symm, Hw0.out.trans (Hb3.out.mono Hw0.out.size)⟩
        | true =>
          have hz2 : code = 0 := by simpa using hz
          subst hz2
          clear hz
          cases hfz : f == xf with
          | false =>
            have HF := Lib.hid (HB.out (by rw [Hok.out, hfz]; rfl))
            have hz2 : (f != xf) = true := by simpa using hfz
            clear HB HN Hok hfz
            go_wp2_with fail
            go_ret
            exact ⟨ret_bool HF.out.symm, Hw0.out.trans (Hb3.out.mono Hw0.out.size)⟩
          | true =>
            have hz2 : (f != xf) = false := by simpa using hfz
            cases hwz : wt == xw with
            | false =>
              have HF := Lib.hid (HB.out (by rw [Hok.out, hwz, Bool.and_false]))
              have hz3 : (!wt == xw) = true := beq_not1 hwz
              clear HB HN Hok hfz hwz
              go_wp2_with fail
              go_ret
              exact ⟨ret_bool HF.out.symm, Hw0.out.trans (Hb3.out.mono Hw0.out.size)⟩
            | true =>
              have HN2 := Lib.hid (HN.out (by rw [Hok.out, hfz, hwz]; rfl))
              have hz3 : (!wt == xw) = false := beq_not2 hwz
              clear HB HN Hok hfz hwz
              go_wp2_with fail
              go_roundw
              case rel => exact ⟨q + 1, by go_num, by omega, HN2.out, Hb3.out⟩
              case measure => simp [intOf]; omega
    · have HF := Lib.hid (show Kx.cacheTrue k = true by
        rw [tOk_all, List.all_eq_true]; exact fun j hj => hall.out j (by have : j < k.cache.length := by simpa using hj
                                                                         omega))
      obtain ⟨k0, k1, k2, k3, hbl⟩ := Hbx.out.below hb.out
      go_wp2_with fail
      go_ret
      exact ⟨ret_bool HF.out.symm, Hw0.out.trans (hb.out.mono Hw0.out.size)⟩

/-- what is said of the texts that a kernel holds: their lengths are Go's -/
def SaneK (k : Kx.Kernel) : Prop := SaneI k.infos ∧ SaneE k.envs
set_option maxHeartbeats 4000000 in
theorem specKernelValid_c (k : Kx.Kernel) (vm vi ve vc : Value) (w : World) (h : RK w vm vi ve vc k) (hs : SaneK k) :
    Calls Tryz.prog 35 #[.agg #[vm, vi, ve, vc]] w fun e w' => e = .returned (.bool (Kx.kernelOk k)) ∧ Below w.heap.size w w' := by
  obtain ⟨w0, hw0⟩ : ∃ w0, w.alloc (.cells #[vm, vi, ve, vc] 38) = w0 := ⟨_, rfl⟩
  have Hw0 := Lib.hid (show Below w.heap.size w w0 from hw0 ▸ (Below.refl w.heap.size w).alloc (Nat.le_refl _) _)
  have Hbx := Lib.hid (show Box4 w0 w.heap.size vm vi ve vc from hw0 ▸ Box4.new w vm vi ve vc _)
  have HK := Lib.hid (h.below Hw0.out)
  have Hs := Lib.hid hs
  have HV := Lib.hid (show Kx.kernelOk k = (Kx.memOk k.mem && Kx.infosOk k.infos && Kx.cacheOk k.cache && Kx.envsOk k && Kx.tabsOk k && Kx.refsOk k && Kx.cacheTrue k) from rfl)
  obtain ⟨k0, k1, k2, k3, hbl⟩ := Hbx.out
  clear h hs hbl
  go_enter Tryz.func35, Tryz.ntmps35
  go_wp2_with fail
  clear hw0
  refine (specMemoryValid_c k.mem _ _ HK.out.m).mono ?_; rintro e w1 ⟨rfl, rfl⟩
  cases hm : Kx.memOk k.mem
  · have HF := Lib.hid (show Kx.kernelOk k = false by rw [HV.out, hm]; rfl)
    clear hm HV
    go_wp2_with fail
    go_ret
    exact ⟨ret_bool HF.out.symm, Hw0.out⟩
  have Hm := Lib.hid hm; clear hm
  go_wp2_with fail
  refine (specInfosValid_c k.infos _ _ HK.out.i Hs.out.1).mono ?_; rintro e w1 ⟨rfl, hb1⟩
  have B1 := Lib.hid hb1; clear hb1
  obtain ⟨a0, a1, a2, a3, _⟩ := Hbx.out.below B1.out
  clear k0 k1 k2 k3
  cases hm : Kx.infosOk k.infos
  · have HF := Lib.hid (show Kx.kernelOk k = false by rw [HV.out, hm]; simp)
    clear hm HV
    go_wp2_with fail
    go_ret
    exact ⟨ret_bool HF.out.symm, Hw0.out.trans (B1.out.mono Hw0.out.size)⟩
  have Hi := Lib.hid hm; clear hm
  have Hil := Lib.hid (show k.infos.length = 12 by have := Hi.out; unfold Kx.infosOk at this; simp only [Bool.and_eq_true] at this; simpa using this.2)
  go_wp2_with fail
  refine (specCacheValid_c k.cache _ _ (RS.below HK.out.c B1.out)).mono ?_; rintro e w2 ⟨rfl, hb2⟩
  have B2 := Lib.hid (B1.out.trans (hb2.mono B1.out.size)); clear hb2
  obtain ⟨k0, k1, k2, k3, _⟩ := Hbx.out.below B2.out
  clear a0 a1 a2 a3
  cases hm : Kx.cacheOk k.cache
  · have HF := Lib.hid (show Kx.kernelOk k = false by rw [HV.out, hm]; simp)
    clear hm HV
    go_wp2_with fail
    go_ret
    exact ⟨ret_bool HF.out.symm, Hw0.out.trans (B2.out.mono Hw0.out.size)⟩
  have Hc := Lib.hid hm; clear hm
  go_wp2_with fail
  refine (l21Envs_c k vm vi ve vc _ (HK.out.below B2.out) Hm.out Hil.out Hs.out.2).mono ?_; rintro e w3 ⟨rfl, hb3⟩
  have B3 := Lib.hid (B2.out.trans (hb3.mono B2.out.size)); clear hb3
  obtain ⟨a0, a1, a2, a3, _⟩ := Hbx.out.below B3.out
  clear k0 k1 k2 k3
  cases hm : Kx.envsOk k
  · have HF := Lib.hid (show Kx.kernelOk k = false by rw [HV.out, hm]; simp)
    clear hm HV
    go_wp2_with fail
    go_ret
    exact ⟨ret_bool HF.out.symm, Hw0.out.trans (B3.out.mono Hw0.out.size)⟩
  have Hel := Lib.hid (show k.envs.length = 3 by have := hm; unfold Kx.envsOk at this; simp only [Bool.and_eq_true] at this; simpa using this.2)
  have Hro := Lib.hid (show ∀ e, e < k.envs.length → (Kx.envAt k.envs e).root ≤ 11 from fun e he => by
    have := hm
    unfold Kx.envsOk at this
    rw [eOk_all] at this
    simp only [Bool.and_eq_true, List.all_eq_true] at this
    have h2 := this.1 e (by simpa using he)
    unfold eOk Kx.envOk at h2
    simp only [Bool.and_eq_true] at h2
    exact (Kx.inR_true.1 h2.1.1.2).2)
  have He := Lib.hid hm; clear hm
  go_wp2_with fail
  refine (l21Tables_c k vm vi ve vc _ (HK.out.below B3.out) Hm.out Hil.out).mono ?_; rintro e w4 ⟨rfl, hb4⟩
  have B4 := Lib.hid (B3.out.trans (hb4.mono B3.out.size)); clear hb4
  obtain ⟨k0, k1, k2, k3, _⟩ := Hbx.out.below B4.out
  clear a0 a1 a2 a3
  cases hm : Kx.tabsOk k
  · have HF := Lib.hid (show Kx.kernelOk k = false by rw [HV.out, hm]; simp)
    clear hm HV
    go_wp2_with fail
    go_ret
    exact ⟨ret_bool HF.out.symm, Hw0.out.trans (B4.out.mono Hw0.out.size)⟩
  have Ht := Lib.hid hm; clear hm
  go_wp2_with fail
  refine (l21Refs_c k vm vi ve vc _ (HK.out.below B4.out) Hm.out Hil.out (by rw [Hel.out]; omega) Hro.out).mono ?_; rintro e w5 ⟨rfl, hb5⟩
  have B5 := Lib.hid (B4.out.trans (hb5.mono B4.out.size)); clear hb5
  obtain ⟨a0, a1, a2, a3, _⟩ := Hbx.out.below B5.out
  clear k0 k1 k2 k3
  cases hm : Kx.refsOk k
  · have HF := Lib.hid (show Kx.kernelOk k = false by rw [HV.out, hm]; simp)
    clear hm HV
    go_wp2_with fail
    go_ret
    exact ⟨ret_bool HF.out.symm, Hw0.out.trans (B5.out.mono Hw0.out.size)⟩
  have HF := Lib.hid (show Kx.kernelOk k = Kx.cacheTrue k by rw [HV.out, Hm.out, Hi.out, Hc.out, He.out, Ht.out, hm]; rfl)
  clear hm HV
  go_wp2_with fail
  refine (l21Cache_c k vm vi ve vc _ (HK.out.below B5.out) Hm.out Hel.out Hc.out Hro.out).mono ?_; rintro e w6 ⟨rfl, hb6⟩
  have B6 := Lib.hid (B5.out.trans (hb6.mono B5.out.size)); clear hb6 a0 a1 a2 a3
  go_wp2_with fail
  go_ret
  exact ⟨ret_bool HF.out.symm, Hw0.out.trans (B6.out.mono Hw0.out.size)⟩

end Go.Proofs.YtfnpjdgjceiklaaGreatDoor
