/- Contracts: the laws' copies of what comes in. (printed by kl3.py) -/
import Derived.Test.YtfnpjdgjceiklaaGreatDoorKL2
namespace Go.Proofs.YtfnpjdgjceiklaaGreatDoor
open Go.RowKit

/-- the places o, o + 1, .. hold cs -/
def setAt : List Value → Nat → List Value → List Value
  | xs, _, [] => xs
  | xs, o, c :: cs => setAt (xs.set o c) (o + 1) cs
def setAtW : World → Nat → Nat → List Value → World
  | w, _, _, [] => w
  | w, g, o, c :: cs => setAtW (w.setCell ⟨g, o, none⟩ c) g (o + 1) cs
theorem setAt_eq : ∀ (cs xs : List Value) (o : Nat), o + cs.length ≤ xs.length → setAt xs o cs = xs.take o ++ cs ++ xs.drop (o + cs.length)
  | [], xs, o, _ => by simp [setAt]
  | c :: cs, xs, o, h => by
    have h' : o + 1 + cs.length ≤ (xs.set o c).length := by rw [List.length_set]; simp at h; omega
    have ho : o < xs.length := by simp at h; omega
    have e : setAt xs o (c :: cs) = setAt (xs.set o c) (o + 1) cs := rfl
    rw [e, setAt_eq cs (xs.set o c) (o + 1) h']
    have e1 : (xs.set o c).take (o + 1) = xs.take o ++ [c] := by
      rw [List.take_succ_eq_append_getElem (by simpa using ho)]
      simp [List.take_set_of_le]
    have e2 : (xs.set o c).drop (o + 1 + cs.length) = xs.drop (o + (c :: cs).length) := by
      rw [List.drop_set_of_lt (by omega)]
      congr 1; simp; omega
    rw [e1, e2]; simp
theorem flat_set {α : Type} {f : α → List Value} {sz : Nat} (hf : ∀ x, (f x).length = sz) (l : List α) (k : Nat) (x : α) (hk : k < l.length) : flat f (l.set k x) = setAt (flat f l) (k * sz) (f x) := by
  have hl : l = l.take k ++ l[k] :: l.drop (k + 1) := by rw [List.getElem_cons_drop]; simp
  have e1 : l.set k x = l.take k ++ x :: l.drop (k + 1) := by
    conv => lhs; rw [hl]
    rw [List.set_append_right _ _ (by simp; omega)]
    have : k - (l.take k).length = 0 := by simp; omega
    rw [this, List.set_cons_zero]
  have ht : (flat f (l.take k)).length = k * sz := by rw [flat_length hf, List.length_take, Nat.min_eq_left (by omega)]
  have e2 : flat f l = flat f (l.take k) ++ (f l[k] ++ flat f (l.drop (k + 1))) := by
    conv => lhs; rw [hl]
    rw [flat_append]; congr 1
  have hlen : k * sz + (f x).length ≤ (flat f l).length := by rw [e2, List.length_append, List.length_append, ht, hf, hf]; omega
  rw [setAt_eq _ _ _ hlen, e1, flat_append]
  have e3 : (flat f l).take (k * sz) = flat f (l.take k) := by rw [e2, ← ht, List.take_left']; rfl
  have e4 : (flat f l).drop (k * sz + (f x).length) = flat f (l.drop (k + 1)) := by
    have e5 : (flat f (l.take k) ++ f l[k]).length = (flat f (l.take k)).length + (f x).length := by rw [List.length_append, hf, hf]
    rw [e2, ← ht, ← List.append_assoc, ← e5, List.drop_left]
  rw [e3, e4]
  unfold flat; simp
theorem stored_all {base e sz g n cap : Nat} : ∀ (cs xs : List Value) (o : Nat) (w : World), w.ownsRow base e sz (.slice (some ⟨g, 0, none⟩) n cap) n xs →
    (setAtW w g o cs).ownsRow base e sz (.slice (some ⟨g, 0, none⟩) n cap) n (setAt xs o cs) ∧ w.grownBy (setAtW w g o cs) (some g)
  | [], xs, o, w, h => ⟨h, World.grownBy.refl _ _⟩
  | c :: cs, xs, o, w, h => by
    obtain ⟨h1, h2⟩ := h.stored o c
    obtain ⟨h3, h4⟩ := stored_all cs (xs.set o c) (o + 1) _ h1
    exact ⟨h3, grownBy_trans h2 h4⟩
theorem OS.storedAt {α : Type} {f : α → List Value} {sz : Nat} [E : Elt f sz] {e : TypeId} {w : World} {base g n cap : Nat} {l : List α} (h : OS f sz e w base (.slice (some ⟨g, 0, none⟩) n cap) l) (hn : l.length = n) (k : Nat) (x : α) (hk : k < l.length) :
    OS f sz e (setAtW w g (k * sz) (f x)) base (.slice (some ⟨g, 0, none⟩) n cap) (l.set k x) ∧ w.grownBy (setAtW w g (k * sz) (f x)) (some g) := by
  subst hn
  obtain ⟨h1, h2⟩ := stored_all (f x) (flat f l) (k * sz) w h.1
  refine ⟨⟨?_, by simpa using h.2⟩, h2⟩
  rw [flat_set E.len l k x hk, List.length_set]
  exact h1
theorem below_setAtW {B : Nat} {a : World} {g : Nat} (hg : B ≤ g) : ∀ (cs : List Value) (o : Nat) (w : World), Below B a w → Below B a (setAtW w g o cs)
  | [], _, _, h => h
  | c :: cs, o, _, h => below_setAtW hg cs (o + 1) _ (h.setCell (p := ⟨g, o, none⟩) hg c)
theorem OS.cellAt2 {α : Type} {f : α → List Value} {sz : Nat} [E : Elt f sz] {e : TypeId} {w : World} {base g n cap : Nat} {l : List α} (h : OS f sz e w base (.slice (some ⟨g, 0, none⟩) n cap) l) (k : Nat) (hk : k < l.length) (j : Nat) (hj : j < sz) :
    (∃ u, w.cell? ⟨g, k * sz + j, none⟩ = some u) ∧ w.frozen? ⟨g, k * sz + j, none⟩ = false := by
  have h1 : (f l[k])[j]? = some ((f l[k])[j]'(by rw [E.len]; exact hj)) := List.getElem?_eq_getElem (by rw [E.len]; exact hj)
  obtain ⟨b, off, cap', e, _, hc⟩ := h.rs.at hk
  simp only [Value.slice.injEq, Option.some.injEq, Addr.mk.injEq] at e
  obtain ⟨⟨rfl, rfl, _⟩, _⟩ := e
  have := hc j _ h1
  rw [Nat.zero_add] at this
  obtain rfl := (RS.len h.rs rfl).1
  exact ⟨⟨_, this⟩, h.1.frozenAt _⟩
theorem flat_replicate {α : Type} {f : α → List Value} {sz : Nat} (hf : ∀ x, (f x).length = sz) (hs : 0 < sz) (z : α) (zc : Array Value) (hz : zc.toList = f z) (n : Nat) : (madeCells zc (n * sz)).toList = flat f (List.replicate n z) := by
  have hzs : zc.size = sz := by rw [← hf z, ← hz]; simp
  have hl : (flat f (List.replicate n z)).length = n * sz := by rw [flat_length hf]; simp
  refine List.ext_getElem (by rw [hl, Array.length_toList, size_madeCells]) fun i h1 h2 => ?_
  have hi : i < n * sz := by rw [hl] at h2; exact h2
  obtain ⟨k, hk, j, hj, e, hg⟩ := flat_inv hf hs (List.replicate n z) i _ (List.getElem?_eq_getElem h2)
  have hz2 : (f z)[j]? = some ((flat f (List.replicate n z))[i]) := by simpa using hg
  simp only [madeCells, Array.getElem_toList, Array.getElem_map, Array.getElem_range]
  have hm : i % zc.size = j := by rw [hzs, e, Nat.mul_comm, Nat.mul_add_mod, Nat.mod_eq_of_lt hj]
  rw [hm, ← hz] at *
  rw [getElem!_pos zc j (by omega)]
  have : zc.toList[j]? = some (zc[j]'(by omega)) := by simp [show j < zc.size by omega]
  rw [this] at hz2
  exact Option.some.inj hz2
theorem Below.sepNone {w w' : World} (h : w.grownBy w' none) : Below w.heap.size w w' := Below.grownNone h
/-- the call hands back a new slice that reads as l -/
def MadeS {α : Type} (f : α → List Value) (sz : Nat) (e : TypeId) (w : World) (l : List α) (en : Ending) (w' : World) : Prop := ∃ u, en = .returned u ∧ OS f sz e w' w.heap.size u l ∧ Below w.heap.size w w'
theorem take_fill {α : Type} (l : List α) (z : α) (k : Nat) (hk : k < l.length) : (l.take k ++ List.replicate (l.length - k) z).set k l[k] = l.take (k + 1) ++ List.replicate (l.length - (k + 1)) z := by
  have e : List.replicate (l.length - k) z = z :: List.replicate (l.length - (k + 1)) z := by
    rw [show l.length - k = (l.length - (k + 1)) + 1 by omega]; rfl
  rw [e, List.set_append_right _ _ (by simp; omega)]
  have : k - (l.take k).length = 0 := by simp; omega
  rw [this, List.set_cons_zero, show l.take (k + 1) = l.take k ++ [l[k]] from List.take_succ_eq_append_getElem hk, List.append_assoc]; rfl
theorem info_str : (Tryz.prog.info? 9).map (fun i => (i.zero, i.size, i.bytes)) = some (some (.string ⟨#[]⟩), 1, 16) := by kernel_rfl
theorem info_info : (Tryz.prog.info? 111).map (fun i => (i.zero, i.size, i.bytes)) = some (some (.agg #[.int .i64 0, .string ⟨#[]⟩, .int .i64 0]), 3, 32) := by kernel_rfl
theorem info_cached : (Tryz.prog.info? 123).map (fun i => (i.zero, i.size, i.bytes)) = some (some (.agg #[.int .i64 0, .int .i64 0, .int .i64 0, .bool false]), 4, 32) := by kernel_rfl
theorem info_env : (Tryz.prog.info? 82).map (fun i => (i.zero, i.size, i.bytes)) = some (some (.agg #[.slice none 0 0, .int .i64 0]), 2, 32) := by kernel_rfl
theorem info_ints : (Tryz.prog.info? 28).map (fun i => (i.zero, i.size, i.bytes)) = some (some (.slice none 0 0), 1, 24) := by kernel_rfl
theorem info_page : (Tryz.prog.info? 90).map (fun i => (i.zero, i.size, i.bytes)) = some (some (.agg #[.int .i64 0, .int .i64 0, .bool false]), 3, 24) := by kernel_rfl
set_option maxHeartbeats 1000000 in
theorem toInfo_c (x : Kx.Info) (w : World) : Calls Tryz.prog 120 #[infoV x] w fun e w' => e = .returned (infoV x) ∧ Below w.heap.size w w' := by
  have Hb := Lib.hid (show ∀ a b c, Below w.heap.size w (((w.alloc (.cells a 137)).alloc (.cells b 111)).alloc (.cells c 111)) from fun a b c => (((Below.refl w.heap.size w).alloc (Nat.le_refl _) _).alloc (by simp) _).alloc (by simp; omega) _)
  unfold infoV
  go_enter Tryz.func120, Tryz.ntmps120
  go_wp2_with fail
  exact bodyPost_ret (v := .agg #[.int .i64 x.kind, .string x.guard, .int .i64 x.refs]) (by simp [results, Tryz.results120, go_sem]) rfl ⟨rfl, Hb.out _ _ _⟩
set_option maxHeartbeats 1000000 in
theorem toCached_c (x : Kx.Cached) (w : World) : Calls Tryz.prog 122 #[cachedV x] w fun e w' => e = .returned (cachedV x) ∧ Below w.heap.size w w' := by
  have Hb := Lib.hid (show ∀ a b c, Below w.heap.size w (((w.alloc (.cells a 143)).alloc (.cells b 123)).alloc (.cells c 123)) from fun a b c => (((Below.refl w.heap.size w).alloc (Nat.le_refl _) _).alloc (by simp) _).alloc (by simp; omega) _)
  unfold cachedV
  go_enter Tryz.func122, Tryz.ntmps122
  go_wp2_with fail
  exact bodyPost_ret (v := .agg #[.int .i64 x.env, .int .i64 x.page, .int .i64 x.frame, .bool x.write]) (by simp [results, Tryz.results122, go_sem]) rfl ⟨rfl, Hb.out _ _ _⟩
def pageV (x : Kx.Page) : Value := .agg #[.int .i64 x.wh, .int .i64 x.at_, .bool x.used]
set_option maxHeartbeats 1000000 in
theorem toPage_c (x : Kx.Page) (w : World) : Calls Tryz.prog 95 #[pageV x] w fun e w' => e = .returned (pageV x) ∧ Below w.heap.size w w' := by
  have Hb := Lib.hid (show ∀ a b c, Below w.heap.size w (((w.alloc (.cells a 116)).alloc (.cells b 90)).alloc (.cells c 90)) from fun a b c => (((Below.refl w.heap.size w).alloc (Nat.le_refl _) _).alloc (by simp) _).alloc (by simp; omega) _)
  unfold pageV
  go_enter Tryz.func95, Tryz.ntmps95
  go_wp2_with fail
  exact bodyPost_ret (v := .agg #[.int .i64 x.wh, .int .i64 x.at_, .bool x.used]) (by simp [results, Tryz.results95, go_sem]) rfl ⟨rfl, Hb.out _ _ _⟩
set_option maxHeartbeats 2000000 in
theorem toStringS_c (l : List Kx.Str) (v : Value) (w : World) (h : RS strC 1 w v l) (hl20 : l.length ≤ 1048576) : Calls Tryz.prog 176 #[v] w (MadeS strC 1 9 w l) := by
  obtain ⟨a, cap, rfl, _, _⟩ := RS.val h
  have H := Lib.hid (show RStr w _ l from h); clear h
  obtain ⟨i0, hi, hz0, hz1, hz2⟩ := info_parts info_str
  have hc1 : i0.bytes * l.length ≤ 281474976710656 := by rw [hz2]; omega
  have hc2 : l.length ≤ maxLen := by unfold maxLen; omega
  go_enter Tryz.func176, Tryz.ntmps176
  go_wp2_with (at_make; refine wpList_make_full _ rfl _ _ 80 rfl w.heap.size 9 i0 (.string ⟨#[]⟩) 1 Tryz.underlying80 hi hz0 hz1 .i64 .i64 _ _ l.length rfl rfl rfl rfl hc1 hc2 (Nat.le_refl _) ?_; intro w1 hown hgrow)
  have B1 := Lib.hid (Below.grownNone hgrow)
  have O1 := Lib.hid (show OS strC 1 9 w1 w.heap.size (.slice (some ⟨w.heap.size, 0, none⟩) l.length l.length) (List.replicate l.length (ByteArray.empty : Kx.Str)) from ⟨by rw [← flat_replicate (f := strC) (sz := 1) (fun _ => rfl) (by decide) (ByteArray.empty : Kx.Str) _ rfl l.length, List.length_replicate]; exact hown, by simp; omega⟩)
  clear hi hz0 hz1 hz2 hgrow hown
  go_loopw [4] (fun i wr => ∃ k : Nat, i = .int .i64 k ∧ k ≤ l.length ∧ Hid (OS strC 1 9 wr w.heap.size (.slice (some ⟨w.heap.size, 0, none⟩) l.length l.length) (l.take k ++ List.replicate (l.length - k) (ByteArray.empty : Kx.Str))) ∧ Hid (Below w.heap.size w wr)) (fun i _ => l.length - (intOf i).toNat)
  case atStart => exact ⟨0, rfl, Nat.zero_le _, by simpa [Hid] using O1.out, B1.out⟩
  case round =>
    clear O1 B1
    obtain ⟨k, rfl, hk, ho, hb⟩ := hrel
    by_cases hlt : k < l.length
    · obtain ⟨b, off, cap1, e, hbl, hx0⟩ := RStr.at (RS.below H.out hb.out) hlt
      simp only [Value.slice.injEq] at e
      obtain ⟨rfl, _, rfl⟩ := e
      have hlI : (k : Int) < (l.length : Int) := by omega
      obtain ⟨hst, hgr⟩ := ho.out.storedAt (by simp; omega) k l[k] (by simp; omega)
      rw [take_fill l _ k hlt] at hst
      rw [Nat.mul_one] at hst
      have Hst := Lib.hid hst
      have B2 := Lib.hid hb.out
      obtain ⟨⟨z0, hz0⟩, hf0⟩ := ho.out.cellAt2 k (by simp; omega) 0 (by decide)
      clear hst hgr
      rw [Nat.add_zero, Nat.mul_one] at hz0 hf0
      generalize l[k] = x at hx0 Hst
      go_wp2_with fail
      go_roundw
      case rel => exact ⟨k + 1, by go_num, by omega, Hst.out, below_setAtW (Nat.le_refl _) (strC x) k _ B2.out⟩
      case measure => simp [intOf]; omega
    · have hkn : k = l.length := by omega
      have HF := Lib.hid (show OS strC 1 9 wr w.heap.size (.slice (some ⟨w.heap.size, 0, none⟩) l.length l.length) l by
        have h9 := ho.out
        rw [hkn, List.take_length, Nat.sub_self, List.replicate_zero, List.append_nil] at h9
        exact h9)
      clear hkn
      go_wp2_with fail
      go_ret
      exact ⟨_, rfl, HF.out, hb.out⟩
set_option maxHeartbeats 2000000 in
theorem toInfoS_c (l : List Kx.Info) (v : Value) (w : World) (h : RS infoC 3 w v l) (hl20 : l.length ≤ 1048576) : Calls Tryz.prog 63 #[v] w (MadeS infoC 3 111 w l) := by
  obtain ⟨a, cap, rfl, _, _⟩ := RS.val h
  have H := Lib.hid (show RInfo w _ l from h); clear h
  obtain ⟨i0, hi, hz0, hz1, hz2⟩ := info_parts info_info
  have hc1 : i0.bytes * l.length ≤ 281474976710656 := by rw [hz2]; omega
  have hc2 : l.length ≤ maxLen := by unfold maxLen; omega
  go_enter Tryz.func63, Tryz.ntmps63
  go_wp2_with (at_make; refine wpList_make_full _ rfl _ _ 34 rfl w.heap.size 111 i0 (.agg #[.int .i64 0, .string ⟨#[]⟩, .int .i64 0]) 3 Tryz.underlying34 hi hz0 hz1 .i64 .i64 _ _ l.length rfl rfl rfl rfl hc1 hc2 (Nat.le_refl _) ?_; intro w1 hown hgrow)
  have B1 := Lib.hid (Below.grownNone hgrow)
  have O1 := Lib.hid (show OS infoC 3 111 w1 w.heap.size (.slice (some ⟨w.heap.size, 0, none⟩) l.length l.length) (List.replicate l.length Kx.Info.zero) from ⟨by rw [← flat_replicate (f := infoC) (sz := 3) (fun _ => rfl) (by decide) Kx.Info.zero _ rfl l.length, List.length_replicate]; exact hown, by simp; omega⟩)
  clear hi hz0 hz1 hz2 hgrow hown
  go_loopw [4] (fun i wr => ∃ k : Nat, i = .int .i64 k ∧ k ≤ l.length ∧ Hid (OS infoC 3 111 wr w.heap.size (.slice (some ⟨w.heap.size, 0, none⟩) l.length l.length) (l.take k ++ List.replicate (l.length - k) Kx.Info.zero)) ∧ Hid (Below w.heap.size w wr)) (fun i _ => l.length - (intOf i).toNat)
  case atStart => exact ⟨0, rfl, Nat.zero_le _, by simpa [Hid] using O1.out, B1.out⟩
  case round =>
    clear O1 B1
    obtain ⟨k, rfl, hk, ho, hb⟩ := hrel
    by_cases hlt : k < l.length
    · obtain ⟨b, off, cap1, e, hbl, hx0, hx1, hx2⟩ := RInfo.at (RS.below H.out hb.out) hlt
      rw [show Kx.inf l k = l[k] from by simp [Kx.inf, hlt]] at hx0 hx1 hx2
      simp only [Value.slice.injEq] at e
      obtain ⟨rfl, _, rfl⟩ := e
      have hlI : (k : Int) < (l.length : Int) := by omega
      have HC := Lib.hid (fun W => toInfo_c l[k] W)
      unfold infoV at HC
      go_wp2_with fail
      refine (HC.out _).mono ?_; rintro e w2 ⟨rfl, hb2⟩
      have Ho2 := Lib.hid (ho.out.below hb2)
      have B2 := Lib.hid (hb.out.trans (hb2.mono hb.out.size)); clear hb2
      obtain ⟨hst, hgr⟩ := Ho2.out.storedAt (by simp; omega) k l[k] (by simp; omega)
      rw [take_fill l _ k hlt] at hst
      have Hst := Lib.hid hst
      obtain ⟨⟨z0, hz0⟩, hf0⟩ := Ho2.out.cellAt2 k (by simp; omega) 0 (by decide)
      obtain ⟨⟨z1, hz1⟩, hf1⟩ := Ho2.out.cellAt2 k (by simp; omega) 1 (by decide)
      obtain ⟨⟨z2, hz2⟩, hf2⟩ := Ho2.out.cellAt2 k (by simp; omega) 2 (by decide)
      clear hst hgr
      try rw [Nat.add_zero] at hz0 hf0
      generalize l[k] = x at hx0 hx1 hx2 Hst
      go_wp2_with fail
      go_roundw
      case rel => exact ⟨k + 1, by go_num, by omega, Hst.out, below_setAtW (Nat.le_refl _) (infoC x) (k * 3) _ B2.out⟩
      case measure => simp [intOf]; omega
    · have hkn : k = l.length := by omega
      have HF := Lib.hid (show OS infoC 3 111 wr w.heap.size (.slice (some ⟨w.heap.size, 0, none⟩) l.length l.length) l by
        have h9 := ho.out
        rw [hkn, List.take_length, Nat.sub_self, List.replicate_zero, List.append_nil] at h9
        exact h9)
      clear hkn
      go_wp2_with fail
      go_ret
      exact ⟨_, rfl, HF.out, hb.out⟩
set_option maxHeartbeats 2000000 in
theorem toCachedS_c (l : List Kx.Cached) (v : Value) (w : World) (h : RS cachedC 4 w v l) (hl20 : l.length ≤ 1048576) : Calls Tryz.prog 65 #[v] w (MadeS cachedC 4 123 w l) := by
  obtain ⟨a, cap, rfl, _, _⟩ := RS.val h
  have H := Lib.hid (show RCached w _ l from h); clear h
  obtain ⟨i0, hi, hz0, hz1, hz2⟩ := info_parts info_cached
  have hc1 : i0.bytes * l.length ≤ 281474976710656 := by rw [hz2]; omega
  have hc2 : l.length ≤ maxLen := by unfold maxLen; omega
  go_enter Tryz.func65, Tryz.ntmps65
  go_wp2_with (at_make; refine wpList_make_full _ rfl _ _ 36 rfl w.heap.size 123 i0 (.agg #[.int .i64 0, .int .i64 0, .int .i64 0, .bool false]) 4 Tryz.underlying36 hi hz0 hz1 .i64 .i64 _ _ l.length rfl rfl rfl rfl hc1 hc2 (Nat.le_refl _) ?_; intro w1 hown hgrow)
  have B1 := Lib.hid (Below.grownNone hgrow)
  have O1 := Lib.hid (show OS cachedC 4 123 w1 w.heap.size (.slice (some ⟨w.heap.size, 0, none⟩) l.length l.length) (List.replicate l.length Kx.Cached.zero) from ⟨by rw [← flat_replicate (f := cachedC) (sz := 4) (fun _ => rfl) (by decide) Kx.Cached.zero _ rfl l.length, List.length_replicate]; exact hown, by simp; omega⟩)
  clear hi hz0 hz1 hz2 hgrow hown
  go_loopw [4] (fun i wr => ∃ k : Nat, i = .int .i64 k ∧ k ≤ l.length ∧ Hid (OS cachedC 4 123 wr w.heap.size (.slice (some ⟨w.heap.size, 0, none⟩) l.length l.length) (l.take k ++ List.replicate (l.length - k) Kx.Cached.zero)) ∧ Hid (Below w.heap.size w wr)) (fun i _ => l.length - (intOf i).toNat)
  case atStart => exact ⟨0, rfl, Nat.zero_le _, by simpa [Hid] using O1.out, B1.out⟩
  case round =>
    clear O1 B1
    obtain ⟨k, rfl, hk, ho, hb⟩ := hrel
    by_cases hlt : k < l.length
    · obtain ⟨b, off, cap1, e, hbl, hx0, hx1, hx2, hx3⟩ := RCached.at (RS.below H.out hb.out) hlt
      rw [show l.getD k Kx.Cached.zero = l[k] from by simp [hlt]] at hx0 hx1 hx2 hx3
      simp only [Value.slice.injEq] at e
      obtain ⟨rfl, _, rfl⟩ := e
      have hlI : (k : Int) < (l.length : Int) := by omega
      have HC := Lib.hid (fun W => toCached_c l[k] W)
      unfold cachedV at HC
      go_wp2_with fail
      refine (HC.out _).mono ?_; rintro e w2 ⟨rfl, hb2⟩
      have Ho2 := Lib.hid (ho.out.below hb2)
      have B2 := Lib.hid (hb.out.trans (hb2.mono hb.out.size)); clear hb2
      obtain ⟨hst, hgr⟩ := Ho2.out.storedAt (by simp; omega) k l[k] (by simp; omega)
      rw [take_fill l _ k hlt] at hst
      have Hst := Lib.hid hst
      obtain ⟨⟨z0, hz0⟩, hf0⟩ := Ho2.out.cellAt2 k (by simp; omega) 0 (by decide)
      obtain ⟨⟨z1, hz1⟩, hf1⟩ := Ho2.out.cellAt2 k (by simp; omega) 1 (by decide)
      obtain ⟨⟨z2, hz2⟩, hf2⟩ := Ho2.out.cellAt2 k (by simp; omega) 2 (by decide)
      obtain ⟨⟨z3, hz3⟩, hf3⟩ := Ho2.out.cellAt2 k (by simp; omega) 3 (by decide)
      clear hst hgr
      try rw [Nat.add_zero] at hz0 hf0
      generalize l[k] = x at hx0 hx1 hx2 hx3 Hst
      go_wp2_with fail
      go_roundw
      case rel => exact ⟨k + 1, by go_num, by omega, Hst.out, below_setAtW (Nat.le_refl _) (cachedC x) (k * 4) _ B2.out⟩
      case measure => simp [intOf]; omega
    · have hkn : k = l.length := by omega
      have HF := Lib.hid (show OS cachedC 4 123 wr w.heap.size (.slice (some ⟨w.heap.size, 0, none⟩) l.length l.length) l by
        have h9 := ho.out
        rw [hkn, List.take_length, Nat.sub_self, List.replicate_zero, List.append_nil] at h9
        exact h9)
      clear hkn
      go_wp2_with fail
      go_ret
      exact ⟨_, rfl, HF.out, hb.out⟩
set_option maxHeartbeats 2000000 in
theorem toPageS_c (l : List Kx.Page) (v : Value) (w : World) (h : RS pageC 3 w v l) (hl20 : l.length ≤ 1048576) : Calls Tryz.prog 45 #[v] w (MadeS pageC 3 90 w l) := by
  obtain ⟨a, cap, rfl, _, _⟩ := RS.val h
  have H := Lib.hid (show RPage w _ l from h); clear h
  obtain ⟨i0, hi, hz0, hz1, hz2⟩ := info_parts info_page
  have hc1 : i0.bytes * l.length ≤ 281474976710656 := by rw [hz2]; omega
  have hc2 : l.length ≤ maxLen := by unfold maxLen; omega
  go_enter Tryz.func45, Tryz.ntmps45
  go_wp2_with (at_make; refine wpList_make_full _ rfl _ _ 39 rfl w.heap.size 90 i0 (.agg #[.int .i64 0, .int .i64 0, .bool false]) 3 Tryz.underlying39 hi hz0 hz1 .i64 .i64 _ _ l.length rfl rfl rfl rfl hc1 hc2 (Nat.le_refl _) ?_; intro w1 hown hgrow)
  have B1 := Lib.hid (Below.grownNone hgrow)
  have O1 := Lib.hid (show OS pageC 3 90 w1 w.heap.size (.slice (some ⟨w.heap.size, 0, none⟩) l.length l.length) (List.replicate l.length Kx.Page.zero) from ⟨by rw [← flat_replicate (f := pageC) (sz := 3) (fun _ => rfl) (by decide) Kx.Page.zero _ rfl l.length, List.length_replicate]; exact hown, by simp; omega⟩)
  clear hi hz0 hz1 hz2 hgrow hown
  go_loopw [4] (fun i wr => ∃ k : Nat, i = .int .i64 k ∧ k ≤ l.length ∧ Hid (OS pageC 3 90 wr w.heap.size (.slice (some ⟨w.heap.size, 0, none⟩) l.length l.length) (l.take k ++ List.replicate (l.length - k) Kx.Page.zero)) ∧ Hid (Below w.heap.size w wr)) (fun i _ => l.length - (intOf i).toNat)
  case atStart => exact ⟨0, rfl, Nat.zero_le _, by simpa [Hid] using O1.out, B1.out⟩
  case round =>
    clear O1 B1
    obtain ⟨k, rfl, hk, ho, hb⟩ := hrel
    by_cases hlt : k < l.length
    · obtain ⟨b, off, cap1, e, hbl, hx0, hx1, hx2⟩ := RPage.at (RS.below H.out hb.out) hlt
      rw [show Kx.pageAt l k = l[k] from by simp [Kx.pageAt, hlt]] at hx0 hx1 hx2
      simp only [Value.slice.injEq] at e
      obtain ⟨rfl, _, rfl⟩ := e
      have hlI : (k : Int) < (l.length : Int) := by omega
      have HC := Lib.hid (fun W => toPage_c l[k] W)
      unfold pageV at HC
      go_wp2_with fail
      refine (HC.out _).mono ?_; rintro e w2 ⟨rfl, hb2⟩
      have Ho2 := Lib.hid (ho.out.below hb2)
      have B2 := Lib.hid (hb.out.trans (hb2.mono hb.out.size)); clear hb2
      obtain ⟨hst, hgr⟩ := Ho2.out.storedAt (by simp; omega) k l[k] (by simp; omega)
      rw [take_fill l _ k hlt] at hst
      have Hst := Lib.hid hst
      obtain ⟨⟨z0, hz0⟩, hf0⟩ := Ho2.out.cellAt2 k (by simp; omega) 0 (by decide)
      obtain ⟨⟨z1, hz1⟩, hf1⟩ := Ho2.out.cellAt2 k (by simp; omega) 1 (by decide)
      obtain ⟨⟨z2, hz2⟩, hf2⟩ := Ho2.out.cellAt2 k (by simp; omega) 2 (by decide)
      clear hst hgr
      try rw [Nat.add_zero] at hz0 hf0
      generalize l[k] = x at hx0 hx1 hx2 Hst
      go_wp2_with fail
      go_roundw
      case rel => exact ⟨k + 1, by go_num, by omega, Hst.out, below_setAtW (Nat.le_refl _) (pageC x) (k * 3) _ B2.out⟩
      case measure => simp [intOf]; omega
    · have hkn : k = l.length := by omega
      have HF := Lib.hid (show OS pageC 3 90 wr w.heap.size (.slice (some ⟨w.heap.size, 0, none⟩) l.length l.length) l by
        have h9 := ho.out
        rw [hkn, List.take_length, Nat.sub_self, List.replicate_zero, List.append_nil] at h9
        exact h9)
      clear hkn
      go_wp2_with fail
      go_ret
      exact ⟨_, rfl, HF.out, hb.out⟩
end Go.Proofs.YtfnpjdgjceiklaaGreatDoor
