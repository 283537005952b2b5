/- Contracts: slices.Delete of one number; what is used, what goes. -/
import Derived.Test.YtdmjpikkgfedmaaWalkT
import Derived.Deep.RegionLaw
import Derived.Lib.SliceRun
namespace Go.Proofs.Ytdmjpikkgfedmaa
open Go.RowKit

/-- numbers written over a list from place o on -/
def putL (l : List Value) : Nat → List Value → List Value
  | _, [] => l
  | o, v :: r => putL (l.set o v) (o + 1) r
theorem putL_eq : ∀ (vs : List Value) (l : List Value) (o : Nat), o + vs.length ≤ l.length → putL l o vs = l.take o ++ vs ++ l.drop (o + vs.length)
  | [], l, o, _ => by simp [putL]
  | v :: r, l, o, h => by
    simp only [List.length_cons] at h
    rw [putL, putL_eq r _ _ (by simp; omega)]
    have e : (l.set o v).take (o + 1) = l.take o ++ [v] := by
      rw [List.take_set, List.take_succ_eq_append_getElem (by omega), List.set_append_right _ _ (by simp; omega)]
      simp [Nat.min_eq_left (show o ≤ l.length by omega)]
    have e2 : (l.set o v).drop (o + 1 + r.length) = l.drop (o + 1 + r.length) := List.drop_set_of_lt (by omega)
    rw [e, e2]
    simp only [List.append_assoc, List.length_cons, List.cons_append, List.nil_append]
    rw [show o + (r.length + 1) = o + 1 + r.length by omega]

theorem heap_setCells (g : Nat) (e : TypeId) : ∀ (vs : List Value) (o : Nat) (w : World) (cur : Array Value), w.heap[g]? = some (.cells cur e (0, 0)) →
    (w.setCells g o vs).heap[g]? = some (.cells (putL cur.toList o vs).toArray e (0, 0)) ∧ w.grownBy (w.setCells g o vs) (some g)
  | [], _, w, cur, h => ⟨by simpa [World.setCells, putL] using h, World.grownBy.refl _ _⟩
  | v :: r, o, w, cur, h => by
    have h1 := heap_setCell_same w g o cur e v h
    obtain ⟨h2, h3⟩ := heap_setCells g e r (o + 1) _ _ h1
    refine ⟨by rw [World.setCells, h2, putL, Array.toList_setIfInBounds], ?_⟩
    have h4 : w.grownBy (w.setCell ⟨g, o, none⟩ v) (some g) := ⟨rfl, rfl, rfl, by simp, fun k _ hk => heap_setCell_other w ⟨g, o, none⟩ k v (fun e => hk (by simp [e]))⟩
    exact grownBy_trans h4 h3

set_option maxHeartbeats 4000000 in
set_option maxRecDepth 1000000 in
theorem Delete_c (xs : List Int) (k : Nat) (hk : k < xs.length) (base : Nat) (v : Value) (w : World) (h : OI w base v xs) :
    Calls Try.prog 38 #[v, .int .i64 k, .int .i64 (k + 1 : Nat)] w fun e w' => ∃ v', e = .returned v' ∧ OI w' base v' (xs.eraseIdx k) ∧ w.grownBy w' v.ownBlock ∧ v'.ownBlock = v.ownBlock := by
  rcases h.1.2 with ⟨rfl, hn⟩ | ⟨g, cap, cur, rfl, hb, hg, hnc, hcm, hcs, htake⟩
  · omega
  obtain ⟨n, hn⟩ : ∃ n, xs.length = n := ⟨_, rfl⟩
  have hl := h.2
  rw [hn] at hk hnc htake hl ⊢
  obtain ⟨i0, hi, hz0, hz1, hz2⟩ := info_parts info3
  simp only [Nat.mul_one] at hcs htake
  unfold maxLen at hcm
  have hcl : cur.toList.length = cap := by simpa using hcs
  obtain ⟨j, hj⟩ : ∃ j, k + 1 = j := ⟨_, rfl⟩
  rw [hj]
  -- the numbers that are moved
  obtain ⟨news, hnews⟩ : ∃ news, news = (ints xs).drop j := ⟨_, rfl⟩
  have hlen : news.length = n - j := by rw [hnews]; simp [ints, hn]
  obtain ⟨A, hA, hsrc⟩ : ∃ A : Addr, (if cap = j then some (⟨g, 0, none⟩ : Addr) else some ⟨g, j, none⟩) = some A ∧ Hid (∀ t u, news[t]? = some u → w.drew.cell? (A.add t) = some u) := by
    by_cases hc : cap = j
    · refine ⟨⟨g, 0, none⟩, by simp [hc], fun t u hu => ?_⟩
      have h0 : news.length = 0 := by rw [hlen]; omega
      rw [List.length_eq_zero_iff.1 h0] at hu
      simp at hu
    · refine ⟨⟨g, j, none⟩, by simp [hc], fun t u hu => ?_⟩
      have ht : t < n - j := by
        have := (List.getElem?_eq_some_iff.1 hu).1
        rwa [hlen] at this
      rw [hnews, List.getElem?_drop] at hu
      rw [Addr.add_lit]
      show w.cell? ⟨g, j + t, none⟩ = some u
      rw [h.1.cellAt (j + t) (by omega), hu]
  have s1 : Hid (news.length = (n - j) * 1) := by rw [Nat.mul_one]; exact hlen
  have s2 : Hid (∀ u ∈ news, u.oneCell' = true) := by
    intro u hu
    rw [hnews] at hu
    exact ints_oneCell .i64 xs u (List.mem_of_mem_drop hu)
  have s3 : Hid (∀ t, t < news.length → (w.drew.cell? ⟨g, 0 + k * 1 + t, none⟩).isSome = true ∧ w.drew.frozen? ⟨g, 0 + k * 1 + t, none⟩ = false) := by
    intro t ht
    rw [hlen] at ht
    rw [Nat.mul_one, Nat.zero_add]
    refine ⟨?_, h.1.frozenAt _⟩
    show (w.cell? ⟨g, k + t, none⟩).isSome = true
    rw [h.1.cellAt (k + t) (by omega), List.getElem?_eq_getElem (by simp [ints]; omega)]; rfl
  obtain ⟨W1, hW1⟩ : ∃ W1, W1 = w.drew.setCells g (0 + k * 1) news := ⟨_, rfl⟩
  obtain ⟨hb1, hgr1⟩ := heap_setCells g 3 news (0 + k * 1) w.drew cur hg
  rw [← hW1] at hb1 hgr1
  have hpl : putL cur.toList (0 + k * 1) news = cur.toList.take k ++ news ++ cur.toList.drop (k + (n - j)) := by
    rw [Nat.mul_one, Nat.zero_add, putL_eq _ _ _ (by rw [hlen, hcl]; omega), hlen]
  rw [hpl] at hb1
  have hc1l : (cur.toList.take k ++ news ++ cur.toList.drop (k + (n - j))).length = cap := by simp [hlen]; omega
  obtain ⟨W2, hW2⟩ : ∃ W2, W2 = W1.setCells g (0 + (k + (n - j))) (List.replicate (n - (k + (n - j))) (.int .i64 0)) := ⟨_, rfl⟩
  obtain ⟨hb2, hgr2⟩ := heap_setCells g 3 (List.replicate (n - (k + (n - j))) (.int .i64 0)) (0 + (k + (n - j))) W1 _ hb1
  rw [← hW2] at hb2 hgr2
  rw [Nat.zero_add, putL_eq _ _ _ (by simp [hlen]; omega)] at hb2
  have hoi : Hid (OI W2 base (.slice (some ⟨g, 0, none⟩) (k + (n - j)) cap) (xs.eraseIdx k)) := by
    have hel : (xs.eraseIdx k).length = k + (n - j) := by rw [List.length_eraseIdx_of_lt (by omega)]; omega
    refine OI.of_row (n := k + (n - j)) (l := ints (xs.eraseIdx k)) ⟨by simp [ints, hel], .inr ⟨g, cap, _, rfl, hb, hb2, by omega, by unfold maxLen; omega, ?_, ?_⟩⟩ rfl hel.symm (by omega)
    · simp [hlen]; omega
    · rw [Nat.mul_one, List.append_assoc, List.take_append_of_le_length (by simp [hlen]; omega), List.take_take, Nat.min_self, List.append_assoc, ← List.append_assoc,
        List.take_append_of_le_length (by simp [hlen]; omega), List.take_of_length_le (by simp [hlen]; omega), hnews, List.eraseIdx_eq_take_drop_succ, hj]
      have e : cur.toList.take k = (ints xs).take k := by rw [← htake, List.take_take, Nat.min_eq_left (by omega)]
      rw [e]
      simp [ints]
  have hgg := Lib.hid (grownBy_trans hgr1 hgr2)
  have hcl : Hid (∀ ty, (Builtin.clear_ #[23] ty #[.slice (some ⟨g, 0 + (k + (n - j)), none⟩) (n - (k + (n - j))) (cap - (k + (n - j)))]).run Try.prog W1 = .ok (.tuple #[]) W2) := by
    intro ty
    rw [hW2]
    refine Lib.run_clear_slice W1 _ _ ty _ u22 (fun _ => rfl) rfl rfl g (0 + (k + (n - j))) _ _ (by omega) (fun t ht => ?_) (fun t ht => ?_)
    · have hlt : 0 + (k + (n - j)) + t < (cur.toList.take k ++ news ++ cur.toList.drop (k + (n - j))).toArray.size := by simp only [List.size_toArray, hc1l]; omega
      simp only [World.cell?, hb1, Option.isSome_none, Bool.false_eq_true, if_false]
      rw [Array.getElem?_eq_getElem hlt]; rfl
    · simp [World.frozen?, hb1]
  have hW := Lib.hid hW1
  have hlt : k < j := by omega
  have hjn : j ≤ n := by omega
  have hic : k ≤ cap := by omega
  have hjc : j ≤ cap := by omega
  have hne : ¬ k = j := by omega
  have hcl2 := hcl.out
  simp only [Nat.zero_add] at hcl2
  clear hcl hb1 hgr1 hpl hc1l hW2 hb2 hgr2 hW1 hnews hlen hg hcs htake h hn hz0 hz2 hj hk
  go_enter Try.func38, Try.ntmps38
  go_wp2_with fail
  go_region_law (refine step_append_room rfl (.tmp 22) (.tmp 25) 23 rfl 3 i0 1 u22 hi hz1 g 0 k cap (by simp [Act.eval, Act.put]) A (n - j) (cap - j) news (by simp [Act.eval, Act.put]) s1.out hsrc.out s2.out (by omega) s3.out ?_; rw [← hW.out])
  go_wp2_with fail
  go_ret
  exact ⟨_, rfl, hoi.out, ⟨hgg.out.os, hgg.out.tape, hgg.out.output, hgg.out.size, hgg.out.block⟩, rfl⟩

/-- What a function value for a use does. -/
def UsedC (uf : FuncId) (used : List Int → Int → List Int) : Prop := ∀ (xs : List Int) (p : Int) (base : Nat) (v : Value) (w : World), p ∈ xs → OI w base v xs → base ≤ w.heap.size → xs.length ≤ 100 →
  Calls Try.prog uf #[v, .int .i64 (xs.idxOf p : Nat)] w fun e w' => ∃ v', e = .returned v' ∧ OI w' base v' (used xs p) ∧ Below base w w'
/-- What a function value for the place of the page that goes does, in worlds from w0 on. -/
def GoesC (gf : FuncId) (caps : Array Value) (goes : List Int → List Int → Nat) (xs : List Int) (w0 : World) : Prop := ∀ (held : List Int) (at_ : Nat) (v : Value) (w : World), held ≠ [] → at_ < xs.length → RI w v held → Below w0.heap.size w0 w →
  Calls Try.prog gf (#[v, .int .i64 at_] ++ caps) w fun e w' => e = .returned (.int .i64 (goes held (xs.drop at_) : Nat)) ∧ w = w'

set_option maxHeartbeats 1000000 in
set_option maxRecDepth 100000 in
theorem toEnd_c : UsedC 30 Xp.usedLast := by
  intro xs p base v w hp h hbs hl
  obtain ⟨k, hk⟩ : ∃ k, xs.idxOf p = k := ⟨_, rfl⟩
  have hkl : k < xs.length := hk ▸ List.idxOf_lt_length_iff.2 hp
  have hxk : xs[k] = p := by subst hk; exact List.getElem_idxOf _
  have hused : Xp.usedLast xs p = xs.eraseIdx k ++ [p] := by rw [Xp.usedLast, List.erase_eq_eraseIdx_of_idxOf hk]
  rw [hk, hused]
  obtain ⟨g, cap, rfl, hbg, hc, _⟩ := h.at hkl
  rw [hxk] at hc
  have hD := Lib.hid (Delete_c xs k hkl base _ w h)
  have hlt := Lib.hid (h.lt g rfl)
  have hkI : (k : Int) < (xs.length : Int) := by omega
  have hel : (xs.eraseIdx k).length ≤ 100 := by rw [List.length_eraseIdx_of_lt hkl]; omega
  have Hel := Lib.hid hel
  have Hxk := Lib.hid hxk
  clear h hused hk hp hel hxk
  go_enter Try.func30, Try.ntmps30
  go_wp2_with fail
  refine hD.out.mono ?_; rintro e w1 ⟨v1, rfl, ho, hg, hob⟩
  have O1 := Lib.hid ho; have G1 := Lib.hid hg; clear ho hg hob
  go_wp2_with (at_builtin; refine wpList_app rfl _ _ rfl base _ (xs.eraseIdx k) rfl (O1.out.alloc _) ⟨w1.heap.size, 0, none⟩ 1 1 [p] rfl rfl (cell_one_new _ _ _) (by have := Hel.out; simp; omega) (by have := G1.out.size; simp; omega) ?_; intro v' w3 ho3 hg3; have O3 := Lib.hid ho3; have G3 := Lib.hid hg3; clear ho3 hg3)
  go_ret
  have hb1 : Below base w w1 := grownBy_below G1.out hlt.out.1 hbs
  have hs1 := G1.out.size
  refine ⟨_, rfl, O3.out, ?_⟩
  exact Below.app (hb1.alloc (by omega) _) (O1.out.alloc _) G3.out (Nat.le_refl _) (by simp; omega)

theorem stay_c : UsedC 26 (fun h _ => h) := by
  intro xs p base v w _ h _ _
  go_enter Try.func26, Try.ntmps26
  go_wp2_with fail
  go_ret
  exact ⟨_, rfl, h, Below.refl _ _⟩

theorem first_c (xs : List Int) (w0 : World) : GoesC 27 #[] (fun _ _ => 0) xs w0 := by
  intro held at_ v w _ _ _ _
  go_enter Try.func27, Try.ntmps27
  go_wp2_with fail
  go_ret
  exact ⟨rfl, rfl⟩
end Go.Proofs.Ytdmjpikkgfedmaa
