/- Contracts: the impl's side: CacheValid. (printed by ki4.py) -/
import Derived.Test.YtfnpjdgjceiklaaGreatDoorKI3
namespace Go.Proofs.YtfnpjdgjceiklaaGreatDoor
open Go.RowKit

theorem RS.take {α : Type} {f : α → List Value} {sz : Nat} {w : World} {a : Option Addr} {n cap : Nat} {l : List α} (h : RS f sz w (.slice a n cap) l) (k : Nat) (hk : k ≤ n) : RS f sz w (.slice a k cap) (l.take k) := by
  obtain ⟨h1, h2⟩ := h
  rcases h2 with ⟨rfl, a', cap', e, hc, hn⟩ | ⟨b, off, cap', e, hlc, hcm, hb, hc⟩
  · simp only [Value.slice.injEq] at e
    obtain ⟨rfl, rfl, rfl⟩ := e
    obtain rfl : k = 0 := by omega
    exact ⟨by simp, .inl ⟨by simp, _, _, rfl, hc, hn⟩⟩
  · simp only [Value.slice.injEq] at e
    obtain ⟨rfl, rfl, rfl⟩ := e
    refine ⟨by simp; omega, .inr ⟨b, off, cap, by simp [Nat.min_eq_left hk], by simp; omega, hcm, hb, fun i hi j u hu => ?_⟩⟩
    have hi' : i < l.length := by simp at hi; omega
    exact hc i hi' j u (by simpa using hu)
theorem cfI_take {c : List Kx.Cached} {k q : Nat} (hk : k < c.length) (hqk : q ≤ k) (hq : Kx.cfind c (c.getD k Kx.Cached.zero).env (c.getD k Kx.Cached.zero).page = some q) :
    decide (0 ≤ cfI (c.take k) (c.getD k Kx.Cached.zero).env (c.getD k Kx.Cached.zero).page) = decide (q < k) := by
  have hg : ∀ j, j < k → (c.take k).getD j Kx.Cached.zero = c.getD j Kx.Cached.zero := fun j hj => by simp [List.getD, hj]
  have hl : (c.take k).length = k := by simp; omega
  unfold Kx.cfind at hq
  obtain ⟨hql, hp, hlt⟩ := List.findIdx?_eq_some_iff_getElem.1 hq
  have hG : ∀ j (hj : j < c.length), c[j] = c.getD j Kx.Cached.zero := fun j hj => by simp [hj]
  rw [hG q hql] at hp
  by_cases h : q < k
  · have := cfI_hit (c := c.take k) (e := (c.getD k Kx.Cached.zero).env) (p := (c.getD k Kx.Cached.zero).page) (k := q) (by omega) (by rw [hg q h]; simpa using hp) (fun j hj => by
      rw [hg j (by omega)]
      have := hlt j hj
      rw [hG j (by omega)] at this
      simpa using this)
    unfold cfI
    rw [this]; simp [h]
  · have : Kx.cfind (c.take k) (c.getD k Kx.Cached.zero).env (c.getD k Kx.Cached.zero).page = none := cfI_none (fun j hj => by
      rw [hl] at hj
      rw [hg j hj]
      have := hlt j (by omega)
      rw [hG j (by omega)] at this
      simpa using this)
    unfold cfI
    rw [this]; simp; omega

set_option maxHeartbeats 4000000 in
theorem implCacheValid_c (c : List Kx.Cached) (v : Value) (w : World) (h : RCached w v c) : Calls Tryz.prog 98 #[v] w fun en w' => en = .returned (.bool (Kx.cacheOk c)) ∧ Below w.heap.size w w' := by
  obtain ⟨a, cap, rfl, hcl, hcm⟩ := RS.val h
  have hl := h.1
  have H := Lib.hid h; clear h
  by_cases h4 : 4 < c.length
  · have HF := Lib.hid (show Kx.cacheOk c = false by rw [cacheOk_all, Bool.and_eq_false_iff]; right; simpa using h4)
    go_enter Tryz.func98, Tryz.ntmps98
    go_wp2_with fail
    go_ret
    exact ⟨ret_bool HF.out.symm, Below.refl _ _⟩
  have h4' : c.length ≤ 4 := by omega
  go_enter Tryz.func98, Tryz.ntmps98
  go_wp2_with fail
  go_loopw [10] (fun i wr => ∃ k : Nat, i = .int .i64 k ∧ k ≤ c.length ∧ Hid (∀ j, j < k → cOk c j = true) ∧ Hid (Below w.heap.size w wr)) (fun i _ => c.length - (intOf i).toNat)
  case atStart => exact ⟨0, rfl, Nat.zero_le _, fun j hj => absurd hj (Nat.not_lt_zero _), Below.refl _ _⟩
  case round =>
    obtain ⟨k, rfl, hk, hall, hb⟩ := hrel
    by_cases hlt : k < c.length
    · obtain ⟨b, off, cap', ev, hbb, h1, h2, h3, h4⟩ := RCached.at (RS.below H.out hb.out) hlt
      simp only [Value.slice.injEq] at ev
      obtain ⟨rfl, _, rfl⟩ := ev
      have hlI : (k : Int) < (c.length : Int) := by omega
      have hkc : k ≤ cap := by omega
      have Hc := Lib.hid (RS.below H.out hb.out)
      have HB := Lib.hid (show cOk c k = false → Kx.cacheOk c = false from fun h => by
        rw [cacheOk_all, Bool.and_eq_false_iff, List.all_eq_false]
        exact .inl ⟨k, by simpa using hlt, by rw [h]; simp⟩)
      have HN := Lib.hid (show cOk c k = true → ∀ j, j < k + 1 → cOk c j = true from fun h => scan_step hall.out h)
      obtain ⟨q, hqk, hq⟩ := cfind_self hlt
      have Hq := Lib.hid (cfI_take hlt hqk hq)
      have Hok := Lib.hid (show cOk c k = (Kx.cachedOk (c.getD k Kx.Cached.zero) && !decide (q < k)) by unfold cOk; rw [hq])
      clear hq
      generalize c.getD k Kx.Cached.zero = x at h1 h2 h3 h4 Hq Hok
      obtain ⟨W1, hW1⟩ : ∃ W1, wr.alloc (.cells #[.int .i64 x.env, .int .i64 x.page, .int .i64 x.frame, .bool x.write] 123) = W1 := ⟨_, rfl⟩
      have B1 := Lib.hid (show Below wr.heap.size wr W1 from hW1 ▸ Below.lit (Below.refl _ _) _)
      have Bx := Lib.hid (show Box4 W1 wr.heap.size (.int .i64 x.env) (.int .i64 x.page) (.int .i64 x.frame) (.bool x.write) from hW1 ▸ Box4.new wr _ _ _ _ 123)
      have B01 := Lib.hid (hb.out.trans (B1.out.mono hb.out.size))
      have Hc1 := Lib.hid (RS.below Hc.out B1.out)
      have Hcl := Lib.hid (show ∀ wz, Below W1.heap.size W1 wz → (wz.cell? ⟨wr.heap.size, 0, none⟩ = some (.int .i64 x.env) ∧ wz.cell? ⟨wr.heap.size, 1, none⟩ = some (.int .i64 x.page) ∧ wz.cell? ⟨wr.heap.size, 2, none⟩ = some (.int .i64 x.frame) ∧ wz.cell? ⟨wr.heap.size, 3, none⟩ = some (.bool x.write)) from fun wz hz => ⟨(hz.cell (p := ⟨wr.heap.size, 0, none⟩) Bx.out.2.2.2.2).trans Bx.out.1, (hz.cell (p := ⟨wr.heap.size, 1, none⟩) Bx.out.2.2.2.2).trans Bx.out.2.1, (hz.cell (p := ⟨wr.heap.size, 2, none⟩) Bx.out.2.2.2.2).trans Bx.out.2.2.1, (hz.cell (p := ⟨wr.heap.size, 3, none⟩) Bx.out.2.2.2.2).trans Bx.out.2.2.2.1⟩)
      have S1 := Hcl.out W1 (Below.refl _ _)
      cases hx : Kx.cachedOk x with
      | false =>
        have HF := Lib.hid (HB.out (by rw [Hok.out, hx]; rfl))
        have Hx := Lib.hid hx
        clear hx HB HN Hok Hq
        go_wp2_with fail
        clear h1 h2 h3 h4 hW1
        refine wp_region_held_drew (S := (fun wz => wz.cell? ⟨wr.heap.size, 0, none⟩ = some (.int .i64 x.env) ∧ wz.cell? ⟨wr.heap.size, 1, none⟩ = some (.int .i64 x.page) ∧ wz.cell? ⟨wr.heap.size, 2, none⟩ = some (.int .i64 x.frame) ∧ wz.cell? ⟨wr.heap.size, 3, none⟩ = some (.bool x.write))) (by kernel_rfl) (by first | assumption | go_keep) (fun hHeld => ?_)
        refine wpAnyH_take (i := 0) (v := ?_) rfl (by kernel_rfl) (by kernel_rfl) (by kernel_rfl) (fun _ _ _ h => h) (Or.inl ⟨by rfl, ?_⟩) (by assumption) ?_
        rotate_left
        · intro w hSw; (try dsimp only at hSw); go_simp; try with_reducible rfl
        try simp only [Act.put, List.getElem_toArray, List.getElem_cons_zero, List.setIfInBounds_toArray, List.set_cons_zero, List.set_cons_succ]
        refine wpAnyH_ready (rs := [1]) (by kernel_rfl) (by simp) ?_
        refine AllReadyH.cons rfl (fun K hK => ?_) AllReadyH.nil
        (rw [if_pos (by rfl)]; go_simp; go_at_call 150; refine (isCached_c x _).mono ?_; rintro e w2 ⟨rfl, hb2⟩; rw [Hx.out]; have hb3 := Below.undrew hb2; have hc3 := Hcl.out w2 hb3; go_wp2_with fail)
        refine hK.out _ _ ?_ (fun hHeld => ?_)
        · first | assumption | go_keep
        clear hK K
        try simp only [Act.put, List.getElem_toArray, List.getElem_cons_zero, List.getElem_cons_succ, List.setIfInBounds_toArray, List.set_cons_zero, List.set_cons_succ]
        refine wpAnyH_take (i := 2) (v := ?_) rfl (by kernel_rfl) (by kernel_rfl) (by kernel_rfl) (fun _ _ _ h => h) (Or.inl ⟨by rfl, ?_⟩) (by assumption) ?_
        rotate_left
        · intro w hSw; (try dsimp only at hSw); go_simp; try with_reducible rfl
        try simp only [Act.put, List.getElem_toArray, List.getElem_cons_zero, List.getElem_cons_succ, List.setIfInBounds_toArray, List.set_cons_zero, List.set_cons_succ]
        refine wpAnyH_take (i := 3) (v := ?_) rfl (by kernel_rfl) (by kernel_rfl) (by kernel_rfl) (fun _ _ _ h => h) (Or.inl ⟨by rfl, ?_⟩) (by assumption) ?_
        rotate_left
        · intro w hSw; (try dsimp only at hSw); go_simp; try with_reducible rfl
        try simp only [Act.put, List.getElem_toArray, List.getElem_cons_zero, List.getElem_cons_succ, List.setIfInBounds_toArray, List.set_cons_zero, List.set_cons_succ]
        refine wpAnyH_take (i := 4) (v := undef) rfl (by kernel_rfl) (by kernel_rfl) (by kernel_rfl) (fun _ _ _ h => h) (Or.inr ⟨by rfl, rfl⟩) (by assumption) ?_
        try simp only [Act.put, List.getElem_toArray, List.getElem_cons_zero, List.getElem_cons_succ, List.setIfInBounds_toArray, List.set_cons_zero, List.set_cons_succ]
        refine wpAnyH_take (i := 5) (v := undef) rfl (by kernel_rfl) (by kernel_rfl) (by kernel_rfl) (fun _ _ _ h => h) (Or.inr ⟨by rfl, rfl⟩) (by assumption) ?_
        try simp only [Act.put, List.getElem_toArray, List.getElem_cons_zero, List.getElem_cons_succ, List.setIfInBounds_toArray, List.set_cons_zero, List.set_cons_succ]
        refine wpAnyH_take (i := 6) (v := undef) rfl (by kernel_rfl) (by kernel_rfl) (by kernel_rfl) (fun _ _ _ h => h) (Or.inr ⟨by rfl, rfl⟩) (by assumption) ?_
        try simp only [Act.put, List.getElem_toArray, List.getElem_cons_zero, List.getElem_cons_succ, List.setIfInBounds_toArray, List.set_cons_zero, List.set_cons_succ]
        refine wpAnyH_take (i := 7) (v := undef) rfl (by kernel_rfl) (by kernel_rfl) (by kernel_rfl) (fun _ _ _ h => h) (Or.inr ⟨by rfl, rfl⟩) (by assumption) ?_
        try simp only [Act.put, List.getElem_toArray, List.getElem_cons_zero, List.getElem_cons_succ, List.setIfInBounds_toArray, List.set_cons_zero, List.set_cons_succ]
        refine wpAnyH_take (i := 8) (v := undef) rfl (by kernel_rfl) (by kernel_rfl) (by kernel_rfl) (fun _ _ _ h => h) (Or.inr ⟨by rfl, rfl⟩) (by assumption) ?_
        try simp only [Act.put, List.getElem_toArray, List.getElem_cons_zero, List.getElem_cons_succ, List.setIfInBounds_toArray, List.set_cons_zero, List.set_cons_succ]
        refine wpAnyH_take (i := 9) (v := undef) rfl (by kernel_rfl) (by kernel_rfl) (by kernel_rfl) (fun _ _ _ h => h) (Or.inr ⟨by rfl, rfl⟩) (by assumption) ?_
        try simp only [Act.put, List.getElem_toArray, List.getElem_cons_zero, List.getElem_cons_succ, List.setIfInBounds_toArray, List.set_cons_zero, List.set_cons_succ]
        refine wpAnyH_take (i := 10) (v := undef) rfl (by kernel_rfl) (by kernel_rfl) (by kernel_rfl) (fun _ _ _ h => h) (Or.inr ⟨by rfl, rfl⟩) (by assumption) ?_
        try simp only [Act.put, List.getElem_toArray, List.getElem_cons_zero, List.getElem_cons_succ, List.setIfInBounds_toArray, List.set_cons_zero, List.set_cons_succ]
        refine wpAnyH_take (i := 11) (v := undef) rfl (by kernel_rfl) (by kernel_rfl) (by kernel_rfl) (fun _ _ _ h => h) (Or.inr ⟨by rfl, rfl⟩) (by assumption) ?_
        try simp only [Act.put, List.getElem_toArray, List.getElem_cons_zero, List.getElem_cons_succ, List.setIfInBounds_toArray, List.set_cons_zero, List.set_cons_succ]
        refine wpAnyH_take (i := 12) (v := undef) rfl (by kernel_rfl) (by kernel_rfl) (by kernel_rfl) (fun _ _ _ h => h) (Or.inr ⟨by rfl, rfl⟩) (by assumption) ?_
        try simp only [Act.put, List.getElem_toArray, List.getElem_cons_zero, List.getElem_cons_succ, List.setIfInBounds_toArray, List.set_cons_zero, List.set_cons_succ]
        refine wpAnyH_take (i := 13) (v := ?_) rfl (by kernel_rfl) (by kernel_rfl) (by kernel_rfl) (fun _ _ _ h => h) (Or.inl ⟨by rfl, ?_⟩) (by assumption) ?_
        rotate_left
        · intro w hSw; (try dsimp only at hSw); go_simp; try with_reducible rfl
        try simp only [Act.put, List.getElem_toArray, List.getElem_cons_zero, List.getElem_cons_succ, List.setIfInBounds_toArray, List.set_cons_zero, List.set_cons_succ]
        refine wpAnyH_done (by kernel_rfl) ?_ _
        have Hb9 := Lib.hid (B01.out.trans (hb3.mono B01.out.size))
        clear S1
        go_wp2_with fail
        go_ret
        exact ⟨ret_bool HF.out.symm, Hb9.out⟩
      | true =>
        by_cases hqk2 : q < k
        · have HF := Lib.hid (HB.out (by rw [Hok.out, hx]; simp [hqk2]))
          have Hx := Lib.hid hx
          rw [show decide (q < k) = true from by simpa using hqk2] at Hq
          have hq2 := Hq.out
          clear hx HB HN Hok hqk hqk2 Hq
          go_wp2_with fail
          clear h1 h2 h3 h4 hW1
          refine wp_region_held_drew (S := (fun wz => wz.cell? ⟨wr.heap.size, 0, none⟩ = some (.int .i64 x.env) ∧ wz.cell? ⟨wr.heap.size, 1, none⟩ = some (.int .i64 x.page) ∧ wz.cell? ⟨wr.heap.size, 2, none⟩ = some (.int .i64 x.frame) ∧ wz.cell? ⟨wr.heap.size, 3, none⟩ = some (.bool x.write))) (by kernel_rfl) (by first | assumption | go_keep) (fun hHeld => ?_)
          refine wpAnyH_take (i := 0) (v := ?_) rfl (by kernel_rfl) (by kernel_rfl) (by kernel_rfl) (fun _ _ _ h => h) (Or.inl ⟨by rfl, ?_⟩) (by assumption) ?_
          rotate_left
          · intro w hSw; (try dsimp only at hSw); go_simp; try with_reducible rfl
          try simp only [Act.put, List.getElem_toArray, List.getElem_cons_zero, List.setIfInBounds_toArray, List.set_cons_zero, List.set_cons_succ]
          refine wpAnyH_ready (rs := [1]) (by kernel_rfl) (by simp) ?_
          refine AllReadyH.cons rfl (fun K hK => ?_) AllReadyH.nil
          (rw [if_pos (by rfl)]; go_simp; go_at_call 150; refine (isCached_c x _).mono ?_; rintro e w2 ⟨rfl, hb2⟩; rw [Hx.out]; have hb3 := Below.undrew hb2; have hc3 := Hcl.out w2 hb3; go_wp2_with fail)
          refine hK.out _ _ ?_ (fun hHeld => ?_)
          · first | assumption | go_keep
          clear hK K
          try simp only [Act.put, List.getElem_toArray, List.getElem_cons_zero, List.getElem_cons_succ, List.setIfInBounds_toArray, List.set_cons_zero, List.set_cons_succ]
          refine wpAnyH_take (i := 2) (v := ?_) rfl (by kernel_rfl) (by kernel_rfl) (by kernel_rfl) (fun _ _ _ h => h) (Or.inl ⟨by rfl, ?_⟩) (by assumption) ?_
          rotate_left
          · intro w hSw; (try dsimp only at hSw); go_simp; try with_reducible rfl
          try simp only [Act.put, List.getElem_toArray, List.getElem_cons_zero, List.getElem_cons_succ, List.setIfInBounds_toArray, List.set_cons_zero, List.set_cons_succ]
          refine wpAnyH_take (i := 3) (v := ?_) rfl (by kernel_rfl) (by kernel_rfl) (by kernel_rfl) (fun _ _ _ h => h) (Or.inl ⟨by rfl, ?_⟩) (by assumption) ?_
          rotate_left
          · intro w hSw; (try dsimp only at hSw); go_simp; try with_reducible rfl
          try simp only [Act.put, List.getElem_toArray, List.getElem_cons_zero, List.getElem_cons_succ, List.setIfInBounds_toArray, List.set_cons_zero, List.set_cons_succ]
          refine wpAnyH_take (i := 4) (v := ?_) rfl (by kernel_rfl) (by kernel_rfl) (by kernel_rfl) (fun _ _ _ h => h) (Or.inl ⟨by rfl, ?_⟩) (by assumption) ?_
          rotate_left
          · intro w hSw; (try dsimp only at hSw); go_simp; try with_reducible rfl
          try simp only [Act.put, List.getElem_toArray, List.getElem_cons_zero, List.getElem_cons_succ, List.setIfInBounds_toArray, List.set_cons_zero, List.set_cons_succ]
          refine wpAnyH_take (i := 5) (v := ?_) rfl (by kernel_rfl) (by kernel_rfl) (by kernel_rfl) (fun _ _ _ h => h) (Or.inl ⟨by rfl, ?_⟩) (by assumption) ?_
          rotate_left
          · intro w hSw; (try dsimp only at hSw); go_simp; try with_reducible rfl
          try simp only [Act.put, List.getElem_toArray, List.getElem_cons_zero, List.getElem_cons_succ, List.setIfInBounds_toArray, List.set_cons_zero, List.set_cons_succ]
          refine wpAnyH_take (i := 6) (v := ?_) rfl (by kernel_rfl) (by kernel_rfl) (by kernel_rfl) (fun _ _ _ h => h) (Or.inl ⟨by rfl, ?_⟩) (by assumption) ?_
          rotate_left
          · intro w hSw; (try dsimp only at hSw); go_simp; try with_reducible rfl
          try simp only [Act.put, List.getElem_toArray, List.getElem_cons_zero, List.getElem_cons_succ, List.setIfInBounds_toArray, List.set_cons_zero, List.set_cons_succ]
          refine wpAnyH_take (i := 7) (v := ?_) rfl (by kernel_rfl) (by kernel_rfl) (by kernel_rfl) (fun _ _ _ h => h) (Or.inl ⟨by rfl, ?_⟩) (by assumption) ?_
          rotate_left
          · intro w hSw; (try dsimp only at hSw); go_simp; try with_reducible rfl
          try simp only [Act.put, List.getElem_toArray, List.getElem_cons_zero, List.getElem_cons_succ, List.setIfInBounds_toArray, List.set_cons_zero, List.set_cons_succ]
          refine wpAnyH_take (i := 8) (v := ?_) rfl (by kernel_rfl) (by kernel_rfl) (by kernel_rfl) (fun _ _ _ h => h) (Or.inl ⟨by rfl, ?_⟩) (by assumption) ?_
          rotate_left
          · intro w hSw; (try dsimp only at hSw); go_simp; try with_reducible rfl
          try simp only [Act.put, List.getElem_toArray, List.getElem_cons_zero, List.getElem_cons_succ, List.setIfInBounds_toArray, List.set_cons_zero, List.set_cons_succ]
          refine wpAnyH_take (i := 9) (v := ?_) rfl (by kernel_rfl) (by kernel_rfl) (by kernel_rfl) (fun _ _ _ h => h) (Or.inl ⟨by rfl, ?_⟩) (by assumption) ?_
          rotate_left
          · intro w hSw; (try dsimp only at hSw); go_simp; try with_reducible rfl
          try simp only [Act.put, List.getElem_toArray, List.getElem_cons_zero, List.getElem_cons_succ, List.setIfInBounds_toArray, List.set_cons_zero, List.set_cons_succ]
          refine wpAnyH_take (i := 10) (v := ?_) rfl (by kernel_rfl) (by kernel_rfl) (by kernel_rfl) (fun _ _ _ h => h) (Or.inl ⟨by rfl, ?_⟩) (by assumption) ?_
          rotate_left
          · intro w hSw; (try dsimp only at hSw); go_simp; try with_reducible rfl
          try simp only [Act.put, List.getElem_toArray, List.getElem_cons_zero, List.getElem_cons_succ, List.setIfInBounds_toArray, List.set_cons_zero, List.set_cons_succ]
          refine wpAnyH_ready (rs := [11]) (by kernel_rfl) (by simp) ?_
          refine AllReadyH.cons rfl (fun K hK => ?_) AllReadyH.nil
          (rw [if_pos (by rfl)]; go_simp; go_at_call 151; refine (cached_c (c.take k) x.env x.page _ _ (RS.take (RS.below Hc1.out hb3) k (by omega))).mono ?_; rintro e w4 ⟨rfl, hb4⟩; have hb5 := hb3.trans (hb4.mono hb3.size); have hc5 := Hcl.out w4 hb5; go_wp2_with fail)
          refine hK.out _ _ ?_ (fun hHeld => ?_)
          · first | assumption | go_keep
          clear hK K
          try simp only [Act.put, List.getElem_toArray, List.getElem_cons_zero, List.getElem_cons_succ, List.setIfInBounds_toArray, List.set_cons_zero, List.set_cons_succ]
          refine wpAnyH_take (i := 12) (v := ?_) rfl (by kernel_rfl) (by kernel_rfl) (by kernel_rfl) (fun _ _ _ h => h) (Or.inl ⟨by rfl, ?_⟩) (by assumption) ?_
          rotate_left
          · intro w hSw; (try dsimp only at hSw); go_simp; try with_reducible rfl
          try simp only [Act.put, List.getElem_toArray, List.getElem_cons_zero, List.getElem_cons_succ, List.setIfInBounds_toArray, List.set_cons_zero, List.set_cons_succ]
          refine wpAnyH_take (i := 13) (v := ?_) rfl (by kernel_rfl) (by kernel_rfl) (by kernel_rfl) (fun _ _ _ h => h) (Or.inl ⟨by rfl, ?_⟩) (by assumption) ?_
          rotate_left
          · intro w hSw; (try dsimp only at hSw); go_simp; try with_reducible rfl
          try simp only [Act.put, List.getElem_toArray, List.getElem_cons_zero, List.getElem_cons_succ, List.setIfInBounds_toArray, List.set_cons_zero, List.set_cons_succ]
          refine wpAnyH_done (by kernel_rfl) ?_ _
          have Hb9 := Lib.hid (B01.out.trans (hb5.mono B01.out.size))
          clear S1
          go_wp2_with fail
          go_ret
          exact ⟨ret_bool HF.out.symm, Hb9.out⟩
        · have HN2 := Lib.hid (HN.out (by rw [Hok.out, hx]; simp; omega))
          have Hx := Lib.hid hx
          rw [show decide (q < k) = false from by simpa using hqk2] at Hq
          have hq2 := Hq.out
          clear hx HB HN Hok hqk hqk2 Hq
          go_wp2_with fail
          clear h1 h2 h3 h4 hW1
          refine wp_region_held_drew (S := (fun wz => wz.cell? ⟨wr.heap.size, 0, none⟩ = some (.int .i64 x.env) ∧ wz.cell? ⟨wr.heap.size, 1, none⟩ = some (.int .i64 x.page) ∧ wz.cell? ⟨wr.heap.size, 2, none⟩ = some (.int .i64 x.frame) ∧ wz.cell? ⟨wr.heap.size, 3, none⟩ = some (.bool x.write))) (by kernel_rfl) (by first | assumption | go_keep) (fun hHeld => ?_)
          refine wpAnyH_take (i := 0) (v := ?_) rfl (by kernel_rfl) (by kernel_rfl) (by kernel_rfl) (fun _ _ _ h => h) (Or.inl ⟨by rfl, ?_⟩) (by assumption) ?_
          rotate_left
          · intro w hSw; (try dsimp only at hSw); go_simp; try with_reducible rfl
          try simp only [Act.put, List.getElem_toArray, List.getElem_cons_zero, List.setIfInBounds_toArray, List.set_cons_zero, List.set_cons_succ]
          refine wpAnyH_ready (rs := [1]) (by kernel_rfl) (by simp) ?_
          refine AllReadyH.cons rfl (fun K hK => ?_) AllReadyH.nil
          (rw [if_pos (by rfl)]; go_simp; go_at_call 150; refine (isCached_c x _).mono ?_; rintro e w2 ⟨rfl, hb2⟩; rw [Hx.out]; have hb3 := Below.undrew hb2; have hc3 := Hcl.out w2 hb3; go_wp2_with fail)
          refine hK.out _ _ ?_ (fun hHeld => ?_)
          · first | assumption | go_keep
          clear hK K
          try simp only [Act.put, List.getElem_toArray, List.getElem_cons_zero, List.getElem_cons_succ, List.setIfInBounds_toArray, List.set_cons_zero, List.set_cons_succ]
          refine wpAnyH_take (i := 2) (v := ?_) rfl (by kernel_rfl) (by kernel_rfl) (by kernel_rfl) (fun _ _ _ h => h) (Or.inl ⟨by rfl, ?_⟩) (by assumption) ?_
          rotate_left
          · intro w hSw; (try dsimp only at hSw); go_simp; try with_reducible rfl
          try simp only [Act.put, List.getElem_toArray, List.getElem_cons_zero, List.getElem_cons_succ, List.setIfInBounds_toArray, List.set_cons_zero, List.set_cons_succ]
          refine wpAnyH_take (i := 3) (v := ?_) rfl (by kernel_rfl) (by kernel_rfl) (by kernel_rfl) (fun _ _ _ h => h) (Or.inl ⟨by rfl, ?_⟩) (by assumption) ?_
          rotate_left
          · intro w hSw; (try dsimp only at hSw); go_simp; try with_reducible rfl
          try simp only [Act.put, List.getElem_toArray, List.getElem_cons_zero, List.getElem_cons_succ, List.setIfInBounds_toArray, List.set_cons_zero, List.set_cons_succ]
          refine wpAnyH_take (i := 4) (v := ?_) rfl (by kernel_rfl) (by kernel_rfl) (by kernel_rfl) (fun _ _ _ h => h) (Or.inl ⟨by rfl, ?_⟩) (by assumption) ?_
          rotate_left
          · intro w hSw; (try dsimp only at hSw); go_simp; try with_reducible rfl
          try simp only [Act.put, List.getElem_toArray, List.getElem_cons_zero, List.getElem_cons_succ, List.setIfInBounds_toArray, List.set_cons_zero, List.set_cons_succ]
          refine wpAnyH_take (i := 5) (v := ?_) rfl (by kernel_rfl) (by kernel_rfl) (by kernel_rfl) (fun _ _ _ h => h) (Or.inl ⟨by rfl, ?_⟩) (by assumption) ?_
          rotate_left
          · intro w hSw; (try dsimp only at hSw); go_simp; try with_reducible rfl
          try simp only [Act.put, List.getElem_toArray, List.getElem_cons_zero, List.getElem_cons_succ, List.setIfInBounds_toArray, List.set_cons_zero, List.set_cons_succ]
          refine wpAnyH_take (i := 6) (v := ?_) rfl (by kernel_rfl) (by kernel_rfl) (by kernel_rfl) (fun _ _ _ h => h) (Or.inl ⟨by rfl, ?_⟩) (by assumption) ?_
          rotate_left
          · intro w hSw; (try dsimp only at hSw); go_simp; try with_reducible rfl
          try simp only [Act.put, List.getElem_toArray, List.getElem_cons_zero, List.getElem_cons_succ, List.setIfInBounds_toArray, List.set_cons_zero, List.set_cons_succ]
          refine wpAnyH_take (i := 7) (v := ?_) rfl (by kernel_rfl) (by kernel_rfl) (by kernel_rfl) (fun _ _ _ h => h) (Or.inl ⟨by rfl, ?_⟩) (by assumption) ?_
          rotate_left
          · intro w hSw; (try dsimp only at hSw); go_simp; try with_reducible rfl
          try simp only [Act.put, List.getElem_toArray, List.getElem_cons_zero, List.getElem_cons_succ, List.setIfInBounds_toArray, List.set_cons_zero, List.set_cons_succ]
          refine wpAnyH_take (i := 8) (v := ?_) rfl (by kernel_rfl) (by kernel_rfl) (by kernel_rfl) (fun _ _ _ h => h) (Or.inl ⟨by rfl, ?_⟩) (by assumption) ?_
          rotate_left
          · intro w hSw; (try dsimp only at hSw); go_simp; try with_reducible rfl
          try simp only [Act.put, List.getElem_toArray, List.getElem_cons_zero, List.getElem_cons_succ, List.setIfInBounds_toArray, List.set_cons_zero, List.set_cons_succ]
          refine wpAnyH_take (i := 9) (v := ?_) rfl (by kernel_rfl) (by kernel_rfl) (by kernel_rfl) (fun _ _ _ h => h) (Or.inl ⟨by rfl, ?_⟩) (by assumption) ?_
          rotate_left
          · intro w hSw; (try dsimp only at hSw); go_simp; try with_reducible rfl
          try simp only [Act.put, List.getElem_toArray, List.getElem_cons_zero, List.getElem_cons_succ, List.setIfInBounds_toArray, List.set_cons_zero, List.set_cons_succ]
          refine wpAnyH_take (i := 10) (v := ?_) rfl (by kernel_rfl) (by kernel_rfl) (by kernel_rfl) (fun _ _ _ h => h) (Or.inl ⟨by rfl, ?_⟩) (by assumption) ?_
          rotate_left
          · intro w hSw; (try dsimp only at hSw); go_simp; try with_reducible rfl
          try simp only [Act.put, List.getElem_toArray, List.getElem_cons_zero, List.getElem_cons_succ, List.setIfInBounds_toArray, List.set_cons_zero, List.set_cons_succ]
          refine wpAnyH_ready (rs := [11]) (by kernel_rfl) (by simp) ?_
          refine AllReadyH.cons rfl (fun K hK => ?_) AllReadyH.nil
          (rw [if_pos (by rfl)]; go_simp; go_at_call 151; refine (cached_c (c.take k) x.env x.page _ _ (RS.take (RS.below Hc1.out hb3) k (by omega))).mono ?_; rintro e w4 ⟨rfl, hb4⟩; have hb5 := hb3.trans (hb4.mono hb3.size); have hc5 := Hcl.out w4 hb5; go_wp2_with fail)
          refine hK.out _ _ ?_ (fun hHeld => ?_)
          · first | assumption | go_keep
          clear hK K
          try simp only [Act.put, List.getElem_toArray, List.getElem_cons_zero, List.getElem_cons_succ, List.setIfInBounds_toArray, List.set_cons_zero, List.set_cons_succ]
          refine wpAnyH_take (i := 12) (v := ?_) rfl (by kernel_rfl) (by kernel_rfl) (by kernel_rfl) (fun _ _ _ h => h) (Or.inl ⟨by rfl, ?_⟩) (by assumption) ?_
          rotate_left
          · intro w hSw; (try dsimp only at hSw); go_simp; try with_reducible rfl
          try simp only [Act.put, List.getElem_toArray, List.getElem_cons_zero, List.getElem_cons_succ, List.setIfInBounds_toArray, List.set_cons_zero, List.set_cons_succ]
          refine wpAnyH_take (i := 13) (v := ?_) rfl (by kernel_rfl) (by kernel_rfl) (by kernel_rfl) (fun _ _ _ h => h) (Or.inl ⟨by rfl, ?_⟩) (by assumption) ?_
          rotate_left
          · intro w hSw; (try dsimp only at hSw); go_simp; try with_reducible rfl
          try simp only [Act.put, List.getElem_toArray, List.getElem_cons_zero, List.getElem_cons_succ, List.setIfInBounds_toArray, List.set_cons_zero, List.set_cons_succ]
          refine wpAnyH_done (by kernel_rfl) ?_ _
          have Hb9 := Lib.hid (B01.out.trans (hb5.mono B01.out.size))
          clear S1
          go_wp2_with fail
          go_roundw
          case rel => exact ⟨k + 1, by go_num, by omega, HN2.out, Hb9.out⟩
          case measure => simp [intOf]; omega
    · have HF := Lib.hid (show Kx.cacheOk c = true by
        rw [cacheOk_all, Bool.and_eq_true, List.all_eq_true]
        exact ⟨fun j hj => hall.out j (by have : j < c.length := by simpa using hj
                                          omega), by simpa using h4'⟩)
      go_wp2_with fail
      go_ret
      exact ⟨ret_bool HF.out.symm, hb.out⟩
end Go.Proofs.YtfnpjdgjceiklaaGreatDoor
