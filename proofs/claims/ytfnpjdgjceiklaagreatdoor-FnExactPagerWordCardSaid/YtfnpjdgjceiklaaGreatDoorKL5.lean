/- Contracts: the laws' comparisons, where both sides hold the same. (printed by kl5.py) -/
import Derived.Test.YtfnpjdgjceiklaaGreatDoorKL4
namespace Go.Proofs.YtfnpjdgjceiklaaGreatDoor
open Go.RowKit

/-- the call says yes -/
def Yes (w : World) (e : Ending) (w' : World) : Prop := e = .returned (.bool true) ∧ Below w.heap.size w w'
set_option maxHeartbeats 1000000 in
theorem eqInfo_c (x : Kx.Info) (w : World) : Calls Tryz.prog 129 #[infoV x, infoV x] w (Yes w) := by
  have Hb := Lib.hid (show ∀ a b, Below w.heap.size w ((w.alloc (.cells a 111)).alloc (.cells b 111)) from fun a b => ((Below.refl w.heap.size w).alloc (Nat.le_refl _) _).alloc (by simp) _)
  unfold infoV
  go_enter Tryz.func129, Tryz.ntmps129
  go_wp2_with fail
  go_ret
  exact ⟨rfl, Hb.out _ _⟩
set_option maxHeartbeats 1000000 in
theorem eqCached_c (x : Kx.Cached) (w : World) : Calls Tryz.prog 131 #[cachedV x, cachedV x] w (Yes w) := by
  have Hb := Lib.hid (show ∀ a b, Below w.heap.size w ((w.alloc (.cells a 123)).alloc (.cells b 123)) from fun a b => ((Below.refl w.heap.size w).alloc (Nat.le_refl _) _).alloc (by simp) _)
  unfold cachedV
  go_enter Tryz.func131, Tryz.ntmps131
  go_wp2_with fail
  go_ret
  exact ⟨rfl, Hb.out _ _⟩
set_option maxHeartbeats 1000000 in
theorem eqPage_c (x : Kx.Page) (w : World) : Calls Tryz.prog 116 #[pageV x, pageV x] w (Yes w) := by
  have Hb := Lib.hid (show ∀ a b, Below w.heap.size w ((w.alloc (.cells a 90)).alloc (.cells b 90)) from fun a b => ((Below.refl w.heap.size w).alloc (Nat.le_refl _) _).alloc (by simp) _)
  unfold pageV
  go_enter Tryz.func116, Tryz.ntmps116
  go_wp2_with fail
  go_ret
  exact ⟨rfl, Hb.out _ _⟩
set_option maxHeartbeats 4000000 in
theorem eqInfoS_c (l : List Kx.Info) (v u : Value) (w : World) (h1 : RS infoC 3 w v l) (h2 : RS infoC 3 w u l) : Calls Tryz.prog 69 #[v, u] w (Yes w) := by
  have hl := h1.1
  obtain ⟨a, cap, rfl, _, _⟩ := RS.val h1
  obtain ⟨a', cap', rfl, _, _⟩ := RS.val h2
  have H1 := Lib.hid h1; have H2 := Lib.hid h2
  clear h1 h2
  go_enter Tryz.func69, Tryz.ntmps69
  go_wp2_with fail
  go_loopw [5] (fun i wr => ∃ k : Nat, i = .int .i64 k ∧ k ≤ l.length ∧ Hid (Below w.heap.size w wr)) (fun i _ => l.length - (intOf i).toNat)
  case atStart => exact ⟨0, rfl, Nat.zero_le _, Below.refl _ _⟩
  case round =>
    obtain ⟨k, rfl, hk, hb⟩ := hrel
    by_cases hlt : k < l.length
    · have hlI : (k : Int) < (l.length : Int) := by omega
      obtain ⟨b, off, cap1, e, hbl, hc⟩ := H1.out.at (k := k) hlt
      simp only [Value.slice.injEq] at e
      obtain ⟨rfl, _, rfl⟩ := e
      obtain ⟨b', off', cap1, e, hbl', hc'⟩ := H2.out.at (k := k) hlt
      simp only [Value.slice.injEq] at e
      obtain ⟨rfl, _, rfl⟩ := e
      generalize l[k] = x at hc hc'
      have g0 := hc 0 _ rfl
      have q0 := hc' 0 _ rfl
      have g1 := hc 1 _ rfl
      have q1 := hc' 1 _ rfl
      have g2 := hc 2 _ rfl
      have q2 := hc' 2 _ rfl
      rw [Nat.add_zero] at g0 q0
      clear hc hc'
      have Hcl := Lib.hid (show ∀ wz, Below w.heap.size w wz → (wz.cell? ⟨b, off + k * 3, none⟩ = some (.int .i64 x.kind) ∧ wz.cell? ⟨b, off + k * 3 + 1, none⟩ = some (.string x.guard) ∧ wz.cell? ⟨b, off + k * 3 + 2, none⟩ = some (.int .i64 x.refs) ∧ wz.cell? ⟨b', off' + k * 3, none⟩ = some (.int .i64 x.kind) ∧ wz.cell? ⟨b', off' + k * 3 + 1, none⟩ = some (.string x.guard) ∧ wz.cell? ⟨b', off' + k * 3 + 2, none⟩ = some (.int .i64 x.refs)) from fun wz hz => ⟨(hz.cell (p := ⟨b, off + k * 3, none⟩) hbl).trans g0, (hz.cell (p := ⟨b, off + k * 3 + 1, none⟩) hbl).trans g1, (hz.cell (p := ⟨b, off + k * 3 + 2, none⟩) hbl).trans g2, (hz.cell (p := ⟨b', off' + k * 3, none⟩) hbl').trans q0, (hz.cell (p := ⟨b', off' + k * 3 + 1, none⟩) hbl').trans q1, (hz.cell (p := ⟨b', off' + k * 3 + 2, none⟩) hbl').trans q2⟩)
      clear g0 q0 g1 q1 g2 q2 hbl hbl'
      have S1 := Hcl.out wr hb.out
      go_wp2_with fail
      refine wp_region_held_drew (S := (fun wz => wz.cell? ⟨b, off + k * 3, none⟩ = some (.int .i64 x.kind) ∧ wz.cell? ⟨b, off + k * 3 + 1, none⟩ = some (.string x.guard) ∧ wz.cell? ⟨b, off + k * 3 + 2, none⟩ = some (.int .i64 x.refs) ∧ wz.cell? ⟨b', off' + k * 3, none⟩ = some (.int .i64 x.kind) ∧ wz.cell? ⟨b', off' + k * 3 + 1, none⟩ = some (.string x.guard) ∧ wz.cell? ⟨b', off' + k * 3 + 2, none⟩ = some (.int .i64 x.refs))) (by kernel_rfl) (by first | assumption | go_keep) (fun hHeld => ?_)
      refine wpAnyH_take (i := 0) (v := ?_) rfl (by kernel_rfl) (by kernel_rfl) (by kernel_rfl) (fun _ _ _ h => h) (Or.inl ⟨by rfl, ?_⟩) (by assumption) ?_
      rotate_left
      · intro w hSw; (try dsimp only at hSw); go_simp; try with_reducible rfl
      try simp only [Act.put, List.getElem_toArray, List.getElem_cons_zero, List.setIfInBounds_toArray, List.set_cons_zero, List.set_cons_succ]
      refine wpAnyH_take (i := 1) (v := ?_) rfl (by kernel_rfl) (by kernel_rfl) (by kernel_rfl) (fun _ _ _ h => h) (Or.inl ⟨by rfl, ?_⟩) (by assumption) ?_
      rotate_left
      · intro w hSw; (try dsimp only at hSw); go_simp; try with_reducible rfl
      try simp only [Act.put, List.getElem_toArray, List.getElem_cons_zero, List.getElem_cons_succ, List.setIfInBounds_toArray, List.set_cons_zero, List.set_cons_succ]
      refine wpAnyH_take (i := 2) (v := ?_) rfl (by kernel_rfl) (by kernel_rfl) (by kernel_rfl) (fun _ _ _ h => h) (Or.inl ⟨by rfl, ?_⟩) (by assumption) ?_
      rotate_left
      · intro w hSw; (try dsimp only at hSw); go_simp; try with_reducible rfl
      try simp only [Act.put, List.getElem_toArray, List.getElem_cons_zero, List.getElem_cons_succ, List.setIfInBounds_toArray, List.set_cons_zero, List.set_cons_succ]
      refine wpAnyH_take (i := 3) (v := ?_) rfl (by kernel_rfl) (by kernel_rfl) (by kernel_rfl) (fun _ _ _ h => h) (Or.inl ⟨by rfl, ?_⟩) (by assumption) ?_
      rotate_left
      · intro w hSw; (try dsimp only at hSw); go_simp; try with_reducible rfl
      try simp only [Act.put, List.getElem_toArray, List.getElem_cons_zero, List.getElem_cons_succ, List.setIfInBounds_toArray, List.set_cons_zero, List.set_cons_succ]
      refine wpAnyH_take (i := 4) (v := ?_) rfl (by kernel_rfl) (by kernel_rfl) (by kernel_rfl) (fun _ _ _ h => h) (Or.inl ⟨by rfl, ?_⟩) (by assumption) ?_
      rotate_left
      · intro w hSw; (try dsimp only at hSw); go_simp; try with_reducible rfl
      try simp only [Act.put, List.getElem_toArray, List.getElem_cons_zero, List.getElem_cons_succ, List.setIfInBounds_toArray, List.set_cons_zero, List.set_cons_succ]
      refine wpAnyH_take (i := 5) (v := ?_) rfl (by kernel_rfl) (by kernel_rfl) (by kernel_rfl) (fun _ _ _ h => h) (Or.inl ⟨by rfl, ?_⟩) (by assumption) ?_
      rotate_left
      · intro w hSw; (try dsimp only at hSw); go_simp; try with_reducible rfl
      try simp only [Act.put, List.getElem_toArray, List.getElem_cons_zero, List.getElem_cons_succ, List.setIfInBounds_toArray, List.set_cons_zero, List.set_cons_succ]
      refine wpAnyH_take (i := 6) (v := ?_) rfl (by kernel_rfl) (by kernel_rfl) (by kernel_rfl) (fun _ _ _ h => h) (Or.inl ⟨by rfl, ?_⟩) (by assumption) ?_
      rotate_left
      · intro w hSw; (try dsimp only at hSw); go_simp; try with_reducible rfl
      try simp only [Act.put, List.getElem_toArray, List.getElem_cons_zero, List.getElem_cons_succ, List.setIfInBounds_toArray, List.set_cons_zero, List.set_cons_succ]
      refine wpAnyH_take (i := 7) (v := ?_) rfl (by kernel_rfl) (by kernel_rfl) (by kernel_rfl) (fun _ _ _ h => h) (Or.inl ⟨by rfl, ?_⟩) (by assumption) ?_
      rotate_left
      · intro w hSw; (try dsimp only at hSw); go_simp; try with_reducible rfl
      try simp only [Act.put, List.getElem_toArray, List.getElem_cons_zero, List.getElem_cons_succ, List.setIfInBounds_toArray, List.set_cons_zero, List.set_cons_succ]
      refine wpAnyH_ready (rs := [8]) (by kernel_rfl) (by simp) ?_
      refine AllReadyH.cons rfl (fun K hK => ?_) AllReadyH.nil
      (rw [if_pos (by rfl)]; go_simp; go_at_call 129; refine (eqInfo_c x _).mono ?_; rintro e w2 ⟨rfl, hb2⟩; have hb3 := hb.out.trans ((Below.undrew hb2).mono hb.out.size); have S2 := Hcl.out w2 hb3; go_wp2_with fail)
      refine hK.out _ _ ?_ (fun hHeld => ?_)
      · first | assumption | go_keep
      clear hK K
      try simp only [Act.put, List.getElem_toArray, List.getElem_cons_zero, List.getElem_cons_succ, List.setIfInBounds_toArray, List.set_cons_zero, List.set_cons_succ]
      refine wpAnyH_take (i := 9) (v := ?_) rfl (by kernel_rfl) (by kernel_rfl) (by kernel_rfl) (fun _ _ _ h => h) (Or.inl ⟨by rfl, ?_⟩) (by assumption) ?_
      rotate_left
      · intro w hSw; (try dsimp only at hSw); go_simp; try with_reducible rfl
      try simp only [Act.put, List.getElem_toArray, List.getElem_cons_zero, List.getElem_cons_succ, List.setIfInBounds_toArray, List.set_cons_zero, List.set_cons_succ]
      refine wpAnyH_done (by kernel_rfl) ?_ _
      go_wp2_with fail
      go_roundw
      case rel => exact ⟨k + 1, by go_num, by omega, hb3⟩
      case measure => simp [intOf]; omega
    · go_wp2_with fail
      go_ret
      exact ⟨rfl, hb.out⟩
set_option maxHeartbeats 4000000 in
theorem eqCachedS_c (l : List Kx.Cached) (v u : Value) (w : World) (h1 : RS cachedC 4 w v l) (h2 : RS cachedC 4 w u l) : Calls Tryz.prog 71 #[v, u] w (Yes w) := by
  have hl := h1.1
  obtain ⟨a, cap, rfl, _, _⟩ := RS.val h1
  obtain ⟨a', cap', rfl, _, _⟩ := RS.val h2
  have H1 := Lib.hid h1; have H2 := Lib.hid h2
  clear h1 h2
  go_enter Tryz.func71, Tryz.ntmps71
  go_wp2_with fail
  go_loopw [5] (fun i wr => ∃ k : Nat, i = .int .i64 k ∧ k ≤ l.length ∧ Hid (Below w.heap.size w wr)) (fun i _ => l.length - (intOf i).toNat)
  case atStart => exact ⟨0, rfl, Nat.zero_le _, Below.refl _ _⟩
  case round =>
    obtain ⟨k, rfl, hk, hb⟩ := hrel
    by_cases hlt : k < l.length
    · have hlI : (k : Int) < (l.length : Int) := by omega
      obtain ⟨b, off, cap1, e, hbl, hc⟩ := H1.out.at (k := k) hlt
      simp only [Value.slice.injEq] at e
      obtain ⟨rfl, _, rfl⟩ := e
      obtain ⟨b', off', cap1, e, hbl', hc'⟩ := H2.out.at (k := k) hlt
      simp only [Value.slice.injEq] at e
      obtain ⟨rfl, _, rfl⟩ := e
      generalize l[k] = x at hc hc'
      have g0 := hc 0 _ rfl
      have q0 := hc' 0 _ rfl
      have g1 := hc 1 _ rfl
      have q1 := hc' 1 _ rfl
      have g2 := hc 2 _ rfl
      have q2 := hc' 2 _ rfl
      have g3 := hc 3 _ rfl
      have q3 := hc' 3 _ rfl
      rw [Nat.add_zero] at g0 q0
      clear hc hc'
      have Hcl := Lib.hid (show ∀ wz, Below w.heap.size w wz → (wz.cell? ⟨b, off + k * 4, none⟩ = some (.int .i64 x.env) ∧ wz.cell? ⟨b, off + k * 4 + 1, none⟩ = some (.int .i64 x.page) ∧ wz.cell? ⟨b, off + k * 4 + 2, none⟩ = some (.int .i64 x.frame) ∧ wz.cell? ⟨b, off + k * 4 + 3, none⟩ = some (.bool x.write) ∧ wz.cell? ⟨b', off' + k * 4, none⟩ = some (.int .i64 x.env) ∧ wz.cell? ⟨b', off' + k * 4 + 1, none⟩ = some (.int .i64 x.page) ∧ wz.cell? ⟨b', off' + k * 4 + 2, none⟩ = some (.int .i64 x.frame) ∧ wz.cell? ⟨b', off' + k * 4 + 3, none⟩ = some (.bool x.write)) from fun wz hz => ⟨(hz.cell (p := ⟨b, off + k * 4, none⟩) hbl).trans g0, (hz.cell (p := ⟨b, off + k * 4 + 1, none⟩) hbl).trans g1, (hz.cell (p := ⟨b, off + k * 4 + 2, none⟩) hbl).trans g2, (hz.cell (p := ⟨b, off + k * 4 + 3, none⟩) hbl).trans g3, (hz.cell (p := ⟨b', off' + k * 4, none⟩) hbl').trans q0, (hz.cell (p := ⟨b', off' + k * 4 + 1, none⟩) hbl').trans q1, (hz.cell (p := ⟨b', off' + k * 4 + 2, none⟩) hbl').trans q2, (hz.cell (p := ⟨b', off' + k * 4 + 3, none⟩) hbl').trans q3⟩)
      clear g0 q0 g1 q1 g2 q2 g3 q3 hbl hbl'
      have S1 := Hcl.out wr hb.out
      go_wp2_with fail
      refine wp_region_held_drew (S := (fun wz => wz.cell? ⟨b, off + k * 4, none⟩ = some (.int .i64 x.env) ∧ wz.cell? ⟨b, off + k * 4 + 1, none⟩ = some (.int .i64 x.page) ∧ wz.cell? ⟨b, off + k * 4 + 2, none⟩ = some (.int .i64 x.frame) ∧ wz.cell? ⟨b, off + k * 4 + 3, none⟩ = some (.bool x.write) ∧ wz.cell? ⟨b', off' + k * 4, none⟩ = some (.int .i64 x.env) ∧ wz.cell? ⟨b', off' + k * 4 + 1, none⟩ = some (.int .i64 x.page) ∧ wz.cell? ⟨b', off' + k * 4 + 2, none⟩ = some (.int .i64 x.frame) ∧ wz.cell? ⟨b', off' + k * 4 + 3, none⟩ = some (.bool x.write))) (by kernel_rfl) (by first | assumption | go_keep) (fun hHeld => ?_)
      refine wpAnyH_take (i := 0) (v := ?_) rfl (by kernel_rfl) (by kernel_rfl) (by kernel_rfl) (fun _ _ _ h => h) (Or.inl ⟨by rfl, ?_⟩) (by assumption) ?_
      rotate_left
      · intro w hSw; (try dsimp only at hSw); go_simp; try with_reducible rfl
      try simp only [Act.put, List.getElem_toArray, List.getElem_cons_zero, List.setIfInBounds_toArray, List.set_cons_zero, List.set_cons_succ]
      refine wpAnyH_take (i := 1) (v := ?_) rfl (by kernel_rfl) (by kernel_rfl) (by kernel_rfl) (fun _ _ _ h => h) (Or.inl ⟨by rfl, ?_⟩) (by assumption) ?_
      rotate_left
      · intro w hSw; (try dsimp only at hSw); go_simp; try with_reducible rfl
      try simp only [Act.put, List.getElem_toArray, List.getElem_cons_zero, List.getElem_cons_succ, List.setIfInBounds_toArray, List.set_cons_zero, List.set_cons_succ]
      refine wpAnyH_take (i := 2) (v := ?_) rfl (by kernel_rfl) (by kernel_rfl) (by kernel_rfl) (fun _ _ _ h => h) (Or.inl ⟨by rfl, ?_⟩) (by assumption) ?_
      rotate_left
      · intro w hSw; (try dsimp only at hSw); go_simp; try with_reducible rfl
      try simp only [Act.put, List.getElem_toArray, List.getElem_cons_zero, List.getElem_cons_succ, List.setIfInBounds_toArray, List.set_cons_zero, List.set_cons_succ]
      refine wpAnyH_take (i := 3) (v := ?_) rfl (by kernel_rfl) (by kernel_rfl) (by kernel_rfl) (fun _ _ _ h => h) (Or.inl ⟨by rfl, ?_⟩) (by assumption) ?_
      rotate_left
      · intro w hSw; (try dsimp only at hSw); go_simp; try with_reducible rfl
      try simp only [Act.put, List.getElem_toArray, List.getElem_cons_zero, List.getElem_cons_succ, List.setIfInBounds_toArray, List.set_cons_zero, List.set_cons_succ]
      refine wpAnyH_take (i := 4) (v := ?_) rfl (by kernel_rfl) (by kernel_rfl) (by kernel_rfl) (fun _ _ _ h => h) (Or.inl ⟨by rfl, ?_⟩) (by assumption) ?_
      rotate_left
      · intro w hSw; (try dsimp only at hSw); go_simp; try with_reducible rfl
      try simp only [Act.put, List.getElem_toArray, List.getElem_cons_zero, List.getElem_cons_succ, List.setIfInBounds_toArray, List.set_cons_zero, List.set_cons_succ]
      refine wpAnyH_take (i := 5) (v := ?_) rfl (by kernel_rfl) (by kernel_rfl) (by kernel_rfl) (fun _ _ _ h => h) (Or.inl ⟨by rfl, ?_⟩) (by assumption) ?_
      rotate_left
      · intro w hSw; (try dsimp only at hSw); go_simp; try with_reducible rfl
      try simp only [Act.put, List.getElem_toArray, List.getElem_cons_zero, List.getElem_cons_succ, List.setIfInBounds_toArray, List.set_cons_zero, List.set_cons_succ]
      refine wpAnyH_take (i := 6) (v := ?_) rfl (by kernel_rfl) (by kernel_rfl) (by kernel_rfl) (fun _ _ _ h => h) (Or.inl ⟨by rfl, ?_⟩) (by assumption) ?_
      rotate_left
      · intro w hSw; (try dsimp only at hSw); go_simp; try with_reducible rfl
      try simp only [Act.put, List.getElem_toArray, List.getElem_cons_zero, List.getElem_cons_succ, List.setIfInBounds_toArray, List.set_cons_zero, List.set_cons_succ]
      refine wpAnyH_take (i := 7) (v := ?_) rfl (by kernel_rfl) (by kernel_rfl) (by kernel_rfl) (fun _ _ _ h => h) (Or.inl ⟨by rfl, ?_⟩) (by assumption) ?_
      rotate_left
      · intro w hSw; (try dsimp only at hSw); go_simp; try with_reducible rfl
      try simp only [Act.put, List.getElem_toArray, List.getElem_cons_zero, List.getElem_cons_succ, List.setIfInBounds_toArray, List.set_cons_zero, List.set_cons_succ]
      refine wpAnyH_ready (rs := [8]) (by kernel_rfl) (by simp) ?_
      refine AllReadyH.cons rfl (fun K hK => ?_) AllReadyH.nil
      (rw [if_pos (by rfl)]; go_simp; go_at_call 131; refine (eqCached_c x _).mono ?_; rintro e w2 ⟨rfl, hb2⟩; have hb3 := hb.out.trans ((Below.undrew hb2).mono hb.out.size); have S2 := Hcl.out w2 hb3; go_wp2_with fail)
      refine hK.out _ _ ?_ (fun hHeld => ?_)
      · first | assumption | go_keep
      clear hK K
      try simp only [Act.put, List.getElem_toArray, List.getElem_cons_zero, List.getElem_cons_succ, List.setIfInBounds_toArray, List.set_cons_zero, List.set_cons_succ]
      refine wpAnyH_take (i := 9) (v := ?_) rfl (by kernel_rfl) (by kernel_rfl) (by kernel_rfl) (fun _ _ _ h => h) (Or.inl ⟨by rfl, ?_⟩) (by assumption) ?_
      rotate_left
      · intro w hSw; (try dsimp only at hSw); go_simp; try with_reducible rfl
      try simp only [Act.put, List.getElem_toArray, List.getElem_cons_zero, List.getElem_cons_succ, List.setIfInBounds_toArray, List.set_cons_zero, List.set_cons_succ]
      refine wpAnyH_done (by kernel_rfl) ?_ _
      go_wp2_with fail
      go_roundw
      case rel => exact ⟨k + 1, by go_num, by omega, hb3⟩
      case measure => simp [intOf]; omega
    · go_wp2_with fail
      go_ret
      exact ⟨rfl, hb.out⟩
set_option maxHeartbeats 4000000 in
theorem eqPageS_c (l : List Kx.Page) (v u : Value) (w : World) (h1 : RS pageC 3 w v l) (h2 : RS pageC 3 w u l) : Calls Tryz.prog 54 #[v, u] w (Yes w) := by
  have hl := h1.1
  obtain ⟨a, cap, rfl, _, _⟩ := RS.val h1
  obtain ⟨a', cap', rfl, _, _⟩ := RS.val h2
  have H1 := Lib.hid h1; have H2 := Lib.hid h2
  clear h1 h2
  go_enter Tryz.func54, Tryz.ntmps54
  go_wp2_with fail
  go_loopw [5] (fun i wr => ∃ k : Nat, i = .int .i64 k ∧ k ≤ l.length ∧ Hid (Below w.heap.size w wr)) (fun i _ => l.length - (intOf i).toNat)
  case atStart => exact ⟨0, rfl, Nat.zero_le _, Below.refl _ _⟩
  case round =>
    obtain ⟨k, rfl, hk, hb⟩ := hrel
    by_cases hlt : k < l.length
    · have hlI : (k : Int) < (l.length : Int) := by omega
      obtain ⟨b, off, cap1, e, hbl, hc⟩ := H1.out.at (k := k) hlt
      simp only [Value.slice.injEq] at e
      obtain ⟨rfl, _, rfl⟩ := e
      obtain ⟨b', off', cap1, e, hbl', hc'⟩ := H2.out.at (k := k) hlt
      simp only [Value.slice.injEq] at e
      obtain ⟨rfl, _, rfl⟩ := e
      generalize l[k] = x at hc hc'
      have g0 := hc 0 _ rfl
      have q0 := hc' 0 _ rfl
      have g1 := hc 1 _ rfl
      have q1 := hc' 1 _ rfl
      have g2 := hc 2 _ rfl
      have q2 := hc' 2 _ rfl
      rw [Nat.add_zero] at g0 q0
      clear hc hc'
      have Hcl := Lib.hid (show ∀ wz, Below w.heap.size w wz → (wz.cell? ⟨b, off + k * 3, none⟩ = some (.int .i64 x.wh) ∧ wz.cell? ⟨b, off + k * 3 + 1, none⟩ = some (.int .i64 x.at_) ∧ wz.cell? ⟨b, off + k * 3 + 2, none⟩ = some (.bool x.used) ∧ wz.cell? ⟨b', off' + k * 3, none⟩ = some (.int .i64 x.wh) ∧ wz.cell? ⟨b', off' + k * 3 + 1, none⟩ = some (.int .i64 x.at_) ∧ wz.cell? ⟨b', off' + k * 3 + 2, none⟩ = some (.bool x.used)) from fun wz hz => ⟨(hz.cell (p := ⟨b, off + k * 3, none⟩) hbl).trans g0, (hz.cell (p := ⟨b, off + k * 3 + 1, none⟩) hbl).trans g1, (hz.cell (p := ⟨b, off + k * 3 + 2, none⟩) hbl).trans g2, (hz.cell (p := ⟨b', off' + k * 3, none⟩) hbl').trans q0, (hz.cell (p := ⟨b', off' + k * 3 + 1, none⟩) hbl').trans q1, (hz.cell (p := ⟨b', off' + k * 3 + 2, none⟩) hbl').trans q2⟩)
      clear g0 q0 g1 q1 g2 q2 hbl hbl'
      have S1 := Hcl.out wr hb.out
      go_wp2_with fail
      refine wp_region_held_drew (S := (fun wz => wz.cell? ⟨b, off + k * 3, none⟩ = some (.int .i64 x.wh) ∧ wz.cell? ⟨b, off + k * 3 + 1, none⟩ = some (.int .i64 x.at_) ∧ wz.cell? ⟨b, off + k * 3 + 2, none⟩ = some (.bool x.used) ∧ wz.cell? ⟨b', off' + k * 3, none⟩ = some (.int .i64 x.wh) ∧ wz.cell? ⟨b', off' + k * 3 + 1, none⟩ = some (.int .i64 x.at_) ∧ wz.cell? ⟨b', off' + k * 3 + 2, none⟩ = some (.bool x.used))) (by kernel_rfl) (by first | assumption | go_keep) (fun hHeld => ?_)
      refine wpAnyH_take (i := 0) (v := ?_) rfl (by kernel_rfl) (by kernel_rfl) (by kernel_rfl) (fun _ _ _ h => h) (Or.inl ⟨by rfl, ?_⟩) (by assumption) ?_
      rotate_left
      · intro w hSw; (try dsimp only at hSw); go_simp; try with_reducible rfl
      try simp only [Act.put, List.getElem_toArray, List.getElem_cons_zero, List.setIfInBounds_toArray, List.set_cons_zero, List.set_cons_succ]
      refine wpAnyH_take (i := 1) (v := ?_) rfl (by kernel_rfl) (by kernel_rfl) (by kernel_rfl) (fun _ _ _ h => h) (Or.inl ⟨by rfl, ?_⟩) (by assumption) ?_
      rotate_left
      · intro w hSw; (try dsimp only at hSw); go_simp; try with_reducible rfl
      try simp only [Act.put, List.getElem_toArray, List.getElem_cons_zero, List.getElem_cons_succ, List.setIfInBounds_toArray, List.set_cons_zero, List.set_cons_succ]
      refine wpAnyH_take (i := 2) (v := ?_) rfl (by kernel_rfl) (by kernel_rfl) (by kernel_rfl) (fun _ _ _ h => h) (Or.inl ⟨by rfl, ?_⟩) (by assumption) ?_
      rotate_left
      · intro w hSw; (try dsimp only at hSw); go_simp; try with_reducible rfl
      try simp only [Act.put, List.getElem_toArray, List.getElem_cons_zero, List.getElem_cons_succ, List.setIfInBounds_toArray, List.set_cons_zero, List.set_cons_succ]
      refine wpAnyH_take (i := 3) (v := ?_) rfl (by kernel_rfl) (by kernel_rfl) (by kernel_rfl) (fun _ _ _ h => h) (Or.inl ⟨by rfl, ?_⟩) (by assumption) ?_
      rotate_left
      · intro w hSw; (try dsimp only at hSw); go_simp; try with_reducible rfl
      try simp only [Act.put, List.getElem_toArray, List.getElem_cons_zero, List.getElem_cons_succ, List.setIfInBounds_toArray, List.set_cons_zero, List.set_cons_succ]
      refine wpAnyH_take (i := 4) (v := ?_) rfl (by kernel_rfl) (by kernel_rfl) (by kernel_rfl) (fun _ _ _ h => h) (Or.inl ⟨by rfl, ?_⟩) (by assumption) ?_
      rotate_left
      · intro w hSw; (try dsimp only at hSw); go_simp; try with_reducible rfl
      try simp only [Act.put, List.getElem_toArray, List.getElem_cons_zero, List.getElem_cons_succ, List.setIfInBounds_toArray, List.set_cons_zero, List.set_cons_succ]
      refine wpAnyH_take (i := 5) (v := ?_) rfl (by kernel_rfl) (by kernel_rfl) (by kernel_rfl) (fun _ _ _ h => h) (Or.inl ⟨by rfl, ?_⟩) (by assumption) ?_
      rotate_left
      · intro w hSw; (try dsimp only at hSw); go_simp; try with_reducible rfl
      try simp only [Act.put, List.getElem_toArray, List.getElem_cons_zero, List.getElem_cons_succ, List.setIfInBounds_toArray, List.set_cons_zero, List.set_cons_succ]
      refine wpAnyH_take (i := 6) (v := ?_) rfl (by kernel_rfl) (by kernel_rfl) (by kernel_rfl) (fun _ _ _ h => h) (Or.inl ⟨by rfl, ?_⟩) (by assumption) ?_
      rotate_left
      · intro w hSw; (try dsimp only at hSw); go_simp; try with_reducible rfl
      try simp only [Act.put, List.getElem_toArray, List.getElem_cons_zero, List.getElem_cons_succ, List.setIfInBounds_toArray, List.set_cons_zero, List.set_cons_succ]
      refine wpAnyH_take (i := 7) (v := ?_) rfl (by kernel_rfl) (by kernel_rfl) (by kernel_rfl) (fun _ _ _ h => h) (Or.inl ⟨by rfl, ?_⟩) (by assumption) ?_
      rotate_left
      · intro w hSw; (try dsimp only at hSw); go_simp; try with_reducible rfl
      try simp only [Act.put, List.getElem_toArray, List.getElem_cons_zero, List.getElem_cons_succ, List.setIfInBounds_toArray, List.set_cons_zero, List.set_cons_succ]
      refine wpAnyH_ready (rs := [8]) (by kernel_rfl) (by simp) ?_
      refine AllReadyH.cons rfl (fun K hK => ?_) AllReadyH.nil
      (rw [if_pos (by rfl)]; go_simp; go_at_call 116; refine (eqPage_c x _).mono ?_; rintro e w2 ⟨rfl, hb2⟩; have hb3 := hb.out.trans ((Below.undrew hb2).mono hb.out.size); have S2 := Hcl.out w2 hb3; go_wp2_with fail)
      refine hK.out _ _ ?_ (fun hHeld => ?_)
      · first | assumption | go_keep
      clear hK K
      try simp only [Act.put, List.getElem_toArray, List.getElem_cons_zero, List.getElem_cons_succ, List.setIfInBounds_toArray, List.set_cons_zero, List.set_cons_succ]
      refine wpAnyH_take (i := 9) (v := ?_) rfl (by kernel_rfl) (by kernel_rfl) (by kernel_rfl) (fun _ _ _ h => h) (Or.inl ⟨by rfl, ?_⟩) (by assumption) ?_
      rotate_left
      · intro w hSw; (try dsimp only at hSw); go_simp; try with_reducible rfl
      try simp only [Act.put, List.getElem_toArray, List.getElem_cons_zero, List.getElem_cons_succ, List.setIfInBounds_toArray, List.set_cons_zero, List.set_cons_succ]
      refine wpAnyH_done (by kernel_rfl) ?_ _
      go_wp2_with fail
      go_roundw
      case rel => exact ⟨k + 1, by go_num, by omega, hb3⟩
      case measure => simp [intOf]; omega
    · go_wp2_with fail
      go_ret
      exact ⟨rfl, hb.out⟩
set_option maxHeartbeats 2000000 in
theorem eqStringS_c (l : List Kx.Str) (v u : Value) (w : World) (h1 : RStr w v l) (h2 : RStr w u l) : Calls Tryz.prog 186 #[v, u] w (Yes w) := by
  have hl := h1.1
  obtain ⟨a, cap, rfl, _, _⟩ := RS.val h1
  obtain ⟨a', cap', rfl, _, _⟩ := RS.val h2
  have H1 := Lib.hid h1; have H2 := Lib.hid h2
  clear h1 h2
  go_enter Tryz.func186, Tryz.ntmps186
  go_wp2_with fail
  go_loopw [5] (fun i wr => ∃ k : Nat, i = .int .i64 k ∧ k ≤ l.length ∧ Hid (Below w.heap.size w wr)) (fun i _ => l.length - (intOf i).toNat)
  case atStart => exact ⟨0, rfl, Nat.zero_le _, Below.refl _ _⟩
  case round =>
    obtain ⟨k, rfl, hk, hb⟩ := hrel
    by_cases hlt : k < l.length
    · have hlI : (k : Int) < (l.length : Int) := by omega
      obtain ⟨b, off, cap1, e, hbl, hc⟩ := RS.at (RS.below H1.out hb.out) (k := k) hlt
      simp only [Value.slice.injEq] at e
      obtain ⟨rfl, _, rfl⟩ := e
      obtain ⟨b', off', cap1, e, hbl', hc'⟩ := RS.at (RS.below H2.out hb.out) (k := k) hlt
      simp only [Value.slice.injEq] at e
      obtain ⟨rfl, _, rfl⟩ := e
      generalize l[k] = x at hc hc'
      have g0 := hc 0 _ rfl
      have q0 := hc' 0 _ rfl
      rw [Nat.add_zero, Nat.mul_one] at g0 q0
      clear hc hc'
      go_wp2_with fail
      go_quiet (fail)
      go_wp2_with fail
      go_roundw
      case rel => exact ⟨k + 1, by go_num, by omega, below_drewN hb.out _⟩
      case measure => simp [intOf]; omega
    · go_wp2_with fail
      go_ret
      exact ⟨rfl, hb.out⟩
theorem eqIntS_yes (xs : List Int) (v u : Value) (w : World) (h1 : RI w v xs) (h2 : RI w u xs) : Calls Tryz.prog 27 #[v, u] w (Yes w) :=
  (eqIntS_c xs xs v u w h1 h2).mono fun e w' h => ⟨by rw [h.1]; simp, h.2⟩
set_option maxHeartbeats 4000000 in
theorem eqIntSS_c (l : List (List Int)) (v u : Value) (w : World) (h1 : RM w v l) (h2 : RM w u l) : Calls Tryz.prog 53 #[v, u] w (Yes w) := by
  have hl := h1.len.1
  obtain ⟨_, a, cap, rfl, _, _⟩ := h1.len
  obtain ⟨_, a', cap', rfl, _, _⟩ := h2.len
  have H1 := Lib.hid h1; have H2 := Lib.hid h2
  clear h1 h2
  go_enter Tryz.func53, Tryz.ntmps53
  go_wp2_with fail
  go_loopw [5] (fun i wr => ∃ k : Nat, i = .int .i64 k ∧ k ≤ l.length ∧ Hid (Below w.heap.size w wr)) (fun i _ => l.length - (intOf i).toNat)
  case atStart => exact ⟨0, rfl, Nat.zero_le _, Below.refl _ _⟩
  case round =>
    obtain ⟨k, rfl, hk, hb⟩ := hrel
    by_cases hlt : k < l.length
    · have hlI : (k : Int) < (l.length : Int) := by omega
      obtain ⟨b, off, cap1, u1, e, hbl, g0, r1⟩ := H1.out.at (k := k) hlt
      simp only [Value.slice.injEq] at e
      obtain ⟨rfl, _, rfl⟩ := e
      obtain ⟨b', off', cap1, u2, e, hbl', q0, r2⟩ := H2.out.at (k := k) hlt
      simp only [Value.slice.injEq] at e
      obtain ⟨rfl, _, rfl⟩ := e
      obtain ⟨a1, c1, rfl⟩ := r1.val
      obtain ⟨a2, c2, rfl⟩ := r2.val
      have HC := Lib.hid (show ∀ W, Below w.heap.size w W → Calls Tryz.prog 27 #[.slice a1 (Kx.row l k).length c1, .slice a2 (Kx.row l k).length c2] W (Yes W) from fun W hW => eqIntS_yes _ _ _ W (r1.below hW) (r2.below hW))
      generalize (Kx.row l k).length = n1 at g0 q0 HC
      clear r1 r2
      have Hcl := Lib.hid (show ∀ wz, Below w.heap.size w wz → (wz.cell? ⟨b, off + k, none⟩ = some (.slice a1 n1 c1) ∧ wz.cell? ⟨b', off' + k, none⟩ = some (.slice a2 n1 c2)) from fun wz hz => ⟨(hz.cell (p := ⟨b, off + k, none⟩) hbl).trans g0, (hz.cell (p := ⟨b', off' + k, none⟩) hbl').trans q0⟩)
      clear g0 q0 hbl hbl'
      have S1 := Hcl.out wr hb.out
      go_wp2_with fail
      refine wp_region_held_drew (S := (fun wz => wz.cell? ⟨b, off + k, none⟩ = some (.slice a1 n1 c1) ∧ wz.cell? ⟨b', off' + k, none⟩ = some (.slice a2 n1 c2))) (by kernel_rfl) (by first | assumption | go_keep) (fun hHeld => ?_)
      refine wpAnyH_take (i := 0) (v := ?_) rfl (by kernel_rfl) (by kernel_rfl) (by kernel_rfl) (fun _ _ _ h => h) (Or.inl ⟨by rfl, ?_⟩) (by assumption) ?_
      rotate_left
      · intro w hSw; (try dsimp only at hSw); go_simp; try with_reducible rfl
      try simp only [Act.put, List.getElem_toArray, List.getElem_cons_zero, List.setIfInBounds_toArray, List.set_cons_zero, List.set_cons_succ]
      refine wpAnyH_take (i := 1) (v := ?_) rfl (by kernel_rfl) (by kernel_rfl) (by kernel_rfl) (fun _ _ _ h => h) (Or.inl ⟨by rfl, ?_⟩) (by assumption) ?_
      rotate_left
      · intro w hSw; (try dsimp only at hSw); go_simp; try with_reducible rfl
      try simp only [Act.put, List.getElem_toArray, List.getElem_cons_zero, List.getElem_cons_succ, List.setIfInBounds_toArray, List.set_cons_zero, List.set_cons_succ]
      refine wpAnyH_take (i := 2) (v := ?_) rfl (by kernel_rfl) (by kernel_rfl) (by kernel_rfl) (fun _ _ _ h => h) (Or.inl ⟨by rfl, ?_⟩) (by assumption) ?_
      rotate_left
      · intro w hSw; (try dsimp only at hSw); go_simp; try with_reducible rfl
      try simp only [Act.put, List.getElem_toArray, List.getElem_cons_zero, List.getElem_cons_succ, List.setIfInBounds_toArray, List.set_cons_zero, List.set_cons_succ]
      refine wpAnyH_take (i := 3) (v := ?_) rfl (by kernel_rfl) (by kernel_rfl) (by kernel_rfl) (fun _ _ _ h => h) (Or.inl ⟨by rfl, ?_⟩) (by assumption) ?_
      rotate_left
      · intro w hSw; (try dsimp only at hSw); go_simp; try with_reducible rfl
      try simp only [Act.put, List.getElem_toArray, List.getElem_cons_zero, List.getElem_cons_succ, List.setIfInBounds_toArray, List.set_cons_zero, List.set_cons_succ]
      refine wpAnyH_take (i := 4) (v := ?_) rfl (by kernel_rfl) (by kernel_rfl) (by kernel_rfl) (fun _ _ _ h => h) (Or.inl ⟨by rfl, ?_⟩) (by assumption) ?_
      rotate_left
      · intro w hSw; (try dsimp only at hSw); go_simp; try with_reducible rfl
      try simp only [Act.put, List.getElem_toArray, List.getElem_cons_zero, List.getElem_cons_succ, List.setIfInBounds_toArray, List.set_cons_zero, List.set_cons_succ]
      refine wpAnyH_take (i := 5) (v := ?_) rfl (by kernel_rfl) (by kernel_rfl) (by kernel_rfl) (fun _ _ _ h => h) (Or.inl ⟨by rfl, ?_⟩) (by assumption) ?_
      rotate_left
      · intro w hSw; (try dsimp only at hSw); go_simp; try with_reducible rfl
      try simp only [Act.put, List.getElem_toArray, List.getElem_cons_zero, List.getElem_cons_succ, List.setIfInBounds_toArray, List.set_cons_zero, List.set_cons_succ]
      refine wpAnyH_take (i := 6) (v := ?_) rfl (by kernel_rfl) (by kernel_rfl) (by kernel_rfl) (fun _ _ _ h => h) (Or.inl ⟨by rfl, ?_⟩) (by assumption) ?_
      rotate_left
      · intro w hSw; (try dsimp only at hSw); go_simp; try with_reducible rfl
      try simp only [Act.put, List.getElem_toArray, List.getElem_cons_zero, List.getElem_cons_succ, List.setIfInBounds_toArray, List.set_cons_zero, List.set_cons_succ]
      refine wpAnyH_take (i := 7) (v := ?_) rfl (by kernel_rfl) (by kernel_rfl) (by kernel_rfl) (fun _ _ _ h => h) (Or.inl ⟨by rfl, ?_⟩) (by assumption) ?_
      rotate_left
      · intro w hSw; (try dsimp only at hSw); go_simp; try with_reducible rfl
      try simp only [Act.put, List.getElem_toArray, List.getElem_cons_zero, List.getElem_cons_succ, List.setIfInBounds_toArray, List.set_cons_zero, List.set_cons_succ]
      refine wpAnyH_ready (rs := [8]) (by kernel_rfl) (by simp) ?_
      refine AllReadyH.cons rfl (fun K hK => ?_) AllReadyH.nil
      (rw [if_pos (by rfl)]; go_simp; go_at_call 27; refine (HC.out _ (Below.drewB hb.out)).mono ?_; rintro e w2 ⟨rfl, hb2⟩; have hb3 := hb.out.trans ((Below.undrew hb2).mono hb.out.size); have S2 := Hcl.out w2 hb3; go_wp2_with fail)
      refine hK.out _ _ ?_ (fun hHeld => ?_)
      · first | assumption | go_keep
      clear hK K
      try simp only [Act.put, List.getElem_toArray, List.getElem_cons_zero, List.getElem_cons_succ, List.setIfInBounds_toArray, List.set_cons_zero, List.set_cons_succ]
      refine wpAnyH_take (i := 9) (v := ?_) rfl (by kernel_rfl) (by kernel_rfl) (by kernel_rfl) (fun _ _ _ h => h) (Or.inl ⟨by rfl, ?_⟩) (by assumption) ?_
      rotate_left
      · intro w hSw; (try dsimp only at hSw); go_simp; try with_reducible rfl
      try simp only [Act.put, List.getElem_toArray, List.getElem_cons_zero, List.getElem_cons_succ, List.setIfInBounds_toArray, List.set_cons_zero, List.set_cons_succ]
      refine wpAnyH_done (by kernel_rfl) ?_ _
      go_wp2_with fail
      go_roundw
      case rel => exact ⟨k + 1, by go_num, by omega, hb3⟩
      case measure => simp [intOf]; omega
    · go_wp2_with fail
      go_ret
      exact ⟨rfl, hb.out⟩
set_option maxHeartbeats 1000000 in
theorem eqEnv_c (l : List Kx.Str) (v u : Value) (r : Int) (w : World) (h1 : RStr w v l) (h2 : RStr w u l) : Calls Tryz.prog 130 #[.agg #[v, .int .i64 r], .agg #[u, .int .i64 r]] w (Yes w) := by
  obtain ⟨a, cap, rfl, _, _⟩ := RS.val h1
  obtain ⟨a', cap', rfl, _, _⟩ := RS.val h2
  obtain ⟨w0, hw0⟩ : ∃ w0, w.alloc (.cells #[.slice a l.length cap, .int .i64 r] 82) = w0 := ⟨_, rfl⟩
  obtain ⟨w1, hw1⟩ : ∃ w1, w0.alloc (.cells #[.slice a' l.length cap', .int .i64 r] 82) = w1 := ⟨_, rfl⟩
  have B0 := Lib.hid (show Below w.heap.size w w0 from hw0 ▸ Below.lit (Below.refl _ _) _)
  have B1 := Lib.hid (show Below w0.heap.size w0 w1 from hw1 ▸ Below.lit (Below.refl _ _) _)
  have X0 := Lib.hid (show BX w1 w.heap.size 82 [.slice a l.length cap, .int .i64 r] from (hw0 ▸ BX.new w _ _ : BX w0 _ _ _).below B1.out)
  have X1 := Lib.hid (show BX w1 w0.heap.size 82 [.slice a' l.length cap', .int .i64 r] from (hw1 ▸ BX.new w0 _ _ : BX w1 _ _ _))
  have Bw := Lib.hid (B0.out.trans (B1.out.mono B0.out.size))
  have HC := Lib.hid (eqStringS_c l _ _ w1 (RS.below h1 Bw.out) (RS.below h2 Bw.out))
  have p0 : w1.cell? ⟨w.heap.size, 0, none⟩ = some (.slice a l.length cap) := X0.out.cell 0
  have q0 : w1.cell? ⟨w0.heap.size, 0, none⟩ = some (.slice a' l.length cap') := X1.out.cell 0
  clear h1 h2 B0 B1
  go_enter Tryz.func130, Tryz.ntmps130
  go_wp2_with fail
  refine HC.out.mono ?_; rintro e w2 ⟨rfl, hb⟩
  have p1 : w2.cell? ⟨w.heap.size, 1, none⟩ = some (.int .i64 r) := (X0.out.below hb).cell 1
  have q1 : w2.cell? ⟨w0.heap.size, 1, none⟩ = some (.int .i64 r) := (X1.out.below hb).cell 1
  have Bw := Lib.hid (Bw.out.trans (hb.mono Bw.out.size))
  go_wp2_with fail
  go_ret
  exact ⟨rfl, Bw.out⟩
set_option maxHeartbeats 4000000 in
theorem eqEnvS_c (l : List Kx.Env) (v u : Value) (w : World) (h1 : REnv w v l) (h2 : REnv w u l) : Calls Tryz.prog 70 #[v, u] w (Yes w) := by
  have hl := h1.len.1
  obtain ⟨_, a, cap, rfl, _, _⟩ := h1.len
  obtain ⟨_, a', cap', rfl, _, _⟩ := h2.len
  have H1 := Lib.hid h1; have H2 := Lib.hid h2
  clear h1 h2
  go_enter Tryz.func70, Tryz.ntmps70
  go_wp2_with fail
  go_loopw [5] (fun i wr => ∃ k : Nat, i = .int .i64 k ∧ k ≤ l.length ∧ Hid (Below w.heap.size w wr)) (fun i _ => l.length - (intOf i).toNat)
  case atStart => exact ⟨0, rfl, Nat.zero_le _, Below.refl _ _⟩
  case round =>
    obtain ⟨k, rfl, hk, hb⟩ := hrel
    by_cases hlt : k < l.length
    · have hlI : (k : Int) < (l.length : Int) := by omega
      obtain ⟨b, off, cap1, u1, e, hbl, g0, g1, r1⟩ := H1.out.at (k := k) hlt
      simp only [Value.slice.injEq] at e
      obtain ⟨rfl, _, rfl⟩ := e
      obtain ⟨b', off', cap1, u2, e, hbl', q0, q1, r2⟩ := H2.out.at (k := k) hlt
      simp only [Value.slice.injEq] at e
      obtain ⟨rfl, _, rfl⟩ := e
      obtain ⟨a1, c1, rfl, _, _⟩ := RS.val r1
      obtain ⟨a2, c2, rfl, _, _⟩ := RS.val r2
      generalize (Kx.envAt l k).root = rt at g1 q1
      have HC := Lib.hid (show ∀ W, Below w.heap.size w W → Calls Tryz.prog 130 #[.agg #[.slice a1 (Kx.envAt l k).rights.length c1, .int .i64 rt], .agg #[.slice a2 (Kx.envAt l k).rights.length c2, .int .i64 rt]] W (Yes W) from fun W hW => eqEnv_c _ _ _ _ W (RS.below r1 hW) (RS.below r2 hW))
      generalize (Kx.envAt l k).rights.length = n1 at g0 q0 HC
      clear r1 r2
      have Hcl := Lib.hid (show ∀ wz, Below w.heap.size w wz → (wz.cell? ⟨b, off + k * 2, none⟩ = some (.slice a1 n1 c1) ∧ wz.cell? ⟨b, off + k * 2 + 1, none⟩ = some (.int .i64 rt) ∧ wz.cell? ⟨b', off' + k * 2, none⟩ = some (.slice a2 n1 c2) ∧ wz.cell? ⟨b', off' + k * 2 + 1, none⟩ = some (.int .i64 rt)) from fun wz hz => ⟨(hz.cell (p := ⟨b, off + k * 2, none⟩) hbl).trans g0, (hz.cell (p := ⟨b, off + k * 2 + 1, none⟩) hbl).trans g1, (hz.cell (p := ⟨b', off' + k * 2, none⟩) hbl').trans q0, (hz.cell (p := ⟨b', off' + k * 2 + 1, none⟩) hbl').trans q1⟩)
      clear g0 q0 g1 q1 hbl hbl'
      have S1 := Hcl.out wr hb.out
      go_wp2_with fail
      refine wp_region_held_drew (S := (fun wz => wz.cell? ⟨b, off + k * 2, none⟩ = some (.slice a1 n1 c1) ∧ wz.cell? ⟨b, off + k * 2 + 1, none⟩ = some (.int .i64 rt) ∧ wz.cell? ⟨b', off' + k * 2, none⟩ = some (.slice a2 n1 c2) ∧ wz.cell? ⟨b', off' + k * 2 + 1, none⟩ = some (.int .i64 rt))) (by kernel_rfl) (by first | assumption | go_keep) (fun hHeld => ?_)
      refine wpAnyH_take (i := 0) (v := ?_) rfl (by kernel_rfl) (by kernel_rfl) (by kernel_rfl) (fun _ _ _ h => h) (Or.inl ⟨by rfl, ?_⟩) (by assumption) ?_
      rotate_left
      · intro w hSw; (try dsimp only at hSw); go_simp; try with_reducible rfl
      try simp only [Act.put, List.getElem_toArray, List.getElem_cons_zero, List.setIfInBounds_toArray, List.set_cons_zero, List.set_cons_succ]
      refine wpAnyH_take (i := 1) (v := ?_) rfl (by kernel_rfl) (by kernel_rfl) (by kernel_rfl) (fun _ _ _ h => h) (Or.inl ⟨by rfl, ?_⟩) (by assumption) ?_
      rotate_left
      · intro w hSw; (try dsimp only at hSw); go_simp; try with_reducible rfl
      try simp only [Act.put, List.getElem_toArray, List.getElem_cons_zero, List.getElem_cons_succ, List.setIfInBounds_toArray, List.set_cons_zero, List.set_cons_succ]
      refine wpAnyH_take (i := 2) (v := ?_) rfl (by kernel_rfl) (by kernel_rfl) (by kernel_rfl) (fun _ _ _ h => h) (Or.inl ⟨by rfl, ?_⟩) (by assumption) ?_
      rotate_left
      · intro w hSw; (try dsimp only at hSw); go_simp; try with_reducible rfl
      try simp only [Act.put, List.getElem_toArray, List.getElem_cons_zero, List.getElem_cons_succ, List.setIfInBounds_toArray, List.set_cons_zero, List.set_cons_succ]
      refine wpAnyH_take (i := 3) (v := ?_) rfl (by kernel_rfl) (by kernel_rfl) (by kernel_rfl) (fun _ _ _ h => h) (Or.inl ⟨by rfl, ?_⟩) (by assumption) ?_
      rotate_left
      · intro w hSw; (try dsimp only at hSw); go_simp; try with_reducible rfl
      try simp only [Act.put, List.getElem_toArray, List.getElem_cons_zero, List.getElem_cons_succ, List.setIfInBounds_toArray, List.set_cons_zero, List.set_cons_succ]
      refine wpAnyH_take (i := 4) (v := ?_) rfl (by kernel_rfl) (by kernel_rfl) (by kernel_rfl) (fun _ _ _ h => h) (Or.inl ⟨by rfl, ?_⟩) (by assumption) ?_
      rotate_left
      · intro w hSw; (try dsimp only at hSw); go_simp; try with_reducible rfl
      try simp only [Act.put, List.getElem_toArray, List.getElem_cons_zero, List.getElem_cons_succ, List.setIfInBounds_toArray, List.set_cons_zero, List.set_cons_succ]
      refine wpAnyH_take (i := 5) (v := ?_) rfl (by kernel_rfl) (by kernel_rfl) (by kernel_rfl) (fun _ _ _ h => h) (Or.inl ⟨by rfl, ?_⟩) (by assumption) ?_
      rotate_left
      · intro w hSw; (try dsimp only at hSw); go_simp; try with_reducible rfl
      try simp only [Act.put, List.getElem_toArray, List.getElem_cons_zero, List.getElem_cons_succ, List.setIfInBounds_toArray, List.set_cons_zero, List.set_cons_succ]
      refine wpAnyH_take (i := 6) (v := ?_) rfl (by kernel_rfl) (by kernel_rfl) (by kernel_rfl) (fun _ _ _ h => h) (Or.inl ⟨by rfl, ?_⟩) (by assumption) ?_
      rotate_left
      · intro w hSw; (try dsimp only at hSw); go_simp; try with_reducible rfl
      try simp only [Act.put, List.getElem_toArray, List.getElem_cons_zero, List.getElem_cons_succ, List.setIfInBounds_toArray, List.set_cons_zero, List.set_cons_succ]
      refine wpAnyH_take (i := 7) (v := ?_) rfl (by kernel_rfl) (by kernel_rfl) (by kernel_rfl) (fun _ _ _ h => h) (Or.inl ⟨by rfl, ?_⟩) (by assumption) ?_
      rotate_left
      · intro w hSw; (try dsimp only at hSw); go_simp; try with_reducible rfl
      try simp only [Act.put, List.getElem_toArray, List.getElem_cons_zero, List.getElem_cons_succ, List.setIfInBounds_toArray, List.set_cons_zero, List.set_cons_succ]
      refine wpAnyH_ready (rs := [8]) (by kernel_rfl) (by simp) ?_
      refine AllReadyH.cons rfl (fun K hK => ?_) AllReadyH.nil
      (rw [if_pos (by rfl)]; go_simp; go_at_call 130; refine (HC.out _ (Below.drewB hb.out)).mono ?_; rintro e w2 ⟨rfl, hb2⟩; have hb3 := hb.out.trans ((Below.undrew hb2).mono hb.out.size); have S2 := Hcl.out w2 hb3; go_wp2_with fail)
      refine hK.out _ _ ?_ (fun hHeld => ?_)
      · first | assumption | go_keep
      clear hK K
      try simp only [Act.put, List.getElem_toArray, List.getElem_cons_zero, List.getElem_cons_succ, List.setIfInBounds_toArray, List.set_cons_zero, List.set_cons_succ]
      refine wpAnyH_take (i := 9) (v := ?_) rfl (by kernel_rfl) (by kernel_rfl) (by kernel_rfl) (fun _ _ _ h => h) (Or.inl ⟨by rfl, ?_⟩) (by assumption) ?_
      rotate_left
      · intro w hSw; (try dsimp only at hSw); go_simp; try with_reducible rfl
      try simp only [Act.put, List.getElem_toArray, List.getElem_cons_zero, List.getElem_cons_succ, List.setIfInBounds_toArray, List.set_cons_zero, List.set_cons_succ]
      refine wpAnyH_done (by kernel_rfl) ?_ _
      go_wp2_with fail
      go_roundw
      case rel => exact ⟨k + 1, by go_num, by omega, hb3⟩
      case measure => simp [intOf]; omega
    · go_wp2_with fail
      go_ret
      exact ⟨rfl, hb.out⟩
set_option maxHeartbeats 2000000 in
theorem eqKernel_c (k : Kx.Kernel) (vm vi ve vc um ui ue uc : Value) (w : World) (h : RK w vm vi ve vc k) (h' : RK w um ui ue uc k) : Calls Tryz.prog 20 #[.agg #[vm, vi, ve, vc], .agg #[um, ui, ue, uc]] w (Yes w) := by
  have H := Lib.hid h; have H' := Lib.hid h'
  clear h h'
  obtain ⟨w0, hw0⟩ : ∃ w0, w.alloc (.cells #[vm, vi, ve, vc] 38) = w0 := ⟨_, rfl⟩
  obtain ⟨w1, hw1⟩ : ∃ w1, w0.alloc (.cells #[um, ui, ue, uc] 38) = w1 := ⟨_, rfl⟩
  have B0 := Lib.hid (show Below w.heap.size w w0 from hw0 ▸ Below.lit (Below.refl _ _) _)
  have B1 := Lib.hid (show Below w0.heap.size w0 w1 from hw1 ▸ Below.lit (Below.refl _ _) _)
  have X0 := Lib.hid (show BX w1 w.heap.size 38 [vm, vi, ve, vc] from (hw0 ▸ BX.new w _ _ : BX w0 _ _ _).below B1.out)
  have X1 := Lib.hid (show BX w1 w0.heap.size 38 [um, ui, ue, uc] from (hw1 ▸ BX.new w0 _ _ : BX w1 _ _ _))
  have Bw := Lib.hid (B0.out.trans (B1.out.mono B0.out.size))
  clear B0 B1
  have p0 : w1.cell? ⟨w.heap.size, 0, none⟩ = some (vm) := X0.out.cell 0
  have q0 : w1.cell? ⟨w0.heap.size, 0, none⟩ = some (um) := X1.out.cell 0
  have p1 : w1.cell? ⟨w.heap.size, 1, none⟩ = some (vi) := X0.out.cell 1
  have q1 : w1.cell? ⟨w0.heap.size, 1, none⟩ = some (ui) := X1.out.cell 1
  have p2 : w1.cell? ⟨w.heap.size, 2, none⟩ = some (ve) := X0.out.cell 2
  have q2 : w1.cell? ⟨w0.heap.size, 2, none⟩ = some (ue) := X1.out.cell 2
  have p3 : w1.cell? ⟨w.heap.size, 3, none⟩ = some (vc) := X0.out.cell 3
  have q3 : w1.cell? ⟨w0.heap.size, 3, none⟩ = some (uc) := X1.out.cell 3
  have HC := Lib.hid (eqIntSS_c k.mem _ _ w1 (H.out.m.below Bw.out) (H'.out.m.below Bw.out))
  go_enter Tryz.func20, Tryz.ntmps20
  go_wp2_with fail
  refine HC.out.mono ?_; rintro e w2 ⟨rfl, hb⟩
  clear HC p0 q0 p1 q1 p2 q2 p3 q3
  replace X0 := Lib.hid (X0.out.below hb)
  replace X1 := Lib.hid (X1.out.below hb)
  replace Bw := Lib.hid (Bw.out.trans (hb.mono Bw.out.size))
  clear hb
  have p0 : w2.cell? ⟨w.heap.size, 0, none⟩ = some (vm) := X0.out.cell 0
  have q0 : w2.cell? ⟨w0.heap.size, 0, none⟩ = some (um) := X1.out.cell 0
  have p1 : w2.cell? ⟨w.heap.size, 1, none⟩ = some (vi) := X0.out.cell 1
  have q1 : w2.cell? ⟨w0.heap.size, 1, none⟩ = some (ui) := X1.out.cell 1
  have p2 : w2.cell? ⟨w.heap.size, 2, none⟩ = some (ve) := X0.out.cell 2
  have q2 : w2.cell? ⟨w0.heap.size, 2, none⟩ = some (ue) := X1.out.cell 2
  have p3 : w2.cell? ⟨w.heap.size, 3, none⟩ = some (vc) := X0.out.cell 3
  have q3 : w2.cell? ⟨w0.heap.size, 3, none⟩ = some (uc) := X1.out.cell 3
  have HC := Lib.hid (eqInfoS_c k.infos _ _ w2 (RS.below H.out.i Bw.out) (RS.below H'.out.i Bw.out))
  go_wp2_with fail
  refine HC.out.mono ?_; rintro e w3 ⟨rfl, hb⟩
  clear HC p0 q0 p1 q1 p2 q2 p3 q3
  replace X0 := Lib.hid (X0.out.below hb)
  replace X1 := Lib.hid (X1.out.below hb)
  replace Bw := Lib.hid (Bw.out.trans (hb.mono Bw.out.size))
  clear hb
  have p0 : w3.cell? ⟨w.heap.size, 0, none⟩ = some (vm) := X0.out.cell 0
  have q0 : w3.cell? ⟨w0.heap.size, 0, none⟩ = some (um) := X1.out.cell 0
  have p1 : w3.cell? ⟨w.heap.size, 1, none⟩ = some (vi) := X0.out.cell 1
  have q1 : w3.cell? ⟨w0.heap.size, 1, none⟩ = some (ui) := X1.out.cell 1
  have p2 : w3.cell? ⟨w.heap.size, 2, none⟩ = some (ve) := X0.out.cell 2
  have q2 : w3.cell? ⟨w0.heap.size, 2, none⟩ = some (ue) := X1.out.cell 2
  have p3 : w3.cell? ⟨w.heap.size, 3, none⟩ = some (vc) := X0.out.cell 3
  have q3 : w3.cell? ⟨w0.heap.size, 3, none⟩ = some (uc) := X1.out.cell 3
  have HC := Lib.hid (eqEnvS_c k.envs _ _ w3 (H.out.e.below Bw.out) (H'.out.e.below Bw.out))
  go_wp2_with fail
  refine HC.out.mono ?_; rintro e w4 ⟨rfl, hb⟩
  clear HC p0 q0 p1 q1 p2 q2 p3 q3
  replace X0 := Lib.hid (X0.out.below hb)
  replace X1 := Lib.hid (X1.out.below hb)
  replace Bw := Lib.hid (Bw.out.trans (hb.mono Bw.out.size))
  clear hb
  have p0 : w4.cell? ⟨w.heap.size, 0, none⟩ = some (vm) := X0.out.cell 0
  have q0 : w4.cell? ⟨w0.heap.size, 0, none⟩ = some (um) := X1.out.cell 0
  have p1 : w4.cell? ⟨w.heap.size, 1, none⟩ = some (vi) := X0.out.cell 1
  have q1 : w4.cell? ⟨w0.heap.size, 1, none⟩ = some (ui) := X1.out.cell 1
  have p2 : w4.cell? ⟨w.heap.size, 2, none⟩ = some (ve) := X0.out.cell 2
  have q2 : w4.cell? ⟨w0.heap.size, 2, none⟩ = some (ue) := X1.out.cell 2
  have p3 : w4.cell? ⟨w.heap.size, 3, none⟩ = some (vc) := X0.out.cell 3
  have q3 : w4.cell? ⟨w0.heap.size, 3, none⟩ = some (uc) := X1.out.cell 3
  have HC := Lib.hid (eqCachedS_c k.cache _ _ w4 (RS.below H.out.c Bw.out) (RS.below H'.out.c Bw.out))
  go_wp2_with fail
  refine HC.out.mono ?_; rintro e w5 ⟨rfl, hb⟩
  clear HC p0 q0 p1 q1 p2 q2 p3 q3
  replace X0 := Lib.hid (X0.out.below hb)
  replace X1 := Lib.hid (X1.out.below hb)
  replace Bw := Lib.hid (Bw.out.trans (hb.mono Bw.out.size))
  clear hb
  have p0 : w5.cell? ⟨w.heap.size, 0, none⟩ = some (vm) := X0.out.cell 0
  have q0 : w5.cell? ⟨w0.heap.size, 0, none⟩ = some (um) := X1.out.cell 0
  have p1 : w5.cell? ⟨w.heap.size, 1, none⟩ = some (vi) := X0.out.cell 1
  have q1 : w5.cell? ⟨w0.heap.size, 1, none⟩ = some (ui) := X1.out.cell 1
  have p2 : w5.cell? ⟨w.heap.size, 2, none⟩ = some (ve) := X0.out.cell 2
  have q2 : w5.cell? ⟨w0.heap.size, 2, none⟩ = some (ue) := X1.out.cell 2
  have p3 : w5.cell? ⟨w.heap.size, 3, none⟩ = some (vc) := X0.out.cell 3
  have q3 : w5.cell? ⟨w0.heap.size, 3, none⟩ = some (uc) := X1.out.cell 3
  go_wp2_with fail
  go_ret
  exact ⟨rfl, Bw.out⟩
set_option maxHeartbeats 2000000 in
theorem eqPager_c (p : Kx.Pager) (vm vi ve vc vs vl vp um ui ue uc us ul up : Value) (hand limit : Int) (w : World) (h : RP w vm vi ve vc vs vl vp p) (h' : RP w um ui ue uc us ul up p) : Calls Tryz.prog 11 #[.agg #[vm, vi, ve, vc, vs, vl, vp, .int .i64 hand, .int .i64 limit], .agg #[um, ui, ue, uc, us, ul, up, .int .i64 hand, .int .i64 limit]] w (Yes w) := by
  have H := Lib.hid h; have H' := Lib.hid h'
  clear h h'
  obtain ⟨w0, hw0⟩ : ∃ w0, w.alloc (.cells #[vm, vi, ve, vc, vs, vl, vp, .int .i64 hand, .int .i64 limit] 41) = w0 := ⟨_, rfl⟩
  obtain ⟨w1, hw1⟩ : ∃ w1, w0.alloc (.cells #[um, ui, ue, uc, us, ul, up, .int .i64 hand, .int .i64 limit] 41) = w1 := ⟨_, rfl⟩
  have B0 := Lib.hid (show Below w.heap.size w w0 from hw0 ▸ Below.lit (Below.refl _ _) _)
  have B1 := Lib.hid (show Below w0.heap.size w0 w1 from hw1 ▸ Below.lit (Below.refl _ _) _)
  have X0 := Lib.hid (show BX w1 w.heap.size 41 [vm, vi, ve, vc, vs, vl, vp, .int .i64 hand, .int .i64 limit] from (hw0 ▸ BX.new w _ _ : BX w0 _ _ _).below B1.out)
  have X1 := Lib.hid (show BX w1 w0.heap.size 41 [um, ui, ue, uc, us, ul, up, .int .i64 hand, .int .i64 limit] from (hw1 ▸ BX.new w0 _ _ : BX w1 _ _ _))
  have Bw := Lib.hid (B0.out.trans (B1.out.mono B0.out.size))
  clear B0 B1
  have p0 : w1.cell? ⟨w.heap.size, 0, none⟩ = some (vm) := X0.out.cell 0
  have q0 : w1.cell? ⟨w0.heap.size, 0, none⟩ = some (um) := X1.out.cell 0
  have p1 : w1.cell? ⟨w.heap.size, 1, none⟩ = some (vi) := X0.out.cell 1
  have q1 : w1.cell? ⟨w0.heap.size, 1, none⟩ = some (ui) := X1.out.cell 1
  have p2 : w1.cell? ⟨w.heap.size, 2, none⟩ = some (ve) := X0.out.cell 2
  have q2 : w1.cell? ⟨w0.heap.size, 2, none⟩ = some (ue) := X1.out.cell 2
  have p3 : w1.cell? ⟨w.heap.size, 3, none⟩ = some (vc) := X0.out.cell 3
  have q3 : w1.cell? ⟨w0.heap.size, 3, none⟩ = some (uc) := X1.out.cell 3
  have p4 : w1.cell? ⟨w.heap.size, 4, none⟩ = some (vs) := X0.out.cell 4
  have q4 : w1.cell? ⟨w0.heap.size, 4, none⟩ = some (us) := X1.out.cell 4
  have p5 : w1.cell? ⟨w.heap.size, 5, none⟩ = some (vl) := X0.out.cell 5
  have q5 : w1.cell? ⟨w0.heap.size, 5, none⟩ = some (ul) := X1.out.cell 5
  have p6 : w1.cell? ⟨w.heap.size, 6, none⟩ = some (vp) := X0.out.cell 6
  have q6 : w1.cell? ⟨w0.heap.size, 6, none⟩ = some (up) := X1.out.cell 6
  have p7 : w1.cell? ⟨w.heap.size, 7, none⟩ = some (.int .i64 hand) := X0.out.cell 7
  have q7 : w1.cell? ⟨w0.heap.size, 7, none⟩ = some (.int .i64 hand) := X1.out.cell 7
  have p8 : w1.cell? ⟨w.heap.size, 8, none⟩ = some (.int .i64 limit) := X0.out.cell 8
  have q8 : w1.cell? ⟨w0.heap.size, 8, none⟩ = some (.int .i64 limit) := X1.out.cell 8
  have HC := Lib.hid (eqKernel_c p.k _ _ _ _ _ _ _ _ w1 (H.out.k.below Bw.out) (H'.out.k.below Bw.out))
  go_enter Tryz.func11, Tryz.ntmps11
  go_wp2_with fail
  refine HC.out.mono ?_; rintro e w2 ⟨rfl, hb⟩
  clear HC p0 q0 p1 q1 p2 q2 p3 q3 p4 q4 p5 q5 p6 q6 p7 q7 p8 q8
  replace X0 := Lib.hid (X0.out.below hb)
  replace X1 := Lib.hid (X1.out.below hb)
  replace Bw := Lib.hid (Bw.out.trans (hb.mono Bw.out.size))
  clear hb
  have p0 : w2.cell? ⟨w.heap.size, 0, none⟩ = some (vm) := X0.out.cell 0
  have q0 : w2.cell? ⟨w0.heap.size, 0, none⟩ = some (um) := X1.out.cell 0
  have p1 : w2.cell? ⟨w.heap.size, 1, none⟩ = some (vi) := X0.out.cell 1
  have q1 : w2.cell? ⟨w0.heap.size, 1, none⟩ = some (ui) := X1.out.cell 1
  have p2 : w2.cell? ⟨w.heap.size, 2, none⟩ = some (ve) := X0.out.cell 2
  have q2 : w2.cell? ⟨w0.heap.size, 2, none⟩ = some (ue) := X1.out.cell 2
  have p3 : w2.cell? ⟨w.heap.size, 3, none⟩ = some (vc) := X0.out.cell 3
  have q3 : w2.cell? ⟨w0.heap.size, 3, none⟩ = some (uc) := X1.out.cell 3
  have p4 : w2.cell? ⟨w.heap.size, 4, none⟩ = some (vs) := X0.out.cell 4
  have q4 : w2.cell? ⟨w0.heap.size, 4, none⟩ = some (us) := X1.out.cell 4
  have p5 : w2.cell? ⟨w.heap.size, 5, none⟩ = some (vl) := X0.out.cell 5
  have q5 : w2.cell? ⟨w0.heap.size, 5, none⟩ = some (ul) := X1.out.cell 5
  have p6 : w2.cell? ⟨w.heap.size, 6, none⟩ = some (vp) := X0.out.cell 6
  have q6 : w2.cell? ⟨w0.heap.size, 6, none⟩ = some (up) := X1.out.cell 6
  have p7 : w2.cell? ⟨w.heap.size, 7, none⟩ = some (.int .i64 hand) := X0.out.cell 7
  have q7 : w2.cell? ⟨w0.heap.size, 7, none⟩ = some (.int .i64 hand) := X1.out.cell 7
  have p8 : w2.cell? ⟨w.heap.size, 8, none⟩ = some (.int .i64 limit) := X0.out.cell 8
  have q8 : w2.cell? ⟨w0.heap.size, 8, none⟩ = some (.int .i64 limit) := X1.out.cell 8
  have HC := Lib.hid (eqIntSS_c p.swap _ _ w2 (H.out.s.below Bw.out) (H'.out.s.below Bw.out))
  go_wp2_with fail
  refine HC.out.mono ?_; rintro e w3 ⟨rfl, hb⟩
  clear HC p0 q0 p1 q1 p2 q2 p3 q3 p4 q4 p5 q5 p6 q6 p7 q7 p8 q8
  replace X0 := Lib.hid (X0.out.below hb)
  replace X1 := Lib.hid (X1.out.below hb)
  replace Bw := Lib.hid (Bw.out.trans (hb.mono Bw.out.size))
  clear hb
  have p0 : w3.cell? ⟨w.heap.size, 0, none⟩ = some (vm) := X0.out.cell 0
  have q0 : w3.cell? ⟨w0.heap.size, 0, none⟩ = some (um) := X1.out.cell 0
  have p1 : w3.cell? ⟨w.heap.size, 1, none⟩ = some (vi) := X0.out.cell 1
  have q1 : w3.cell? ⟨w0.heap.size, 1, none⟩ = some (ui) := X1.out.cell 1
  have p2 : w3.cell? ⟨w.heap.size, 2, none⟩ = some (ve) := X0.out.cell 2
  have q2 : w3.cell? ⟨w0.heap.size, 2, none⟩ = some (ue) := X1.out.cell 2
  have p3 : w3.cell? ⟨w.heap.size, 3, none⟩ = some (vc) := X0.out.cell 3
  have q3 : w3.cell? ⟨w0.heap.size, 3, none⟩ = some (uc) := X1.out.cell 3
  have p4 : w3.cell? ⟨w.heap.size, 4, none⟩ = some (vs) := X0.out.cell 4
  have q4 : w3.cell? ⟨w0.heap.size, 4, none⟩ = some (us) := X1.out.cell 4
  have p5 : w3.cell? ⟨w.heap.size, 5, none⟩ = some (vl) := X0.out.cell 5
  have q5 : w3.cell? ⟨w0.heap.size, 5, none⟩ = some (ul) := X1.out.cell 5
  have p6 : w3.cell? ⟨w.heap.size, 6, none⟩ = some (vp) := X0.out.cell 6
  have q6 : w3.cell? ⟨w0.heap.size, 6, none⟩ = some (up) := X1.out.cell 6
  have p7 : w3.cell? ⟨w.heap.size, 7, none⟩ = some (.int .i64 hand) := X0.out.cell 7
  have q7 : w3.cell? ⟨w0.heap.size, 7, none⟩ = some (.int .i64 hand) := X1.out.cell 7
  have p8 : w3.cell? ⟨w.heap.size, 8, none⟩ = some (.int .i64 limit) := X0.out.cell 8
  have q8 : w3.cell? ⟨w0.heap.size, 8, none⟩ = some (.int .i64 limit) := X1.out.cell 8
  have HC := Lib.hid (eqIntS_yes p.low _ _ w3 (H.out.l.below Bw.out) (H'.out.l.below Bw.out))
  go_wp2_with fail
  refine HC.out.mono ?_; rintro e w4 ⟨rfl, hb⟩
  clear HC p0 q0 p1 q1 p2 q2 p3 q3 p4 q4 p5 q5 p6 q6 p7 q7 p8 q8
  replace X0 := Lib.hid (X0.out.below hb)
  replace X1 := Lib.hid (X1.out.below hb)
  replace Bw := Lib.hid (Bw.out.trans (hb.mono Bw.out.size))
  clear hb
  have p0 : w4.cell? ⟨w.heap.size, 0, none⟩ = some (vm) := X0.out.cell 0
  have q0 : w4.cell? ⟨w0.heap.size, 0, none⟩ = some (um) := X1.out.cell 0
  have p1 : w4.cell? ⟨w.heap.size, 1, none⟩ = some (vi) := X0.out.cell 1
  have q1 : w4.cell? ⟨w0.heap.size, 1, none⟩ = some (ui) := X1.out.cell 1
  have p2 : w4.cell? ⟨w.heap.size, 2, none⟩ = some (ve) := X0.out.cell 2
  have q2 : w4.cell? ⟨w0.heap.size, 2, none⟩ = some (ue) := X1.out.cell 2
  have p3 : w4.cell? ⟨w.heap.size, 3, none⟩ = some (vc) := X0.out.cell 3
  have q3 : w4.cell? ⟨w0.heap.size, 3, none⟩ = some (uc) := X1.out.cell 3
  have p4 : w4.cell? ⟨w.heap.size, 4, none⟩ = some (vs) := X0.out.cell 4
  have q4 : w4.cell? ⟨w0.heap.size, 4, none⟩ = some (us) := X1.out.cell 4
  have p5 : w4.cell? ⟨w.heap.size, 5, none⟩ = some (vl) := X0.out.cell 5
  have q5 : w4.cell? ⟨w0.heap.size, 5, none⟩ = some (ul) := X1.out.cell 5
  have p6 : w4.cell? ⟨w.heap.size, 6, none⟩ = some (vp) := X0.out.cell 6
  have q6 : w4.cell? ⟨w0.heap.size, 6, none⟩ = some (up) := X1.out.cell 6
  have p7 : w4.cell? ⟨w.heap.size, 7, none⟩ = some (.int .i64 hand) := X0.out.cell 7
  have q7 : w4.cell? ⟨w0.heap.size, 7, none⟩ = some (.int .i64 hand) := X1.out.cell 7
  have p8 : w4.cell? ⟨w.heap.size, 8, none⟩ = some (.int .i64 limit) := X0.out.cell 8
  have q8 : w4.cell? ⟨w0.heap.size, 8, none⟩ = some (.int .i64 limit) := X1.out.cell 8
  have HC := Lib.hid (eqPageS_c p.pages _ _ w4 (RS.below H.out.g Bw.out) (RS.below H'.out.g Bw.out))
  go_wp2_with fail
  refine HC.out.mono ?_; rintro e w5 ⟨rfl, hb⟩
  clear HC p0 q0 p1 q1 p2 q2 p3 q3 p4 q4 p5 q5 p6 q6 p7 q7 p8 q8
  replace X0 := Lib.hid (X0.out.below hb)
  replace X1 := Lib.hid (X1.out.below hb)
  replace Bw := Lib.hid (Bw.out.trans (hb.mono Bw.out.size))
  clear hb
  have p0 : w5.cell? ⟨w.heap.size, 0, none⟩ = some (vm) := X0.out.cell 0
  have q0 : w5.cell? ⟨w0.heap.size, 0, none⟩ = some (um) := X1.out.cell 0
  have p1 : w5.cell? ⟨w.heap.size, 1, none⟩ = some (vi) := X0.out.cell 1
  have q1 : w5.cell? ⟨w0.heap.size, 1, none⟩ = some (ui) := X1.out.cell 1
  have p2 : w5.cell? ⟨w.heap.size, 2, none⟩ = some (ve) := X0.out.cell 2
  have q2 : w5.cell? ⟨w0.heap.size, 2, none⟩ = some (ue) := X1.out.cell 2
  have p3 : w5.cell? ⟨w.heap.size, 3, none⟩ = some (vc) := X0.out.cell 3
  have q3 : w5.cell? ⟨w0.heap.size, 3, none⟩ = some (uc) := X1.out.cell 3
  have p4 : w5.cell? ⟨w.heap.size, 4, none⟩ = some (vs) := X0.out.cell 4
  have q4 : w5.cell? ⟨w0.heap.size, 4, none⟩ = some (us) := X1.out.cell 4
  have p5 : w5.cell? ⟨w.heap.size, 5, none⟩ = some (vl) := X0.out.cell 5
  have q5 : w5.cell? ⟨w0.heap.size, 5, none⟩ = some (ul) := X1.out.cell 5
  have p6 : w5.cell? ⟨w.heap.size, 6, none⟩ = some (vp) := X0.out.cell 6
  have q6 : w5.cell? ⟨w0.heap.size, 6, none⟩ = some (up) := X1.out.cell 6
  have p7 : w5.cell? ⟨w.heap.size, 7, none⟩ = some (.int .i64 hand) := X0.out.cell 7
  have q7 : w5.cell? ⟨w0.heap.size, 7, none⟩ = some (.int .i64 hand) := X1.out.cell 7
  have p8 : w5.cell? ⟨w.heap.size, 8, none⟩ = some (.int .i64 limit) := X0.out.cell 8
  have q8 : w5.cell? ⟨w0.heap.size, 8, none⟩ = some (.int .i64 limit) := X1.out.cell 8
  go_wp2_with fail
  go_ret
  exact ⟨rfl, Bw.out⟩
end Go.Proofs.YtfnpjdgjceiklaaGreatDoor
