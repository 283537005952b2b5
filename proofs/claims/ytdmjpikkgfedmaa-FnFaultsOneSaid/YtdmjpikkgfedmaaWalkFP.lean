/- Plain laws of the answers of FaultsFirst, FaultsLast, FaultsBest. -/
import Derived.Test.YtdmjpikkgfedmaaWalkN
namespace Go.Proofs.Ytdmjpikkgfedmaa
open Go.RowKit

def okF (xs : List Int) (f : Int) : Bool := traceOk xs && inR f 1 12

theorem faultsR_bad {xs : List Int} {f : Int} {used : List Int → Int → List Int} {goes : List Int → List Int → Nat} (h : okF xs f = false) : faultsR xs f used goes = -1 := by
  unfold faultsR; unfold okF at h; rw [h]; rfl
theorem faultsR_ok {xs : List Int} {f : Int} {used : List Int → Int → List Int} {goes : List Int → List Int → Nat} (h : okF xs f = true) : faultsR xs f used goes = (Xp.runP f.toNat used goes xs [] : Nat) := by
  unfold faultsR; unfold okF at h; rw [h]; rfl
theorem okF_parts {xs : List Int} {f : Int} (h : okF xs f = true) : traceOk xs = true ∧ 1 ≤ f ∧ f ≤ 12 := by
  unfold okF at h
  rw [Bool.and_eq_true] at h
  exact ⟨h.1, inR_true.1 h.2⟩
theorem okF_of {xs : List Int} {f : Int} (h : traceOk xs = true) (h1 : 1 ≤ f) (h2 : f ≤ 12) : okF xs f = true := by
  unfold okF; rw [h, inR_true.2 ⟨h1, h2⟩]; rfl
theorem traceOk_iff {xs : List Int} : traceOk xs = true ↔ (∀ x, x ∈ xs → 0 ≤ x ∧ x ≤ 15) ∧ xs.length ≤ 24 := by
  simp only [traceOk, Bool.and_eq_true, List.all_eq_true, decide_eq_true_eq]
  exact ⟨fun h => ⟨fun x hx => inR_true.1 (h.1 x hx), h.2⟩, fun h => ⟨fun x hx => inR_true.2 (h.1 x hx), h.2⟩⟩

theorem usedLast_perm : Xp.Perms Xp.usedLast := fun held p hp => by
  unfold Xp.usedLast
  exact (List.perm_append_comm.trans (List.perm_cons_erase hp).symm)
theorem stay_perm : Xp.Perms (fun h _ => h) := fun _ _ _ => List.Perm.refl _
theorem first_picks : Xp.Picks (fun _ _ => 0) := fun held _ hne => by
  cases held with
  | nil => exact absurd rfl hne
  | cons a l => exact ⟨a, by simp, by simp⟩

/-! ### more frames; nothing is better than the best -/
theorem best_least {xs : List Int} {f : Int} (h : okF xs f = true) : faultsBest xs f ≤ faultsLast xs f ∧ faultsBest xs f ≤ faultsFirst xs f := by
  obtain ⟨_, h1, _⟩ := okF_parts h
  unfold faultsBest faultsLast faultsFirst
  rw [faultsR_ok h, faultsR_ok h, faultsR_ok h]
  have hp : 0 < f.toNat := by omega
  refine ⟨Int.ofNat_le.2 ?_, Int.ofNat_le.2 ?_⟩
  · exact Xp.best_le hp Xp.goesBest_late xs List.nodup_nil (Nat.zero_le _) (Xp.can_run hp usedLast_perm first_picks xs List.nodup_nil (Nat.zero_le _))
  · exact Xp.best_le hp Xp.goesBest_late xs List.nodup_nil (Nat.zero_le _) (Xp.can_run hp stay_perm first_picks xs List.nodup_nil (Nat.zero_le _))

theorem last_more {xs : List Int} {f : Int} (h : okF xs f = true) (hf : f < 12) : faultsLast xs (f + 1) ≤ faultsLast xs f ∧ faultsBest xs (f + 1) ≤ faultsBest xs f := by
  obtain ⟨h0, h1, _⟩ := okF_parts h
  have h2 : okF xs (f + 1) = true := okF_of h0 (by omega) (by omega)
  unfold faultsBest faultsLast
  rw [faultsR_ok h, faultsR_ok h, faultsR_ok h2, faultsR_ok h2]
  have hp : 0 < f.toNat := by omega
  have e : (f + 1).toNat = f.toNat + 1 := by omega
  rw [e]
  refine ⟨Int.ofNat_le.2 ?_, Int.ofNat_le.2 ?_⟩
  · have a := Xp.lru_run hp xs []
    have b := Xp.lru_run (f := f.toNat + 1) (by omega) xs []
    simp only [Xp.stk, List.take_nil, List.reverse_nil] at a b
    rw [a, b]
    exact Xp.lastCount_more (by omega) xs []
  · refine Xp.best_le (by omega) Xp.goesBest_late xs List.nodup_nil (Nat.zero_le _) ?_
    exact Xp.can_sub (Nat.le_succ _) hp xs List.nodup_nil List.nodup_nil (Nat.zero_le _) (fun _ h => h) (Nat.zero_le _) (Xp.can_run hp stay_perm Xp.goesBest_picks xs List.nodup_nil (Nat.zero_le _))

/-! ### each page comes once at least -/
theorem newCount_list : ∀ (t M : List Int), ∃ L : List Int, L.Nodup ∧ (∀ x, x ∈ L ↔ x ∈ t ∧ x ∉ M) ∧ L.length = Xp.newCount t M
  | [], M => ⟨[], List.nodup_nil, by simp, rfl⟩
  | p :: t, M => by
    by_cases hp : p ∈ M
    · obtain ⟨L, h1, h2, h3⟩ := newCount_list t M
      refine ⟨L, h1, fun x => ?_, by rw [Xp.newCount, if_pos hp, h3]⟩
      rw [h2]
      constructor
      · rintro ⟨a, b⟩; exact ⟨List.mem_cons_of_mem _ a, b⟩
      · rintro ⟨a, b⟩
        rcases List.mem_cons.1 a with rfl | a
        · exact absurd hp b
        · exact ⟨a, b⟩
    · obtain ⟨L, h1, h2, h3⟩ := newCount_list t (p :: M)
      refine ⟨p :: L, List.nodup_cons.2 ⟨fun h => ((h2 p).1 h).2 (by simp), h1⟩, fun x => ?_, by rw [Xp.newCount, if_neg hp, List.length_cons, h3]; omega⟩
      rw [List.mem_cons, h2]
      constructor
      · rintro (rfl | ⟨a, b⟩)
        · exact ⟨by simp, hp⟩
        · exact ⟨List.mem_cons_of_mem _ a, fun h => b (List.mem_cons_of_mem _ h)⟩
      · rintro ⟨a, b⟩
        by_cases e : x = p
        · exact .inl e
        · rcases List.mem_cons.1 a with rfl | a
          · exact absurd rfl e
          · exact .inr ⟨a, fun h => by rcases List.mem_cons.1 h with rfl | h <;> contradiction⟩
theorem newCount_same {t u : List Int} (h : ∀ x, x ∈ t ↔ x ∈ u) : Xp.newCount t [] = Xp.newCount u [] := by
  obtain ⟨L, h1, h2, h3⟩ := newCount_list t []
  obtain ⟨K, k1, k2, k3⟩ := newCount_list u []
  rw [← h3, ← k3]
  have e : ∀ x, x ∈ L ↔ x ∈ K := fun x => by rw [h2, k2, h]
  exact Nat.le_antisymm (Xp.sub_len h1 (fun x hx => (e x).1 hx)) (Xp.sub_len k1 (fun x hx => (e x).2 hx))

theorem best_ge {xs : List Int} {f : Int} (h : okF xs f = true) : (Xp.newCount xs [] : Int) ≤ faultsBest xs f ∧ faultsBest xs f ≤ xs.length := by
  unfold faultsBest
  rw [faultsR_ok h]
  exact ⟨Int.ofNat_le.2 (Xp.run_ge (fun h p x hx => .inl hx) xs [] [] (fun _ h => h)), Int.ofNat_le.2 (Xp.run_le_length xs [])⟩
theorem enough {xs : List Int} {f : Int} (h : okF xs f = true) (hn : (Xp.newCount xs [] : Int) ≤ f) : faultsBest xs f = Xp.newCount xs [] ∧ faultsLast xs f = Xp.newCount xs [] ∧ faultsFirst xs f = Xp.newCount xs [] := by
  unfold faultsBest faultsLast faultsFirst
  rw [faultsR_ok h, faultsR_ok h, faultsR_ok h]
  have hl : Xp.newCount xs [] + ([] : List Int).length ≤ f.toNat := by simp; omega
  exact ⟨congrArg Int.ofNat (Xp.run_eq (fun _ _ _ => List.Perm.refl _) xs [] hl), congrArg Int.ofNat (Xp.run_eq (fun h p hp => usedLast_perm h p hp) xs [] hl), congrArg Int.ofNat (Xp.run_eq (fun _ _ _ => List.Perm.refl _) xs [] hl)⟩

/-! ### one frame -/
theorem one_frame {xs : List Int} (h : traceOk xs = true) : faultsFirst xs 1 = Xp.changes none xs ∧ faultsLast xs 1 = Xp.changes none xs ∧ faultsBest xs 1 = Xp.changes none xs := by
  have ho : okF xs 1 = true := okF_of h (by omega) (by omega)
  unfold faultsBest faultsLast faultsFirst
  rw [faultsR_ok ho, faultsR_ok ho, faultsR_ok ho]
  refine ⟨congrArg Int.ofNat ?_, congrArg Int.ofNat ?_, congrArg Int.ofNat ?_⟩
  · exact Xp.run_one (fun _ => rfl) (fun _ _ => rfl) xs none
  · exact Xp.run_one (fun p => by simp [Xp.usedLast]) (fun _ _ => rfl) xs none
  · exact Xp.run_one (fun _ => rfl) (fun a t => by have := Xp.argk_lt (fun v => t.idxOf v) (l := [a]) (by simp); simpa [Xp.goesBest] using this) xs none

/-! ### a use that is repeated -/
theorem again_list {xs : List Int} {k : Nat} (hk : k < xs.length) : xs.take (k + 1) ++ xs.drop k = xs.take k ++ xs[k] :: xs[k] :: xs.drop (k + 1) ∧ xs = xs.take k ++ xs[k] :: xs.drop (k + 1) := by
  have e : xs.drop k = xs[k] :: xs.drop (k + 1) := List.drop_eq_getElem_cons hk
  refine ⟨by rw [List.take_succ_eq_append_getElem hk, e, List.append_assoc]; rfl, ?_⟩
  conv => lhs; rw [← List.take_append_drop k xs, e]
theorem usedLast_mem (held : List Int) (p : Int) (_ : p ∈ held) : p ∈ Xp.usedLast held p := by simp [Xp.usedLast]
theorem usedLast_same (held : List Int) (p : Int) (_ : p ∈ held) (hn : held.Nodup) : Xp.usedLast (Xp.usedLast held p) p = Xp.usedLast held p := by
  have : p ∉ held.erase p := fun h => (hn.mem_erase_iff.1 h).1 rfl
  unfold Xp.usedLast
  rw [List.erase_append_right _ this]
  simp
theorem usedLast_end (h : List Int) (p : Int) (hp : p ∉ h) : Xp.usedLast (h ++ [p]) p = h ++ [p] := by
  unfold Xp.usedLast
  rw [List.erase_append_right _ hp]
  simp
theorem again {xs : List Int} {f : Int} {k : Nat} (h : okF xs f = true) (hk : k < xs.length) (hl : xs.length < 24) : faultsFirst (xs.take (k + 1) ++ xs.drop k) f = faultsFirst xs f ∧ faultsLast (xs.take (k + 1) ++ xs.drop k) f = faultsLast xs f ∧ faultsBest (xs.take (k + 1) ++ xs.drop k) f = faultsBest xs f := by
  obtain ⟨h0, h1, h2⟩ := okF_parts h
  have h3 : okF (xs.take (k + 1) ++ xs.drop k) f = true := by
    refine okF_of ?_ h1 h2
    rw [traceOk_iff] at h0 ⊢
    refine ⟨fun x hx => ?_, by simp; omega⟩
    rcases List.mem_append.1 hx with hx | hx
    · exact h0.1 x (List.mem_of_mem_take hx)
    · exact h0.1 x (List.mem_of_mem_drop hx)
  have hp : 0 < f.toNat := by omega
  unfold faultsBest faultsLast faultsFirst
  rw [faultsR_ok h, faultsR_ok h, faultsR_ok h, faultsR_ok h3, faultsR_ok h3, faultsR_ok h3]
  obtain ⟨e1, e2⟩ := again_list hk
  rw [e1]
  have e3 : ∀ used goes, Xp.runP f.toNat used goes xs [] = Xp.runP f.toNat used goes (xs.take k ++ xs[k] :: xs.drop (k + 1)) [] := fun used goes => by rw [← e2]
  rw [e3, e3, e3]
  refine ⟨congrArg Int.ofNat ?_, congrArg Int.ofNat ?_, congrArg Int.ofNat ?_⟩
  · exact Xp.run_again (fun _ _ h => h) (fun _ _ _ _ => rfl) (fun _ _ _ => rfl) (fun _ _ _ h => h) _ _ _ [] List.nodup_nil
  · exact Xp.run_again usedLast_mem usedLast_same usedLast_end (fun held p hp hn => (usedLast_perm held p hp).nodup_iff.2 hn) _ _ _ [] List.nodup_nil
  · refine Nat.le_antisymm ?_ ?_
    · exact Xp.best_le hp Xp.goesBest_late _ List.nodup_nil (Nat.zero_le _) ((Xp.can_again _ _ _).1 (Xp.can_run hp stay_perm Xp.goesBest_picks _ List.nodup_nil (Nat.zero_le _)))
    · exact Xp.best_le hp Xp.goesBest_late _ List.nodup_nil (Nat.zero_le _) ((Xp.can_again _ _ _).2 (Xp.can_run hp stay_perm Xp.goesBest_picks _ List.nodup_nil (Nat.zero_le _)))

/-! ### the first uses -/
theorem okF_take {xs : List Int} {f : Int} (h : okF xs f = true) (k : Nat) : okF (xs.take k) f = true := by
  obtain ⟨h0, h1, h2⟩ := okF_parts h
  refine okF_of ?_ h1 h2
  rw [traceOk_iff] at h0 ⊢
  exact ⟨fun x hx => h0.1 x (List.mem_of_mem_take hx), by simp; omega⟩
theorem begin_le {xs : List Int} {f : Int} (h : okF xs f = true) (k : Nat) : faultsFirst (xs.take k) f ≤ faultsFirst xs f ∧ faultsLast (xs.take k) f ≤ faultsLast xs f ∧ faultsBest (xs.take k) f ≤ faultsBest xs f := by
  obtain ⟨h0, h1, h2⟩ := okF_parts h
  have h3 := okF_take h k
  have hp : 0 < f.toNat := by omega
  unfold faultsBest faultsLast faultsFirst
  rw [faultsR_ok h, faultsR_ok h, faultsR_ok h, faultsR_ok h3, faultsR_ok h3, faultsR_ok h3]
  have e3 : ∀ used goes, Xp.runP f.toNat used goes xs [] = Xp.runP f.toNat used goes (xs.take k ++ xs.drop k) [] := fun used goes => by rw [List.take_append_drop]
  rw [e3, e3, e3]
  refine ⟨Int.ofNat_le.2 (Xp.run_prefix _ _ _), Int.ofNat_le.2 (Xp.run_prefix _ _ _), Int.ofNat_le.2 ?_⟩
  exact Xp.best_le hp Xp.goesBest_late _ List.nodup_nil (Nat.zero_le _) (Xp.can_prefix _ _ (Xp.can_run hp stay_perm Xp.goesBest_picks _ List.nodup_nil (Nat.zero_le _)))

/-! ### other numbers -/
def turn (x : Int) : Int := 15 - x
theorem turn_inj : ∀ a b, turn a = turn b → a = b := fun a b h => by unfold turn at h; omega
theorem idxOf_turn (v : Int) : ∀ t : List Int, (t.map turn).idxOf (turn v) = t.idxOf v
  | [] => rfl
  | p :: t => by
    rw [List.map_cons, List.idxOf_cons, List.idxOf_cons, idxOf_turn v t]
    have : (turn p == turn v) = (p == v) := by
      by_cases e : p = v
      · subst e; simp
      · rw [beq_eq_false_iff_ne.2 e, beq_eq_false_iff_ne.2 (fun h => e (turn_inj _ _ h))]
    rw [this]
theorem IsArg_turn {t l : List Int} {b : Nat} (h : Xp.IsArg (fun v => t.idxOf v) l b) : Xp.IsArg (fun v => (t.map turn).idxOf v) (l.map turn) b := by
  obtain ⟨h1, h2, h3⟩ := h
  refine ⟨by simpa using h1, fun j hj => ?_, fun j hj => ?_⟩
  · simp only [List.getElem_map, idxOf_turn]
    exact h2 j (by simpa using hj)
  · simp only [List.getElem_map, idxOf_turn]
    exact h3 j hj
theorem goesBest_turn (h t : List Int) : Xp.goesBest (h.map turn) (t.map turn) = Xp.goesBest h t := by
  by_cases hn : h = []
  · subst hn; rfl
  · exact (IsArg_turn (Xp.argk_is (fun v => t.idxOf v) hn)).eq.symm
theorem usedLast_turn (h : List Int) (p : Int) : Xp.usedLast (h.map turn) (turn p) = (Xp.usedLast h p).map turn := by
  unfold Xp.usedLast
  rw [List.map_append, List.erase_eq_eraseIdx_of_idxOf rfl, List.erase_eq_eraseIdx_of_idxOf rfl, idxOf_turn, Xp.eraseIdx_map']
  rfl
theorem names {xs : List Int} {f : Int} (h : okF xs f = true) : faultsFirst (xs.map turn) f = faultsFirst xs f ∧ faultsLast (xs.map turn) f = faultsLast xs f ∧ faultsBest (xs.map turn) f = faultsBest xs f := by
  obtain ⟨h0, h1, h2⟩ := okF_parts h
  have h3 : okF (xs.map turn) f = true := by
    refine okF_of ?_ h1 h2
    rw [traceOk_iff] at h0 ⊢
    refine ⟨fun x hx => ?_, by simpa using h0.2⟩
    obtain ⟨y, hy, rfl⟩ := List.mem_map.1 hx
    have := h0.1 y hy
    unfold turn; omega
  unfold faultsBest faultsLast faultsFirst
  rw [faultsR_ok h, faultsR_ok h, faultsR_ok h, faultsR_ok h3, faultsR_ok h3, faultsR_ok h3]
  refine ⟨congrArg Int.ofNat ?_, congrArg Int.ofNat ?_, congrArg Int.ofNat ?_⟩
  · exact Xp.run_names turn_inj (fun _ _ => rfl) (fun _ _ => rfl) xs []
  · exact Xp.run_names turn_inj usedLast_turn (fun _ _ => rfl) xs []
  · exact Xp.run_names turn_inj (fun _ _ => rfl) goesBest_turn xs []
end Go.Proofs.Ytdmjpikkgfedmaa
