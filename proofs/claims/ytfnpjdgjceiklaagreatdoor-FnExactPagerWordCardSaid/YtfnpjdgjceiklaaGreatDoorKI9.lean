/- Contracts: the impl's side: lists of frames, sorted and each once. -/
import Derived.Test.YtfnpjdgjceiklaaGreatDoorKI8
import Derived.Sort.OwnSortedInts
namespace Go.Proofs.YtfnpjdgjceiklaaGreatDoor
open Go.RowKit Go.Sort

theorem compact_inv (d : Array Int) (hs : ∀ i j, i < j → j < d.size → d[i]! ≤ d[j]!) : ∀ m, m ≤ d.size →
    (Lib.compactUpTo d m).Pairwise (· < ·) ∧ ∀ x, x ∈ Lib.compactUpTo d m ↔ ∃ j, j < m ∧ d[j]! = x
  | 0, _ => by simp [Lib.compactUpTo]
  | m + 1, h => by
    obtain ⟨h1, h2⟩ := compact_inv d hs m (by omega)
    rw [Lib.compactUpTo_succ]
    by_cases hk : Lib.keeps d m = true
    · rw [if_pos hk]
      constructor
      · rw [List.pairwise_append]
        refine ⟨h1, by simp, fun a ha b hb => ?_⟩
        obtain rfl : b = d[m]! := by simpa using hb
        obtain ⟨j, hj, rfl⟩ := (h2 a).1 ha
        have hm : m ≠ 0 := by omega
        unfold Lib.keeps at hk
        have hne : d[m]! ≠ d[m - 1]! := by simpa [hm] using hk
        have h3 := hs (m - 1) m (by omega) (by omega)
        by_cases e : j = m - 1
        · subst e; omega
        · have := hs j (m - 1) (by omega) (by omega); omega
      · intro x
        rw [List.mem_append, h2]
        constructor
        · rintro (⟨j, hj, rfl⟩ | hx)
          · exact ⟨j, by omega, rfl⟩
          · exact ⟨m, by omega, (List.mem_singleton.1 hx).symm⟩
        · rintro ⟨j, hj, rfl⟩
          by_cases e : j = m
          · subst e; exact .inr (by simp)
          · exact .inl ⟨j, by omega, rfl⟩
    · rw [if_neg hk, List.append_nil]
      refine ⟨h1, fun x => ?_⟩
      rw [h2]
      have hk' : m ≠ 0 ∧ d[m]! = d[m - 1]! := by
        unfold Lib.keeps at hk
        simpa using hk
      constructor
      · rintro ⟨j, hj, e⟩; exact ⟨j, by omega, e⟩
      · rintro ⟨j, hj, rfl⟩
        by_cases e : j = m
        · subst e; exact ⟨j - 1, by omega, hk'.2.symm⟩
        · exact ⟨j, by omega, rfl⟩
theorem compact_sorted (zs : List Int) (hs : zs.Pairwise (· ≤ ·)) : (Lib.compact zs).Pairwise (· < ·) ∧ ∀ x, x ∈ Lib.compact zs ↔ x ∈ zs := by
  have := compact_inv zs.toArray (fun i j hij hj => by
    have hj' : j < zs.length := by simpa using hj
    have := List.pairwise_iff_getElem.1 hs i j (by omega) hj' hij
    rw [getElem!_pos zs.toArray i (by simp; omega), getElem!_pos zs.toArray j hj]
    simpa using this) zs.length (by simp)
  unfold Lib.compact
  refine ⟨this.1, fun x => ?_⟩
  rw [this.2]
  constructor
  · rintro ⟨j, hj, rfl⟩
    rw [getElem!_pos zs.toArray j (by simpa using hj)]; simp
  · intro hx
    obtain ⟨j, hj, rfl⟩ := List.getElem_of_mem hx
    exact ⟨j, hj, by rw [getElem!_pos zs.toArray j (by simpa using hj)]; simp⟩
theorem lt_eq {l l' : List Int} (h : l.Pairwise (· < ·)) (h' : l'.Pairwise (· < ·)) (hm : ∀ x, x ∈ l ↔ x ∈ l') : l = l' := by
  have n1 : l.Nodup := h.imp fun {a b} h => by omega
  have n2 : l'.Nodup := h'.imp fun {a b} h => by omega
  exact List.Perm.eq_of_pairwise (le := fun a b => a < b) (fun a b _ _ h1 h2 => by omega) h h' ((List.perm_ext_iff_of_nodup n1 n2).2 hm)
theorem mem_ofN {l : List Nat} {x : Int} : x ∈ ofN l ↔ ∃ n ∈ l, (n : Int) = x := by unfold ofN; simp
theorem compact_sortedF (xs : List Nat) (h : ∀ x ∈ xs, x < 12) : Lib.compact ((ofN xs).mergeSort fun x y => decide (x ≤ y)) = ofN (Kx.sortedF xs) := by
  have hp : ((ofN xs).mergeSort fun x y => decide (x ≤ y)).Pairwise (· ≤ ·) :=
    (List.pairwise_mergeSort (le := fun x y => decide (x ≤ y)) (fun a b c h1 h2 => by simp only [decide_eq_true_eq] at *; omega) (fun a b => by simp only [Bool.or_eq_true, decide_eq_true_eq]; omega) (ofN xs)).imp fun {a b} h => by simpa using h
  obtain ⟨h1, h2⟩ := compact_sorted _ hp
  refine lt_eq h1 ?_ fun x => ?_
  · unfold ofN Kx.sortedF
    rw [List.pairwise_map]
    exact (List.Pairwise.filter _ List.pairwise_lt_range).imp fun {a b} h => by omega
  · rw [h2, (List.mergeSort_perm _ _).mem_iff, mem_ofN, mem_ofN]
    unfold Kx.sortedF
    constructor
    · rintro ⟨n, hn, rfl⟩
      exact ⟨n, List.mem_filter.2 ⟨by simpa using h n hn, by simpa using hn⟩, rfl⟩
    · rintro ⟨n, hn, rfl⟩
      exact ⟨n, by simpa using (List.mem_filter.1 hn).2, rfl⟩

theorem SortI_c (zs : List Int) (base : Nat) (v : Value) (w : World) (h : OI w base v zs) :
    Calls Tryz.prog 157 #[v] w fun e w' => e = .returned (.tuple #[]) ∧ OI w' base v (zs.mergeSort fun x y => decide (x ≤ y)) ∧ w.grownBy w' v.ownBlock := by
  obtain ⟨⟨h0, h1⟩, h2⟩ := h
  rcases h1 with ⟨rfl, hn⟩ | ⟨g, cap, cur, rfl, hb, hg, hnc, hcm, hcs, htake⟩
  · obtain rfl : zs = [] := List.eq_nil_of_length_eq_zero hn
    have hc := Any.slices_Sort_int_none lays189 none 0 w
    change Calls Tryz.prog 157 _ _ _ at hc
    refine hc.mono ?_; rintro e w' ⟨rfl, rfl⟩
    exact ⟨rfl, by rw [List.mergeSort_nil]; exact OI.nil _ _, World.grownBy.refl _ _⟩
  · have hc := Any.slices_Sort_int lays189 g 0 cap zs w (holds_of_blockI hg (by rw [← Nat.mul_one zs.length]; exact htake)) (Array.getElem?_eq_some_iff.1 hg).1 (by omega)
    change Calls Tryz.prog 157 _ _ _ at hc
    refine hc.mono ?_; rintro e w' ⟨rfl, n, os, rfl⟩
    refine ⟨rfl, ?_, grownBy_sortedI _⟩
    have hl : (zs.mergeSort fun x y => decide (x ≤ y)).length = zs.length := List.length_mergeSort ..
    have ho := ownsRow_sortedI (n := n) (os := os) hl hb hg hnc hcm hcs
    refine ⟨?_, by rw [hl]; exact h2⟩
    rw [hl]; exact ho
theorem compact_len (zs : List Int) : (Lib.compact zs).length ≤ zs.length := by
  unfold Lib.compact Lib.compactUpTo
  rw [List.length_map]
  exact Nat.le_trans (List.length_filter_le _ _) (by simp)
theorem CompactI_c (zs : List Int) (base : Nat) (v : Value) (w : World) (h : OI w base v zs) :
    Calls Tryz.prog 158 #[v] w fun e w' => ∃ u, e = .returned u ∧ OI w' base u (Lib.compact zs) ∧ w.grownBy w' v.ownBlock := by
  obtain ⟨⟨h0, h1⟩, h2⟩ := h
  rcases h1 with ⟨rfl, hn⟩ | ⟨g, cap, cur, rfl, hb, hg, hnc, hcm, hcs, htake⟩
  · obtain rfl : zs = [] := List.eq_nil_of_length_eq_zero hn
    have hc := Any.slices_Compact_int_empty laysNm220 none 0 w
    change Calls Tryz.prog 158 _ _ _ at hc
    refine hc.mono ?_; rintro e w' ⟨rfl, rfl⟩
    exact ⟨_, rfl, by rw [show Lib.compact ([] : List Int) = [] from rfl]; exact OI.nil _ _, World.grownBy.refl _ _⟩
  · have hc := Any.slices_Compact_int laysNm220 g 0 cap zs w (holds_of_blockI hg (by rw [← Nat.mul_one zs.length]; exact htake)) (by omega) hnc
    change Calls Tryz.prog 158 _ _ _ at hc
    refine hc.mono ?_; rintro e w' ⟨rfl, n, rfl⟩
    have hl := compact_len zs
    have hd : (Lib.compact zs ++ List.replicate (zs.length - (Lib.compact zs).length) 0).length = zs.length := by simp; omega
    have hgr := grownBy_sortedI (w := w) (g := g) (n := n) (os := #[]) (Lib.compact zs ++ List.replicate (zs.length - (Lib.compact zs).length) 0).toArray
    rw [grow_empty] at hgr
    have ho := ownsRow_sortedI (n := n) (os := #[]) hd hb hg hnc hcm hcs
    rw [grow_empty] at ho
    refine ⟨_, rfl, ⟨⟨by simp [ints], .inr ?_⟩, by omega⟩, hgr⟩
    rcases ho.2 with ⟨e, _⟩ | ⟨g', cap', cur', e, hb', hg', _, _, hcs', ht'⟩
    · cases e
    · simp only [Value.slice.injEq, Option.some.injEq, Addr.mk.injEq] at e
      obtain ⟨⟨rfl, _⟩, _, rfl⟩ := e
      refine ⟨g, cap, cur', rfl, hb, hg', by omega, hcm, hcs', ?_⟩
      have := congrArg (List.take (Lib.compact zs).length) ht'
      rw [List.take_take, Nat.mul_one, Nat.min_eq_left hl] at this
      rw [Nat.mul_one, this]
      simp [ints, List.map_append]
end Go.Proofs.YtfnpjdgjceiklaaGreatDoor
