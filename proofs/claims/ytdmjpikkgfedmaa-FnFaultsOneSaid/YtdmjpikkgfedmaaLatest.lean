/- Plain law: the first place with the greatest measure; the page whose next use is the latest. No program in sight. -/
import Derived.Test.YtdmjpikkgfedmaaPaging
namespace Xp

/-- b is the first place of l whose measure is the greatest. -/
def IsArg (g : Int → Nat) (l : List Int) (b : Nat) : Prop := ∃ h : b < l.length, (∀ j (hj : j < l.length), g l[j] ≤ g l[b]) ∧ ∀ j (hj : j < b), g (l[j]'(Nat.lt_trans hj h)) < g l[b]

theorem IsArg.unique {g : Int → Nat} {l : List Int} {a b : Nat} (ha : IsArg g l a) (hb : IsArg g l b) : a = b := by
  obtain ⟨h1, h2, h3⟩ := ha
  obtain ⟨k1, k2, k3⟩ := hb
  rcases Nat.lt_trichotomy a b with h | h | h
  · have := k3 a h; have := h2 b k1; omega
  · exact h
  · have := h3 b h; have := k2 a h1; omega

/-- the first place with the greatest measure -/
def argGo (g : Int → Nat) (l : List Int) : Nat → Nat
  | 0 => 0
  | k + 1 => if g (l.getD (argGo g l k) 0) < g (l.getD (k + 1) 0) then k + 1 else argGo g l k
def argk (g : Int → Nat) (l : List Int) : Nat := argGo g l (l.length - 1)

theorem argGo_is (g : Int → Nat) (l : List Int) : ∀ (k : Nat), k < l.length → IsArg g (l.take (k + 1)) (argGo g l k)
  | 0, h => by
    refine ⟨by simp [argGo]; omega, fun j hj => ?_, fun j hj => by simp [argGo] at hj⟩
    have : j = 0 := by simp at hj; omega
    subst this; simp [argGo]
  | k + 1, h => by
    obtain ⟨h1, h2, h3⟩ := argGo_is g l k (by omega)
    have hb : argGo g l k < k + 1 := by simp at h1; omega
    have e1 : l.getD (argGo g l k) 0 = l[argGo g l k]'(by omega) := by rw [List.getD_eq_getElem?_getD, List.getElem?_eq_getElem (by omega)]; rfl
    have e2 : l.getD (k + 1) 0 = l[k + 1] := by rw [List.getD_eq_getElem?_getD, List.getElem?_eq_getElem (by omega)]; rfl
    simp only [List.getElem_take] at h2 h3
    simp only [argGo, e1, e2]
    split
    · rename_i hlt
      refine ⟨by simp; omega, fun j hj => ?_, fun j hj => ?_⟩
      · simp only [List.getElem_take]
        simp only [List.length_take] at hj
        by_cases hjk : j = k + 1
        · subst hjk; exact Nat.le_refl _
        · have := h2 j (by simp; omega); omega
      · simp only [List.getElem_take]
        have := h2 j (by simp; omega); omega
    · rename_i hlt
      refine ⟨by simp; omega, fun j hj => ?_, fun j hj => ?_⟩
      · simp only [List.getElem_take]
        simp only [List.length_take] at hj
        by_cases hjk : j = k + 1
        · subst hjk; omega
        · exact h2 j (by simp; omega)
      · simp only [List.getElem_take]
        exact h3 j hj

theorem argk_is (g : Int → Nat) {l : List Int} (h : l ≠ []) : IsArg g l (argk g l) := by
  have hl : 0 < l.length := List.length_pos_iff.2 h
  have := argGo_is g l (l.length - 1) (by omega)
  rwa [show l.length - 1 + 1 = l.length by omega, List.take_length] at this

theorem IsArg.eq {g : Int → Nat} {l : List Int} {b : Nat} (h : IsArg g l b) : b = argk g l := by
  have hne : l ≠ [] := by rintro rfl; obtain ⟨h, _⟩ := h; simp at h
  exact h.unique (argk_is g hne)

theorem argk_lt (g : Int → Nat) {l : List Int} (h : l ≠ []) : argk g l < l.length := (argk_is g h).1

/-- one place more -/
theorem IsArg.step {g : Int → Nat} {l : List Int} {b k : Nat} (hk : k < l.length) (h : IsArg g (l.take k) b) (hb : b < l.length) :
    IsArg g (l.take (k + 1)) (if g l[b] < g l[k] then k else b) := by
  obtain ⟨h1, h2, h3⟩ := h
  have hbk : b < k := by simp at h1; omega
  simp only [List.getElem_take] at h2 h3
  split
  · rename_i hlt
    refine ⟨by simp; omega, fun j hj => ?_, fun j hj => ?_⟩
    · simp only [List.getElem_take]
      simp only [List.length_take] at hj
      by_cases hjk : j = k
      · subst hjk; exact Nat.le_refl _
      · have := h2 j (by simp; omega); omega
    · simp only [List.getElem_take]
      have := h2 j (by simp; omega); omega
  · rename_i hlt
    refine ⟨by simp; omega, fun j hj => ?_, fun j hj => ?_⟩
    · simp only [List.getElem_take]
      simp only [List.length_take] at hj
      by_cases hjk : j = k
      · subst hjk; omega
      · exact h2 j (by simp; omega)
    · simp only [List.getElem_take]
      exact h3 j hj

theorem IsArg.one {g : Int → Nat} {l : List Int} (h : 0 < l.length) : IsArg g (l.take 1) 0 := by
  refine ⟨by simp; omega, fun j hj => ?_, fun j hj => by omega⟩
  have : j = 0 := by simp at hj; omega
  subst this; exact Nat.le_refl _

/-- measures that rank alike -/
theorem IsArg.congr {g g' : Int → Nat} {l : List Int} {b : Nat} (h : IsArg g l b) (e : ∀ x, x ∈ l → ∀ y, y ∈ l → (g x ≤ g y ↔ g' x ≤ g' y)) : IsArg g' l b := by
  obtain ⟨h1, h2, h3⟩ := h
  refine ⟨h1, fun j hj => (e _ (List.getElem_mem _) _ (List.getElem_mem _)).1 (h2 j hj), fun j hj => ?_⟩
  have := h3 j hj
  have hh := e l[b] (List.getElem_mem _) (l[j]'(Nat.lt_trans hj h1)) (List.getElem_mem _)
  have : ¬ g' l[b] ≤ g' (l[j]'(Nat.lt_trans hj h1)) := fun hc => by have := hh.2 hc; omega
  omega

/-- all before k are used again, the page at k is not: it is the one -/
theorem IsArg.never {t l : List Int} {k : Nat} (hk : k < l.length) (h : ∀ j (hj : j < k), l[j] ∈ t) (hn : l[k] ∉ t) : IsArg (fun v => t.idxOf v) l k := by
  have e : t.idxOf l[k] = t.length := List.idxOf_eq_length hn
  refine ⟨hk, fun j hj => ?_, fun j hj => ?_⟩
  · show t.idxOf _ ≤ t.idxOf _; rw [e]; exact List.idxOf_le_length
  · show t.idxOf _ < t.idxOf _; rw [e]; exact List.idxOf_lt_length_iff.2 (h j hj)

/-- The page that goes where the future is known. -/
def goesBest (held t : List Int) : Nat := argk (fun v => t.idxOf v) held

theorem IsArg.first {g : Int → Nat} {l : List Int} {b : Nat} (h : IsArg g l b) : ∃ y, y ∈ l ∧ l.eraseIdx b = l.erase y ∧ ∀ v, v ∈ l → g v ≤ g y := by
  obtain ⟨h1, h2, h3⟩ := h
  refine ⟨l[b], List.getElem_mem _, ?_, ?_⟩
  · rw [List.erase_eq_eraseIdx_of_idxOf]
    have hn : l[b] ∉ l.take b := by
      intro hm
      obtain ⟨j, hj, e⟩ := List.getElem_of_mem hm
      simp only [List.length_take] at hj
      rw [List.getElem_take] at e
      have := h3 j (by omega)
      rw [e] at this
      exact Nat.lt_irrefl _ this
    have e : l = l.take b ++ l[b] :: l.drop (b + 1) := by
      conv => lhs; rw [← List.take_append_drop b l, List.drop_eq_getElem_cons h1]
    conv => lhs; arg 2; rw [e]
    rw [List.idxOf_append, if_neg hn, List.idxOf_cons_self]
    simp; omega
  · intro v hv
    obtain ⟨j, hj, rfl⟩ := List.getElem_of_mem hv
    exact h2 j hj

theorem goesBest_late : Late goesBest := fun _ t _ hne => (argk_is (fun v => (_ :: t).idxOf v) hne).first
theorem goesBest_picks : Picks goesBest := fun _ t hne => by
  obtain ⟨y, hy, he, _⟩ := (argk_is (fun v => t.idxOf v) hne).first
  exact ⟨y, hy, he⟩
end Xp
