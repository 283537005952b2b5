/- Plain: a span is how many different pages were between. -/
import Derived.Test.YtdmjpikkgfedmaaWalkU
import Derived.Test.YtdmjpikkgfedmaaWalkZ
namespace Go.Proofs.Ytdmjpikkgfedmaa
open Xp

theorem newCount_cons (x : Int) : ∀ (l M : List Int), x ∉ M → newCount l M = newCount l (x :: M) + if x ∈ l then 1 else 0
  | [], _, _ => by simp [newCount]
  | p :: t, M, hx => by
    by_cases hp : p ∈ M
    · have hne : x ≠ p := fun e => hx (e ▸ hp)
      have e1 : newCount (p :: t) M = newCount t M := by simp [newCount, hp]
      have e2 : newCount (p :: t) (x :: M) = newCount t (x :: M) := by simp [newCount, hp]
      rw [e1, e2, newCount_cons x t M hx]
      simp [hne]
    · by_cases hpx : p = x
      · subst hpx
        have e1 : newCount (p :: t) M = 1 + newCount t (p :: M) := by simp [newCount, hp]
        have e2 : newCount (p :: t) (p :: M) = newCount t (p :: M) := by simp [newCount]
        rw [e1, e2]; simp; omega
      · have hne : x ≠ p := fun e => hpx e.symm
        have e1 : newCount (p :: t) M = 1 + newCount t (p :: M) := by simp [newCount, hp]
        have e2 : newCount (p :: t) (x :: M) = 1 + newCount t (p :: x :: M) := by simp [newCount, hp, hpx]
        have e3 : newCount t (p :: x :: M) = newCount t (x :: p :: M) := newCount_congr t (fun y => by simp only [List.mem_cons]; constructor <;> (rintro (h | h | h) <;> simp [h]))
        rw [e1, e2, e3, newCount_cons x t (p :: M) (by simp [hx, hne])]
        simp [hne]; omega

theorem spanGo_count (p : Int) (rest : List Int) : ∀ (l seen : List Int), p ∉ l → spanGo p (l ++ p :: rest) seen = ((seen.length + newCount l seen : Nat) : Int)
  | [], seen, _ => by simp [spanGo, newCount]
  | q :: l, seen, h => by
    have hq : q ≠ p := fun e => h (by simp [e])
    have hl : p ∉ l := fun e => h (by simp [e])
    rw [List.cons_append, spanGo, if_neg hq]
    by_cases hs : q ∈ seen
    · rw [if_pos hs, spanGo_count p rest l seen hl]; simp [newCount, hs]
    · rw [if_neg hs, spanGo_count p rest l _ hl]
      have e : newCount l (seen ++ [q]) = newCount l (q :: seen) := newCount_congr l (fun y => by simp [or_comm])
      simp [newCount, hs, e]; omega

theorem dn_append (a : List Int) (x : Int) : ∀ k, k ≤ a.length → dn (a ++ [x]) k = dn a k
  | 0, _ => rfl
  | k + 1, h => by
    have hk : k < a.length := by omega
    rw [dn, dn, dn_append a x k (by omega), List.getElem?_append_left hk, List.take_append_of_le_length (by omega)]

theorem dn_rev (a : List Int) : newCount a.reverse [] = dn a a.length := by
  suffices H : ∀ r : List Int, newCount r [] = dn r.reverse r.length by
    have := H a.reverse
    simpa using this
  intro r
  induction r with
  | nil => rfl
  | cons x r ih =>
    rw [List.reverse_cons, List.length_cons, dn]
    have e1 := dn_append r.reverse x r.length (by simp)
    rw [e1, ← ih]
    have e2 := newCount_cons x r [] (by simp)
    have e3 : newCount (x :: r) [] = 1 + newCount r [x] := by simp [newCount]
    rw [e3, e2]
    have e4 : (r.reverse ++ [x])[r.length]?.getD 0 = x := by simp
    have e5 : (r.reverse ++ [x]).take r.length = r.reverse := by simp
    rw [e4, e5]
    by_cases hx : x ∈ r <;> simp [hx] <;> omega

theorem spanAt_new (xs : List Int) (k : Nat) (hk : k < xs.length) (h : xs[k] ∉ xs.take k) : spanAt xs k = -1 := by
  rw [spanAt, List.getElem?_eq_getElem hk]
  show spanGo xs[k] _ [] = _
  rw [spanGo_nil, if_neg (by simpa using h)]

theorem spanAt_dn (xs : List Int) (k l : Nat) (hk : k < xs.length) (hl : l < k) (he : xs[l] = xs[k]) (hn : xs[k] ∉ (xs.take k).drop (l + 1)) :
    spanAt xs k = (dn ((xs.take k).drop (l + 1)) (k - (l + 1)) : Nat) := by
  rw [spanAt, List.getElem?_eq_getElem hk]
  show spanGo xs[k] _ [] = _
  have e : xs.take k = xs.take l ++ xs[k] :: (xs.take k).drop (l + 1) := by
    have h1 : l < (xs.take k).length := by simp; omega
    conv => lhs; rw [← List.take_append_drop l (xs.take k), List.drop_eq_getElem_cons h1]
    rw [List.take_take, Nat.min_eq_left (by omega), List.getElem_take, he]
  conv => lhs; rw [e]
  rw [List.reverse_append, List.reverse_cons, List.append_assoc, List.singleton_append, spanGo_count _ _ _ _ (by simpa using hn), dn_rev]
  have e2 : ((xs.take k).drop (l + 1)).length = k - (l + 1) := by rw [List.length_drop, List.length_take, Nat.min_eq_left (by omega)]
  rw [e2]
  simp

/-- where p stands last among the first j, or -1 -/
def lastIn (xs : List Int) (p : Int) : Nat → Int
  | 0 => -1
  | j + 1 => if xs[j]?.getD 0 = p then j else lastIn xs p j
theorem lastIn_rng (xs : List Int) (p : Int) : ∀ j, -1 ≤ lastIn xs p j ∧ lastIn xs p j < j
  | 0 => by simp [lastIn]
  | j + 1 => by have := lastIn_rng xs p j; simp only [lastIn]; split <;> omega
theorem lastIn_spec (xs : List Int) (p : Int) : ∀ j, j ≤ xs.length → (lastIn xs p j < 0 ∧ p ∉ xs.take j) ∨ ∃ m : Nat, lastIn xs p j = m ∧ m < j ∧ xs[m]? = some p ∧ p ∉ (xs.take j).drop (m + 1)
  | 0, _ => by simp [lastIn]
  | j + 1, h => by
    have hj : j < xs.length := by omega
    by_cases hp : xs[j] = p
    · refine .inr ⟨j, ?_, by omega, by rw [List.getElem?_eq_getElem hj, hp], ?_⟩
      · simp [lastIn, List.getElem?_eq_getElem hj, hp]
      · rw [List.drop_of_length_le (by simp; omega)]; simp
    · have e : lastIn xs p (j + 1) = lastIn xs p j := by simp [lastIn, List.getElem?_eq_getElem hj, hp]
      have hp2 : p ≠ xs[j] := fun e => hp e.symm
      rw [e, List.take_succ_eq_append_getElem hj]
      rcases lastIn_spec xs p j (by omega) with ⟨h1, h2⟩ | ⟨m, h1, h2, h3, h4⟩
      · exact .inl ⟨h1, by simp only [List.mem_append, List.mem_singleton, not_or]; exact ⟨h2, hp2⟩⟩
      · refine .inr ⟨m, h1, by omega, h3, ?_⟩
        rw [List.drop_append_of_le_length (by simp; omega)]
        simp only [List.mem_append, List.mem_singleton, not_or]
        exact ⟨h4, hp2⟩
theorem spanAt_last (xs : List Int) (k : Nat) (hk : k < xs.length) : spanAt xs k = if lastIn xs xs[k] k < 0 then (-1 : Int) else ((dn ((xs.take k).drop ((lastIn xs xs[k] k).toNat + 1)) (k - ((lastIn xs xs[k] k).toNat + 1)) : Nat) : Int) := by
  rcases lastIn_spec xs xs[k] k (by omega) with ⟨h1, h2⟩ | ⟨m, h1, h2, h3, h4⟩
  · rw [if_pos h1, spanAt_new xs k hk h2]
  · rw [h1, if_neg (by omega)]
    have hm : m < xs.length := by omega
    rw [List.getElem?_eq_getElem hm] at h3
    exact spanAt_dn xs k m hk h2 (Option.some.inj h3) h4
end Go.Proofs.Ytdmjpikkgfedmaa
