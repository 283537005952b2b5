/- Contracts: changes are applied to a page. -/
import Derived.Test.YtnohlcffmikecaaWalkC
import Derived.Test.YtnohlcffmikecaaWalkG
import Derived.Deep.Draws
namespace Go.Proofs.Ytnohlcffmikecaa
open Go.RowKit

/-- changes, one after the other -/
def applyTo (cur : List Int) : List Int → List Int
  | a :: x :: r => applyTo (cur.set a.toNat x) r
  | _ => cur
/-- each place is a place -/
def placesOk : List Int → Bool
  | a :: _ :: r => inR a 0 3 && placesOk r
  | _ => true
def applyOk (old d : List Int) : Bool := pageOk old && (decide (d.length % 2 = 0 ∧ d.length ≤ 8) && (placesOk d && (diffOk old (applyTo old d) && decide (diffL old (applyTo old d) = d))))
def applyL (old d : List Int) : List Int := if applyOk old d then applyTo old d else []
/-- the reference's own run -/
def sRun (old : List Int) : List Int → Int → List Int → Option (List Int)
  | cur, last, a :: x :: r => if inR a (last + 1) 3 = true ∧ inR x 0 9999 = true ∧ old[a.toNat]?.getD 0 ≠ x then sRun old (cur.set a.toNat x) a r else none
  | cur, _, _ => some cur

theorem diff_same {a b : List Int} {k : Nat} : ∀ m, k ≤ m → (∀ i, k ≤ i → i < m → b[i]?.getD 0 = a[i]?.getD 0) → diffUpto a b m = diffUpto a b k
  | 0, h, _ => by rw [Nat.le_zero.1 h]
  | m + 1, h, he => by
    by_cases hk : k = m + 1
    · rw [hk]
    · rw [diffUpto, if_pos (he m (by omega) (by omega)).symm, List.append_nil, diff_same m (by omega) (fun i h1 h2 => he i h1 (by omega))]

theorem sRun_some (old : List Int) (ho : old.length = 4) : ∀ (d cur out : List Int) (last : Int) (k : Nat), sRun old cur last d = some out → d.length % 2 = 0 → cur.length = 4 → last + 1 = k → k ≤ 4 →
    (∀ i, k ≤ i → cur[i]?.getD 0 = old[i]?.getD 0) → (∀ x ∈ cur, 0 ≤ x ∧ x ≤ 9999) →
    out.length = 4 ∧ applyTo cur d = out ∧ (∀ i, i < k → out[i]?.getD 0 = cur[i]?.getD 0) ∧ (∀ x ∈ out, 0 ≤ x ∧ x ≤ 9999) ∧ diffUpto old out 4 = diffUpto old out k ++ d ∧ placesOk d = true ∧ d.length ≤ 2 * (4 - k)
  | [], cur, out, last, k, h, _, hc, _, hk, ha, hp => by
    simp only [sRun, Option.some.injEq] at h
    subst h
    exact ⟨hc, rfl, fun _ _ => rfl, hp, by rw [List.append_nil]; exact diff_same 4 hk (fun i h1 _ => ha i h1), rfl, Nat.zero_le _⟩
  | [a], _, _, _, _, _, hd, _, _, _, _, _ => by simp at hd
  | a :: x :: r, cur, out, last, k, h, hd, hc, hl, hk, ha, hp => by
    unfold sRun at h
    split at h
    · rename_i hcond
      obtain ⟨h1, h2, h3⟩ := hcond
      obtain ⟨h11, h12⟩ := inR_true.1 h1
      obtain ⟨h21, h22⟩ := inR_true.1 h2
      obtain ⟨n, rfl⟩ := Int.eq_ofNat_of_zero_le (show 0 ≤ a by omega)
      simp only [Int.toNat_natCast] at h h3
      have hkn : k ≤ n := by omega
      have hn3 : n ≤ 3 := by omega
      have hset : ∀ i, i ≠ n → (cur.set n x)[i]?.getD 0 = cur[i]?.getD 0 := fun i hi => by rw [List.getElem?_set_ne (fun e => hi e.symm)]
      have hsetn : (cur.set n x)[n]?.getD 0 = x := by rw [List.getElem?_set_self (by omega)]; rfl
      obtain ⟨g1, g2, g3, g4, g5, g6, g7⟩ := sRun_some old ho r (cur.set n x) out n (n + 1) h (by simp at hd; omega) (by simpa using hc) rfl (by omega)
        (fun i hi => by rw [hset i (by omega)]; exact ha i (by omega))
        (fun y hy => by
          rcases List.mem_or_eq_of_mem_set hy with hy | rfl
          · exact hp y hy
          · exact ⟨h21, h22⟩)
      refine ⟨g1, by rw [applyTo]; exact g2, fun i hi => by rw [g3 i (by omega), hset i (by omega)], g4, ?_, ?_, ?_⟩
      · have e1 : out[n]?.getD 0 = x := by rw [g3 n (by omega), hsetn]
        have e2 : diffUpto old out (n + 1) = diffUpto old out n ++ [(n : Int), x] := by
          rw [diffUpto, e1, if_neg h3]
        have e3 : diffUpto old out n = diffUpto old out k := diff_same n hkn (fun i hi1 hi2 => by rw [g3 i (by omega), hset i (by omega)]; exact ha i hi1)
        rw [g5, e2, e3, List.append_assoc]; rfl
      · simp only [placesOk, g6, Bool.and_true]; exact inR_true.2 ⟨by omega, by omega⟩
      · simp only [List.length_cons]; omega
    · cases h

theorem sRun_diff (old out : List Int) (h1 : pageOk old = true) (h2 : pageOk out = true) : sRun old old (-1) (diffUpto old out 4) = some out := by
  obtain ⟨a, b, c, d, rfl⟩ : ∃ a b c d, old = [a, b, c, d] := by
    match old, (pageOk_iff.1 h1).2 with
    | [a, b, c, d], _ => exact ⟨a, b, c, d, rfl⟩
  obtain ⟨e, f, g, i, rfl⟩ : ∃ e f g i, out = [e, f, g, i] := by
    match out, (pageOk_iff.1 h2).2 with
    | [a, b, c, d], _ => exact ⟨a, b, c, d, rfl⟩
  have hp := (pageOk_iff.1 h2).1
  have he := inR_true.2 (hp e (by simp))
  have hf := inR_true.2 (hp f (by simp))
  have hg := inR_true.2 (hp g (by simp))
  have hi := inR_true.2 (hp i (by simp))
  clear h1 h2 hp
  have r0 : inR 0 0 3 = true := by decide
  have r1 : inR 1 0 3 = true := by decide
  have r2 : inR 2 0 3 = true := by decide
  have r3 : inR 3 0 3 = true := by decide
  have r4 : inR 1 1 3 = true := by decide
  have r5 : inR 2 1 3 = true := by decide
  have r6 : inR 3 1 3 = true := by decide
  have r7 : inR 2 2 3 = true := by decide
  have r8 : inR 3 2 3 = true := by decide
  have r9 : inR 3 3 3 = true := by decide
  by_cases q1 : a = e <;> by_cases q2 : b = f <;> by_cases q3 : c = g <;> by_cases q4 : d = i <;>
    simp [diffUpto, sRun, q1, q2, q3, q4, he, hf, hg, hi, r0, r1, r2, r3, r4, r5, r6, r7, r8, r9]

theorem sRun_apply (old d : List Int) (ho : pageOk old = true) (hd : d.length % 2 = 0) : sRun old old (-1) d = if applyOk old d then some (applyTo old d) else none := by
  cases hs : sRun old old (-1) d with
  | none =>
    cases ha : applyOk old d
    · rfl
    · exfalso
      simp only [applyOk, Bool.and_eq_true, decide_eq_true_eq] at ha
      obtain ⟨_, _, _, h4, h5⟩ := ha
      have h6 : pageOk (applyTo old d) = true := by simp only [diffOk, Bool.and_eq_true] at h4; exact h4.2
      rw [diffL, if_pos h4] at h5
      have := sRun_diff old _ ho h6
      rw [h5, hs] at this
      cases this
  | some out =>
    have hl := (pageOk_iff.1 ho).2
    obtain ⟨g1, g2, g3, g4, g5, g6, g7⟩ := sRun_some old hl d old out (-1) 0 hs hd hl rfl (Nat.zero_le _) (fun _ _ => rfl) (pageOk_iff.1 ho).1
    have hpo : pageOk out = true := pageOk_iff.2 ⟨g4, g1⟩
    have ha : applyOk old d = true := by
      simp only [applyOk, Bool.and_eq_true, decide_eq_true_eq]
      have hdo : diffOk old (applyTo old d) = true := by rw [g2]; simp [diffOk, ho, hpo]
      refine ⟨ho, ⟨hd, by omega⟩, g6, hdo, ?_⟩
      rw [diffL, if_pos hdo, g2]
      simpa [diffUpto] using g5
    rw [ha, if_pos rfl, g2]
end Go.Proofs.Ytnohlcffmikecaa
