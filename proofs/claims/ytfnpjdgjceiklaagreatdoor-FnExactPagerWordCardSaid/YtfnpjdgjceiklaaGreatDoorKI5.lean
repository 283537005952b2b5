/- Contracts: the impl's side: rights. -/
import Derived.Test.YtfnpjdgjceiklaaGreatDoorKI4
import Derived.Test.YtfnpjdgjceiklaaGreatDoorShelf
namespace Go.Proofs.YtfnpjdgjceiklaaGreatDoor
open Go.RowKit

theorem dropWhile_nil {α : Type} (p : α → Bool) : ∀ l : List α, l.dropWhile p = [] ↔ ∀ x ∈ l, p x = true
  | [] => by simp
  | a :: l => by
    cases h : p a with
    | true => rw [List.dropWhile_cons_of_pos h, dropWhile_nil p l]; simp [h]
    | false => rw [List.dropWhile_cons_of_neg (by simp [h])]; simp [h]
theorem trimS_nil (l cs : List UInt8) : Lib.trimS l cs = [] ↔ ∀ b ∈ l, cs.contains b = true := by
  unfold Lib.trimS Lib.trimLeftS
  rw [dropWhile_nil]
  constructor
  · intro h b hb
    have hn : l.reverse.dropWhile (cs.contains ·) = [] := by
      cases hd : l.reverse.dropWhile (cs.contains ·) with
      | nil => rfl
      | cons x t =>
        have h1 := List.head_dropWhile_not (cs.contains ·) (l := l.reverse) (by rw [hd]; simp)
        simp only [hd, List.head_cons] at h1
        have h2 := h x (by unfold Lib.trimRightS; rw [hd]; simp)
        rw [h1] at h2; cases h2
    exact (dropWhile_nil _ _).1 hn b (by simpa using hb)
  · intro h x hx
    unfold Lib.trimRightS at hx
    have := (List.dropWhile_sublist (cs.contains ·)).mem (List.mem_reverse.1 hx)
    exact h x (List.mem_reverse.1 this)
theorem abc_letter (b : UInt8) : ([97, 98, 99] : List UInt8).contains b = letter b := by
  rw [Bool.eq_iff_iff, letter_iff]
  simp only [List.contains_iff_mem, List.mem_cons, List.not_mem_nil, or_false, ← UInt8.toNat_inj, show (97 : UInt8).toNat = 97 from rfl, show (98 : UInt8).toNat = 98 from rfl, show (99 : UInt8).toNat = 99 from rfl]
  omega
theorem trim_rightOk (s : Kx.Str) (h4 : s.size ≤ 4) : (Lib.trimS s.data.toList [97, 98, 99] = []) ↔ Kx.rightOk s = true := by
  rw [trimS_nil, rightOk_eq, Bool.and_eq_true, List.all_eq_true]
  simp only [abc_letter]
  exact ⟨fun h => ⟨h, by simpa using h4⟩, fun h => h.1⟩

set_option maxHeartbeats 1000000 in
theorem implRightValid_c (s : Kx.Str) (w : World) (hs : s.size ≤ 9223372036854775807) : Calls Tryz.prog 153 #[.string s] w fun e w' => e = .returned (.bool (Kx.rightOk s)) ∧ Below w.heap.size w w' := by
  by_cases h4 : s.size ≤ 4
  · have hcon := Any.strings_Trim_laid lays160 (by kernel_rfl) s ⟨#[97, 98, 99]⟩ w hs (by decide) (ascii_of_all (by decide))
    change Calls Tryz.prog 198 _ _ (fun e w' => e = .returned (.string ⟨(Lib.trimS s.data.toList [97, 98, 99]).toArray⟩) ∧ Below w.heap.size w w') at hcon
    have ht := trim_rightOk s h4
    have h4b : decide ((s.size : Int) ≤ 4) = true := by simp; omega
    cases hr : Kx.rightOk s with
    | true =>
      rw [ht.2 hr] at hcon
      have Hc := Lib.hid hcon
      clear hcon ht h4 hr
      go_enter Tryz.func153, Tryz.ntmps153
      go_wp2_with (go_at_call 198; refine Hc.out.mono ?_; rintro e w' ⟨rfl, hb'⟩; have Hb' := Lib.hid hb'; clear hb')
      go_ret
      exact ⟨by rfl, Hb'.out⟩
    | false =>
      have hne : Lib.trimS s.data.toList [97, 98, 99] ≠ [] := fun e => by have := ht.1 e; rw [hr] at this; cases this
      have hne2 : ¬ ByteArray.toList ⟨(Lib.trimS s.data.toList [97, 98, 99]).toArray⟩ = [] := by rw [toList_data]; exact hne
      generalize (⟨(Lib.trimS s.data.toList [97, 98, 99]).toArray⟩ : ByteArray) = r at hcon hne2
      have Hc := Lib.hid hcon
      clear hcon ht h4 hr hne
      go_enter Tryz.func153, Tryz.ntmps153
      go_wp2_with (go_at_call 198; refine Hc.out.mono ?_; rintro e w' ⟨rfl, hb'⟩; have Hb' := Lib.hid hb'; clear hb')
      go_ret
      exact ⟨by simp [hne2], Hb'.out⟩
  · have HF := Lib.hid (show Kx.rightOk s = false by rw [rightOk_eq, Bool.and_eq_false_iff]; right; simpa using h4)
    have h4b : decide ((s.size : Int) ≤ 4) = false := by simp; omega
    clear h4
    go_enter Tryz.func153, Tryz.ntmps153
    go_wp2_with fail
    go_ret
    exact ⟨ret_bool HF.out.symm, Below.refl _ _⟩
set_option maxHeartbeats 1000000 in
theorem HasPrefix_c (a b : Kx.Str) (w : World) : Calls Tryz.prog 114 #[.string b, .string a] w fun e w' => e = .returned (.bool (Kx.pre a b)) ∧ w = w' := by
  by_cases h : a.size ≤ b.size
  · have H := Lib.hid (pre_extract (a := a) (b := b))
    go_enter Tryz.func114, Tryz.ntmps114
    go_wp2_with go_in
    go_ret
    exact ⟨ret_bool H.out, rfl⟩
  · have H := Lib.hid (pre_long h)
    go_enter Tryz.func114, Tryz.ntmps114
    go_wp2_with go_in
    go_ret
    exact ⟨ret_bool H.out.symm, rfl⟩
set_option maxHeartbeats 1000000 in
theorem may1_c (s g : Kx.Str) (b1 : Nat) (w : World) (h1 : w.cell? ⟨b1, 0, none⟩ = some (.string g)) :
    Calls Tryz.prog 113 #[.string s, .pointer (some ⟨b1, 0, none⟩)] w fun en w' => en = .returned (.bool (Kx.pre s g)) ∧ Below w.heap.size w w' := by
  go_enter Tryz.func113, Tryz.ntmps113
  go_wp2_with fail
  refine (HasPrefix_c _ _ _).mono ?_; rintro e w' ⟨rfl, rfl⟩
  go_wp2_with fail
  go_ret
  exact ⟨rfl, Below.refl _ _⟩
theorem may_any (l : List Kx.Str) (g : Kx.Str) : ((List.range l.length).any fun k => Kx.pre (l.getD k ByteArray.empty) g) = Kx.may l g := by
  unfold Kx.may
  rw [Bool.eq_iff_iff, List.any_eq_true, List.any_eq_true]
  constructor
  · rintro ⟨k, hk, hq⟩
    have hk : k < l.length := by simpa using hk
    exact ⟨l[k], List.getElem_mem hk, by simpa [hk] using hq⟩
  · rintro ⟨x, hx, hq⟩
    obtain ⟨k, hk, rfl⟩ := List.getElem_of_mem hx
    exact ⟨k, by simpa using hk, by simpa [hk] using hq⟩
set_option maxHeartbeats 1000000 in
theorem implMay_c (l : List Kx.Str) (g : Kx.Str) (v : Value) (w : World) (h : RStr w v l) :
    Calls Tryz.prog 49 #[v, .string g] w fun e w' => e = .returned (.bool (Kx.may l g)) ∧ Below w.heap.size w w' := by
  obtain ⟨w1, hw1⟩ : ∃ w1, w.alloc (.cells #[.string g] 9) = w1 := ⟨_, rfl⟩
  have B1 := Lib.hid (show Below w.heap.size w w1 from hw1 ▸ Below.lit (Below.refl _ _) _)
  have hc1 : w1.cell? ⟨w.heap.size, 0, none⟩ = some (.string g) ∧ w.heap.size < w1.heap.size := by
    subst hw1
    have h : (w.alloc (.cells #[.string g] 9)).heap[w.heap.size]? = some (.cells #[.string g] 9 (0, 0)) := heap_alloc_new w _
    exact ⟨cell_of_row _ _ 0 _ _ _ h, by simp⟩
  have hc := ContainsStr_c 113 #[.pointer (some ⟨w.heap.size, 0, none⟩)] (fun k => Kx.pre (l.getD k ByteArray.empty) g) l v w1 (RS.below h B1.out)
    ⟨Proofs.enters_of Tryz.func113 (by kernel_rfl) rfl, fun k W hk hb => may1_c _ g _ W ((hb.cell (p := ⟨w.heap.size, 0, none⟩) hc1.2).trans hc1.1)⟩
  rw [may_any] at hc
  have HC := Lib.hid hc
  obtain ⟨a, cap, rfl, _, _⟩ := RS.val h
  clear hc hc1 h
  go_enter Tryz.func49, Tryz.ntmps49
  go_wp2_with (go_at_call 112; refine HC.out.mono ?_; rintro en w' ⟨rfl, hb'⟩; have Hb' := Lib.hid hb'; clear hb')
  go_ret
  exact ⟨rfl, B1.out.trans (Hb'.out.mono B1.out.size)⟩
end Go.Proofs.YtfnpjdgjceiklaaGreatDoor
