/- The law FnPageSum: a changed word changes a sum. -/
import Derived.Test.YtachjkecgbfddaaWalkF
namespace Go.Proofs.Ytachjkecgbfddaa
open Go.RowKit

theorem sum4 (a b c d : Int) : sumOf [a, b, c, d] = (923521 + 29791 * a + 961 * b + 31 * c + d) % 9973 := by
  simp only [sumOf, List.foldl]
  omega

/-- one word more or less, and all other words as they were: another sum -/
theorem sum_turn (xs : List Int) (hl : xs.length = 4) (k : Nat) (hk : k < xs.length) (e : Int) (he : e = 1 ∨ e = -1) : sumOf (xs.set k (xs[k] + e)) ≠ sumOf xs := by
  obtain ⟨a, b, c, d, rfl⟩ : ∃ a b c d, xs = [a, b, c, d] := by
    match xs, hl with
    | [a, b, c, d], _ => exact ⟨a, b, c, d, rfl⟩
  have hk' : k = 0 ∨ k = 1 ∨ k = 2 ∨ k = 3 := by simp at hk; omega
  rcases hk' with rfl | rfl | rfl | rfl <;> simp only [List.set_cons_zero, List.set_cons_succ, List.getElem_cons_zero, List.getElem_cons_succ, sum4] <;> rcases he with rfl | rfl <;> omega

theorem turn_ok (xs : List Int) (h : pageOk xs = true) (k : Nat) (y : Int) (h0 : 0 ≤ y) (h1 : y ≤ 9999) : pageOk (xs.set k y) = true := by
  rw [pageOk_iff] at h ⊢
  refine ⟨fun x hx => ?_, by simpa using h.2⟩
  rcases List.mem_or_eq_of_mem_set hx with hx | rfl
  · exact h.1 x hx
  · exact ⟨h0, h1⟩

set_option maxHeartbeats 1000000 in
set_option maxRecDepth 100000 in
theorem FnPageSum_c (a0 : Option Addr) (len0 cap0 : Nat) (z0 : List Int) (a1 : Option Addr) (len1 cap1 : Nat) (z1 : List Int) (w : World) (h0 : IsRow .u8 w a0 len0 cap0 z0) (_h1 : IsRow .u8 w a1 len1 cap1 z1) :
    Calls Try.prog 5 #[.slice a0 len0 cap0, .slice a1 len1 cap1] w fun e w' => e = .returned (.bool true) ∧ Below w.heap.size w w' := by
  by_cases hl0 : len0 ≤ 1048576
  · by_cases hl1 : len1 ≤ 1048576
    · have hI0 : ¬ (1048576 : Int) < (len0 : Int) := by omega
      have hI1 : ¬ (1048576 : Int) < (len1 : Int) := by omega
      have Hr := Lib.hid (IsRow.rb h0)
      clear h0
      go_enter Try.func5, Try.ntmps5
      go_wp2_with fail
      refine (DrawPageSum_c _ _ _ Hr.out).mono ?_; rintro e w1 ⟨u, xs, rfl, hx, hxl, hb⟩
      have Hx := Lib.hid hx; have Hb := Lib.hid hb; clear hx hb
      cases hp : pageOk xs
      · have hs : pageSum xs = -1 := by simp [pageSum, hp]
        have Hs := Lib.hid hs; clear hs hp
        go_wp2_with fail
        refine (implPageSum_c xs _ _ Hx.out).mono ?_; rintro e w2 ⟨rfl, hb⟩; rw [Hs.out]
        have Hx2 := Lib.hid (Hx.out.below hb); have Hb2 := Lib.hid (Hb.out.trans (hb.mono Hb.out.size)); clear hb
        go_wp2_with fail
        refine (specPageSum_c xs _ _ Hx2.out).mono ?_; rintro e _ ⟨rfl, rfl⟩; rw [Hs.out]
        go_wp2_with fail
        go_ret
        exact ⟨rfl, Hb2.out⟩
      · have hs : pageSum xs = sumOf xs := by simp [pageSum, hp]
        obtain ⟨hr0, hr1⟩ := sumOf_rng xs
        have h4 := (pageOk_iff.1 hp).2
        have Hs := Lib.hid hs; clear hs
        obtain ⟨s, hS⟩ : ∃ s, sumOf xs = s := ⟨_, rfl⟩
        rw [hS] at hr0 hr1
        have HS := Lib.hid hS; clear hS
        have Hp := Lib.hid hp; clear hp
        have hne : (s != s) = false := by simp
        go_wp2_with fail
        refine (implPageSum_c xs _ _ Hx.out).mono ?_; rintro e w2 ⟨rfl, hb⟩; rw [Hs.out, HS.out]
        have Hx2 := Lib.hid (Hx.out.below hb); have Hb2 := Lib.hid (Hb.out.trans (hb.mono Hb.out.size)); clear hb
        go_wp2_with fail
        refine (specPageSum_c xs _ _ Hx2.out).mono ?_; rintro e _ ⟨rfl, rfl⟩; rw [Hs.out, HS.out]
        obtain ⟨b, off, cap', rfl, hbl, h00⟩ := Hx2.out.at (k := 0) (by omega)
        clear h00
        have hcells := Lib.hid (fun (i : Nat) (hi : i < xs.length) => ((Below.refl w2.heap.size w2).alloc (Nat.le_refl _) (.cells #[] 3) |>.cell (p := ⟨b, off + i, none⟩) hbl).trans (by
          obtain ⟨b', off', cap'', e, _, hc⟩ := Hx2.out.at hi
          simp only [Value.slice.injEq, Option.some.injEq, Addr.mk.injEq] at e
          obtain ⟨⟨rfl, rfl, _⟩, _, _⟩ := e
          exact hc))
        have hsrc : Hid (∀ j u, (ints xs)[j]? = some u → (w2.alloc (.cells #[] 3)).cell? ((⟨b, off, none⟩ : Addr).add j) = some u) := by
          intro j u hj
          have hjl : j < xs.length := by have := (List.getElem?_eq_some_iff.1 hj).1; rwa [ints_length] at this
          rw [Addr.add_lit, hcells.out j hjl, ← ints_get xs j hjl]
          exact hj
        have hkx : len1 % xs.length < xs.length := Nat.mod_lt _ (by omega)
        have hkI : (len1 : Int) % (xs.length : Int) < (xs.length : Int) := Int.emod_lt_of_pos _ (by omega)
        have hkI0 : 0 ≤ (len1 : Int) % (xs.length : Int) := Int.emod_nonneg _ (by omega)
        obtain ⟨hy0, hy1⟩ := (pageOk_iff.1 Hp.out).1 _ (List.getElem_mem hkx)
        have ht1 := Lib.hid (sum_turn xs h4 _ hkx 1 (.inl rfl))
        have ht2 := Lib.hid (sum_turn xs h4 _ hkx (-1) (.inr rfl))
        have hgen : ∀ w3, Hid (∀ v', OI w3 w2.heap.size v' xs → ∃ g cx, v' = .slice (some ⟨g, 0, none⟩) xs.length cx ∧ w2.heap.size ≤ g ∧ w3.cell? ⟨g, len1 % xs.length, none⟩ = some (.int .i64 xs[len1 % xs.length]) ∧ w3.frozen? ⟨g, len1 % xs.length, none⟩ = false) := fun w3 v' h => h.at hkx
        obtain ⟨y, hy⟩ : ∃ y, xs[len1 % xs.length] = y := ⟨_, rfl⟩
        rw [hy] at ht1 ht2 hy0 hy1
        simp only [hy] at hgen
        have H4 := Lib.hid h4
        clear hy h4
        by_cases h9 : y = 9999
        · subst h9
          go_wp2_with (at_builtin; refine wpList_app rfl _ _ rfl w2.heap.size _ [] rfl (OI.lit0 (Nat.le_refl _)) _ _ cap' xs rfl rfl hsrc.out (by simp; omega) (by simp) ?_; intro v' w3 ho3 hg3; rw [List.nil_append] at ho3; obtain ⟨g, cx, rfl, hbg, hcg, hfg⟩ := (hgen w3).out v' ho3; have Ho3 := Lib.hid ho3; have Hg3 := Lib.hid hg3; clear ho3 hg3)
          have hst := Ho3.out.stored rfl (len1 % xs.length) (9998)
          have hpk := turn_ok xs Hp.out (len1 % xs.length) (9998) (by omega) (by omega)
          have hps : pageSum (xs.set (len1 % xs.length) (9998)) = sumOf (xs.set (len1 % xs.length) (9998)) := by simp [pageSum, hpk]
          have hgl := Ho3.out.lt g rfl
          have Hst := Lib.hid hst; have Hps := Lib.hid hps; clear hst hps hpk
          go_wp2_with fail
          refine (implPageSum_c (xs.set (len1 % xs.length) (9998)) _ _ Hst.out.1.ri).mono ?_; rintro e w4 ⟨rfl, hb⟩; rw [Hps.out]
          have hb4 := Lib.hid ((grownBy_below Hst.out.2 hgl.1 (by have := Hg3.out.size; simp at this; omega)).trans (hb.mono (by have := Hst.out.2.size; have := Hg3.out.size; simp at this; omega)))
          have hb5 := Lib.hid (Below.app ((Below.refl w2.heap.size w2).alloc (Nat.le_refl _) _) (OI.lit0 (Nat.le_refl _)) Hg3.out (Nat.le_refl _) (by simp))
          clear hb hgl
          obtain ⟨s2, hs2⟩ : ∃ s2, sumOf (xs.set (len1 % xs.length) (9998)) = s2 := ⟨_, rfl⟩
          have hd : (s2 != s) = true := by
            have := ht2.out
            rw [HS.out] at this
            rw [bne_iff_ne, ← hs2]
            exact this
          rw [hs2]
          clear hs2
          go_wp2_with fail
          go_ret
          exact ⟨rfl, Hb2.out.trans ((hb5.out.trans hb4.out).mono Hb2.out.size)⟩
        · have hyb : (y == 9999) = false := by simpa using h9
          have hy2 : y < 9999 := by omega
          go_wp2_with (at_builtin; refine wpList_app rfl _ _ rfl w2.heap.size _ [] rfl (OI.lit0 (Nat.le_refl _)) _ _ cap' xs rfl rfl hsrc.out (by simp; omega) (by simp) ?_; intro v' w3 ho3 hg3; rw [List.nil_append] at ho3; obtain ⟨g, cx, rfl, hbg, hcg, hfg⟩ := (hgen w3).out v' ho3; have Ho3 := Lib.hid ho3; have Hg3 := Lib.hid hg3; clear ho3 hg3)
          have hst := Ho3.out.stored rfl (len1 % xs.length) (y + 1)
          have hpk := turn_ok xs Hp.out (len1 % xs.length) (y + 1) (by omega) (by omega)
          have hps : pageSum (xs.set (len1 % xs.length) (y + 1)) = sumOf (xs.set (len1 % xs.length) (y + 1)) := by simp [pageSum, hpk]
          have hgl := Ho3.out.lt g rfl
          have Hst := Lib.hid hst; have Hps := Lib.hid hps; clear hst hps hpk
          go_wp2_with fail
          refine (implPageSum_c (xs.set (len1 % xs.length) (y + 1)) _ _ Hst.out.1.ri).mono ?_; rintro e w4 ⟨rfl, hb⟩; rw [Hps.out]
          have hb4 := Lib.hid ((grownBy_below Hst.out.2 hgl.1 (by have := Hg3.out.size; simp at this; omega)).trans (hb.mono (by have := Hst.out.2.size; have := Hg3.out.size; simp at this; omega)))
          have hb5 := Lib.hid (Below.app ((Below.refl w2.heap.size w2).alloc (Nat.le_refl _) _) (OI.lit0 (Nat.le_refl _)) Hg3.out (Nat.le_refl _) (by simp))
          clear hb hgl
          obtain ⟨s2, hs2⟩ : ∃ s2, sumOf (xs.set (len1 % xs.length) (y + 1)) = s2 := ⟨_, rfl⟩
          have hd : (s2 != s) = true := by
            have := ht1.out
            rw [HS.out] at this
            rw [bne_iff_ne, ← hs2]
            exact this
          rw [hs2]
          clear hs2
          go_wp2_with fail
          go_ret
          exact ⟨rfl, Hb2.out.trans ((hb5.out.trans hb4.out).mono Hb2.out.size)⟩
    · have hI0 : ¬ (1048576 : Int) < (len0 : Int) := by omega
      have hI1 : (1048576 : Int) < (len1 : Int) := by omega
      clear h0
      go_enter Try.func5, Try.ntmps5
      go_wp2_with fail
      go_ret
      exact ⟨rfl, Below.refl _ _⟩
  · have hI0 : (1048576 : Int) < (len0 : Int) := by omega
    clear h0
    go_enter Try.func5, Try.ntmps5
    go_wp2_with fail
    go_ret
    exact ⟨rfl, Below.refl _ _⟩
end Go.Proofs.Ytachjkecgbfddaa
