/- The law FnTracePart: uses may be missing. -/
import Derived.Test.YtagemgimccocdaaWalkO
import Derived.Test.YtagemgimccocdaaWalkY
import Derived.IntWalk
namespace Go.Proofs.Ytagemgimccocdaa
open Go.RowKit

theorem traceOk_part {xs : List Int} (h : traceOk xs = true) (k : Nat) : traceOk (xs.take k ++ xs.drop (k + 1)) = true := by
  simp only [traceOk, Bool.and_eq_true, List.all_eq_true, decide_eq_true_eq] at h ⊢
  refine ⟨fun x hx => ?_, ?_⟩
  · rcases List.mem_append.1 hx with hx | hx
    · exact h.1 x (List.mem_of_mem_take hx)
    · exact h.1 x (List.mem_of_mem_drop hx)
  · have := h.2; simp; omega
theorem traceOk_wrong (xs : List Int) (k : Nat) (hk : k < xs.length) : traceOk (xs.set k 16) = false := by
  have : ¬ traceOk (xs.set k 16) = true := fun h => by
    simp only [traceOk, Bool.and_eq_true, List.all_eq_true] at h
    have h2 := inR_true.1 (h.1 16 (List.mem_set hk 16))
    omega
  simpa using this

set_option maxHeartbeats 2000000 in
set_option maxRecDepth 100000 in
theorem FnTracePart_c (a0 : Option Addr) (len0 cap0 : Nat) (z0 : List Int) (a1 : Option Addr) (len1 cap1 : Nat) (z1 : List Int) (w : World) (h0 : IsRow .u8 w a0 len0 cap0 z0) (_h1 : IsRow .u8 w a1 len1 cap1 z1) :
    Calls Try.prog 3 #[.slice a0 len0 cap0, .slice a1 len1 cap1] w fun e w' => e = .returned (.bool true) ∧ Below w.heap.size w w' := by
  by_cases hl0 : len0 ≤ 1048576
  · by_cases hl1 : len1 ≤ 1048576
    · have hI0 : ¬ (1048576 : Int) < (len0 : Int) := by omega
      have hI1 : ¬ (1048576 : Int) < (len1 : Int) := by omega
      have Hr := Lib.hid (IsRow.rb h0)
      clear h0
      go_enter Try.func3, Try.ntmps3
      go_wp2_with fail
      refine (DrawTraceValid_c _ _ _ Hr.out).mono ?_; rintro e w1 ⟨u, xs, rfl, hx, hxl, hco, hb⟩
      have Hx := Lib.hid hx; have Hb := Lib.hid hb; have Hco := Lib.hid hco; clear hx hb hco
      cases hp : traceOk xs
      · have Hp := Lib.hid hp; clear hp
        go_wp2_with fail
        refine (implTraceOk_c xs _ _ Hx.out).mono ?_; rintro e w2 ⟨rfl, hb⟩; rw [Hp.out]
        have Hx2 := Lib.hid (Hx.out.below hb); have Hb2 := Lib.hid (Hb.out.trans (hb.mono Hb.out.size)); clear hb
        go_wp2_with fail
        refine (specTraceOk_c xs _ _ Hx2.out).mono ?_; rintro e _ ⟨rfl, rfl⟩; rw [Hp.out]
        go_wp2_with fail
        go_ret
        exact ⟨rfl, Hb2.out⟩
      · obtain ⟨ax, cx, rfl⟩ := Hx.out.val
        obtain ⟨hxc, hcm⟩ := Hco.out _ _ _ rfl
        by_cases hz : xs.length = 0
        · have Hp := Lib.hid hp; clear hp
          have hzI : ((xs.length : Int) == 0) = true := by rw [beq_iff_eq]; omega
          clear hz
          go_wp2_with fail
          refine (implTraceOk_c xs _ _ Hx.out).mono ?_; rintro e w2 ⟨rfl, hb⟩; rw [Hp.out]
          have Hx2 := Lib.hid (Hx.out.below hb); have Hb2 := Lib.hid (Hb.out.trans (hb.mono Hb.out.size)); clear hb
          go_wp2_with fail
          refine (specTraceOk_c xs _ _ Hx2.out).mono ?_; rintro e _ ⟨rfl, rfl⟩; rw [Hp.out]
          go_wp2_with fail
          go_ret
          exact ⟨rfl, Hb2.out⟩
        · have hzI : ((xs.length : Int) == 0) = false := by rw [beq_eq_false_iff_ne]; omega
          have hzI2 : ¬ (xs.length : Int) = 0 := by omega
          obtain ⟨k, hk⟩ : ∃ k, len1 % xs.length = k := ⟨_, rfl⟩
          have hkx : k < xs.length := hk ▸ Nat.mod_lt _ (by omega)
          have hkI : (len1 : Int) % (xs.length : Int) = (k : Int) := by rw [← hk]; exact (Int.natCast_emod _ _).symm
          have hkl : (k : Int) < (xs.length : Int) := by omega
          have htp := Lib.hid (traceOk_part hp k)
          have htw := Lib.hid (traceOk_wrong xs k hkx)
          have Hp := Lib.hid hp; clear hp hk hz
          go_wp2_with fail
          refine (implTraceOk_c xs _ _ Hx.out).mono ?_; rintro e w2 ⟨rfl, hb⟩; rw [Hp.out]
          have Hx2 := Lib.hid (Hx.out.below hb); have Hb2 := Lib.hid (Hb.out.trans (hb.mono Hb.out.size)); clear hb
          go_wp2_with fail
          refine (specTraceOk_c xs _ _ Hx2.out).mono ?_; rintro e _ ⟨rfl, rfl⟩; rw [Hp.out]
          clear Hx Hb
          obtain ⟨bh, offh, cph, e, _, _⟩ := Hx2.out.at hkx
          simp only [Value.slice.injEq] at e
          obtain ⟨rfl, _, rfl⟩ := e
          have hA : ∃ A : Addr, (if cx = k + 1 then some (⟨bh, offh, none⟩ : Addr) else some ⟨bh, offh + (k + 1), none⟩) = some A ∧ Hid (RI w2 (.slice (some A) (xs.length - (k + 1)) (cx - (k + 1))) (xs.drop (k + 1))) := by
            by_cases hc1 : k + 1 < xs.length
            · exact ⟨_, if_neg (by omega), Hx2.out.drop (k + 1) hc1⟩
            · have e0 : xs.drop (k + 1) = [] := List.drop_eq_nil_of_le (by omega)
              have e1 : xs.length - (k + 1) = 0 := by omega
              rw [e0, e1]
              by_cases hc2 : cx = k + 1
              · exact ⟨_, if_pos hc2, by simp, .inl ⟨rfl, _, _, rfl, fun h => by cases h⟩⟩
              · exact ⟨_, if_neg hc2, by simp, .inl ⟨rfl, _, _, rfl, fun h => by cases h⟩⟩
          obtain ⟨A, hA, hRA⟩ := hA
          have c1 : Below w2.heap.size w2 (w2.alloc (.cells #[] 3)) := (Below.refl _ _).alloc (Nat.le_refl _) _
          have M1 : Hid (OI (w2.alloc (.cells #[] 3)).drew w2.heap.size (.slice (some ⟨w2.heap.size, 0, none⟩) 0 0) []) := (OI.lit0 (Nat.le_refl _)).drew
          have N1 := Lib.hid ((Hx2.out.take k (by omega)).below c1).drew
          have C1 := Lib.hid (below_drew c1)
          have hq1 := Lib.hid (show ([] : List Int).length + (xs.take k).length ≤ 1099511627776 by rw [List.length_take]; simp; omega)
          have hq2 := Lib.hid (show (xs.take k).length + (xs.drop (k + 1)).length ≤ 1099511627776 by rw [List.length_take, List.length_drop]; omega)
          have hq3 := Lib.hid (show ([] : List Int).length + xs.length ≤ 1099511627776 by simp; omega)
          have hj0 : (0 : Int) ≤ (k : Int) := by omega
          have hj01 : (0 : Int) ≤ (k : Int) + 1 := by omega
          have hjI2 : (k : Int) + 1 ≤ (xs.length : Int) := by omega
          have hjc : k ≤ cx := by omega
          have hjc1 : k + 1 ≤ cx := by omega
          have hjcI : (k : Int) ≤ (cx : Int) := by omega
          have hw1 : IntKind.i64.wrap ((k : Int) + 1) = (k : Int) + 1 := IntWalk.i64_in _ (by omega)
          have hn1 : ((k : Int) + 1).toNat = k + 1 := by omega
          clear c1
          go_wp2_with fail
          go_region_held3 (fun _ => True)
            (trivial)
            (first
              | (refine step_appR rfl _ _ rfl w2.heap.size _ [] rfl M1.out _ (xs.take k) rfl N1.out hq1.out C1.out.size ?_; intro v1 w3 ho1 hg1 _; rw [List.nil_append] at ho1; have hB1 := Below.app C1.out M1.out hg1 (Nat.le_refl _) C1.out.size; have hr1 := hRA.out.below hB1)
              | (refine step_appR rfl _ _ rfl w2.heap.size _ (xs.take k) rfl ho1 _ (xs.drop (k + 1)) rfl hr1 hq2.out hB1.size ?_; intro v2 w4 ho2 hg2 _; have hB2 := Below.app hB1 ho1 hg2 (Nat.le_refl _) hB1.size))
          have Ho2 := Lib.hid ho2
          have BB := Lib.hid hB2
          have Hx4 := Lib.hid (Hx2.out.below hB2)
          clear ho1 hg1 hB1 hr1 hg2 hB2 ho2 hw1 hn1 hA hRA M1 N1 C1
          have d1 : Below w4.heap.size w4 (w4.alloc (.cells #[] 3)) := (Below.refl _ _).alloc (Nat.le_refl _) _
          have hgen : ∀ w5, Hid (∀ v', OI w5 w4.heap.size v' xs → ∃ g cx, v' = .slice (some ⟨g, 0, none⟩) xs.length cx ∧ w4.heap.size ≤ g ∧ w5.cell? ⟨g, k, none⟩ = some (.int .i64 xs[k]) ∧ w5.frozen? ⟨g, k, none⟩ = false) := fun w5 v' h => h.at hkx
          have D1 := Lib.hid d1
          have Hx5 := Lib.hid (Hx4.out.below d1)
          clear d1
          go_wp2_with (at_builtin; refine wpList_appR rfl _ _ rfl w4.heap.size _ [] rfl (OI.lit0 (Nat.le_refl _)) _ xs rfl Hx5.out hq3.out (by simp) ?_; intro v' w5 ho3 hg3; rw [List.nil_append] at ho3; obtain ⟨g, cx, rfl, hbg, hcg, hfg⟩ := (hgen w5).out v' ho3; have Ho3 := Lib.hid ho3; have Hg3 := Lib.hid hg3; clear ho3 hg3)
          have hst := Ho3.out.stored rfl k 16
          have hgl := Ho3.out.lt g rfl
          have hb5 : Below w4.heap.size w4 w5 := Below.app D1.out (OI.lit0 (Nat.le_refl _)) Hg3.out (Nat.le_refl _) (by simp)
          have hb6 := Lib.hid (hb5.trans (grownBy_below hst.2 hgl.1 hb5.size))
          have Hst := Lib.hid hst.1
          have Hx6 := Lib.hid (Ho2.out.ri.below hb6.out)
          have HB := Lib.hid ((Hb2.out.trans (BB.out.mono Hb2.out.size)).trans (hb6.out.mono (Nat.le_trans Hb2.out.size BB.out.size)))
          clear hst hb5 hgl hgen
          obtain ⟨a2, c2, rfl⟩ := Ho2.out.ri.val
          go_wp2_with fail
          refine (implTraceOk_c _ _ _ Hx6.out).mono ?_; rintro e w7 ⟨rfl, hb⟩; rw [htp.out]
          have Hy7 := Lib.hid (Hst.out.below hb); have Hb7 := Lib.hid (HB.out.trans (hb.mono HB.out.size)); clear hb
          go_wp2_with fail
          refine (implTraceOk_c _ _ _ Hy7.out.ri).mono ?_; rintro e w8 ⟨rfl, hb⟩; rw [htw.out]
          have Hb8 := Lib.hid (Hb7.out.trans (hb.mono Hb7.out.size)); clear hb
          go_wp2_with fail
          go_ret
          exact ⟨rfl, Hb8.out⟩
    · have hI0 : ¬ (1048576 : Int) < (len0 : Int) := by omega
      have hI1 : (1048576 : Int) < (len1 : Int) := by omega
      clear h0
      go_enter Try.func3, Try.ntmps3
      go_wp2_with fail
      go_ret
      exact ⟨rfl, Below.refl _ _⟩
  · have hI0 : (1048576 : Int) < (len0 : Int) := by omega
    clear h0
    go_enter Try.func3, Try.ntmps3
    go_wp2_with fail
    go_ret
    exact ⟨rfl, Below.refl _ _⟩
end Go.Proofs.Ytagemgimccocdaa
