/- Contracts: the impl's side: walks; predicates over slices of integers. -/
import Derived.Test.YtfnpjdgjceiklaaGreatDoorKI6
namespace Go.Proofs.YtfnpjdgjceiklaaGreatDoor
open Go.RowKit

set_option maxHeartbeats 1000000 in
theorem AddressCut_c (ad q r s : Nat) (w : World) (ha : ad < 64) (hq : ad / 16 = q) (hr : ad / 4 % 4 = r) (hs : ad % 4 = s) :
    Calls Tryz.prog 161 #[.int .i64 ad] w fun e w' => e = .returned (.tuple #[.int .i64 q, .int .i64 r, .int .i64 s, .bool true]) ∧ w = w' := by
  have Hv := Lib.hid (show Kx.inR (ad : Int) 0 63 = true by rw [Kx.inR_true]; omega)
  have eq : (ad : Int) / 16 = (q : Int) := by omega
  have er : (ad : Int) / 4 % 4 = (r : Int) := by omega
  have es : (ad : Int) % 4 = (s : Int) := by omega
  have haI : (ad : Int) < 64 := by omega
  clear hq hr hs
  go_enter Tryz.func161, Tryz.ntmps161
  go_wp2_with (go_at_call 57; refine (isAddress_c _ _).mono ?_; rintro e w' ⟨rfl, rfl⟩; rw [Hv.out])
  refine bodyPost_ret (v := .tuple #[.int .i64 q, .int .i64 r, .int .i64 s, .bool true]) (by simp [results, Tryz.results161, go_sem, er, es]) rfl ⟨rfl, rfl⟩
set_option maxHeartbeats 1000000 in
theorem implWalk_c (m : List (List Int)) (root ad : Nat) (v : Value) (w : World) (h : RM w v m) (hm : Kx.memOk m = true) (hr : root < 12) (ha : ad < 64) :
    Calls Tryz.prog 106 #[v, .int .i64 root, .int .i64 ad] w fun e w' => e = .returned (walkV (Kx.walk m root ad)) ∧ Below w.heap.size w w' := by
  obtain ⟨q, hq⟩ : ∃ q, ad / 16 = q := ⟨_, rfl⟩
  obtain ⟨r, hr'⟩ : ∃ r, ad / 4 % 4 = r := ⟨_, rfl⟩
  obtain ⟨s, hs⟩ : ∃ s, ad % 4 = s := ⟨_, rfl⟩
  have hal := (Below.refl w.heap.size w).alloc (Nat.le_refl _) (.cells #[.int .i64 0, .int .i64 0, .bool false] 125)
  have hb3 : Hid (∀ c, Below w.heap.size w (w.alloc (.cells c 125))) := fun c => (Below.refl w.heap.size w).alloc (Nat.le_refl _) _
  obtain ⟨b, off, cap, b', off', cap', rfl, h1, h2, h3, h4⟩ := (h.below hal).word hm hr (a := q) (by omega)
  have hq4 : (q : Int) < 4 := by omega
  have hr4 : (r : Int) < 4 := by omega
  have hrI : (root : Int) < 12 := by omega
  have Ha := Lib.hid (fun w => AddressCut_c ad q r s w ha hq hr' hs)
  cases he : Kx.entry (Kx.word m root q) with
  | none =>
    have hw : Kx.walk m root ad = ((0, 0, false), 1) := by unfold Kx.walk; rw [hq, he]
    have He := Lib.hid he; have Hw := Lib.hid hw
    clear he hw hq hr' hs h hal
    generalize Kx.word m root q = x at h2 h3 h4 He
    go_enter Tryz.func106, Tryz.ntmps106
    go_wp2_with fail
    refine (Ha.out _).mono ?_; rintro e w' ⟨rfl, rfl⟩
    go_wp2_with fail
    refine (implEntryGet_c _ _ (by omega)).mono ?_; rintro e w' ⟨rfl, rfl⟩; rw [EgN He.out]
    go_wp2_with fail
    refine bodyPost_ret (v := .tuple #[.agg #[.int .i64 0, .int .i64 0, .bool false], .int .i64 1]) (by simp [results, Tryz.results106, go_sem]) rfl ⟨?_, hb3.out _⟩
    rw [Hw.out]; rfl
  | some p =>
    obtain ⟨t, a⟩ := p
    have ht := Kx.entry_lt he
    obtain ⟨b1, off1, cap1, b2, off2, cap2, e1, g1, g2, g3, g4⟩ := (h.below hal).word hm ht (a := r) (by omega)
    simp only [Value.slice.injEq, Option.some.injEq, Addr.mk.injEq] at e1
    obtain ⟨⟨rfl, rfl, _⟩, _, rfl⟩ := e1
    have htI : (t : Int) < 12 := by omega
    cases he2 : Kx.entry (Kx.word m t r) with
    | none =>
      have hw : Kx.walk m root ad = ((0, 0, false), 2) := by unfold Kx.walk; rw [hq, he]; simp only [hr', he2]
      have He := Lib.hid he; have Hw := Lib.hid hw; have He2 := Lib.hid he2
      clear he hw he2 hq hr' hs h hal
      generalize Kx.word m root q = x at h2 h3 h4 He
      generalize Kx.word m t r = y at g2 g3 g4 He2
      go_enter Tryz.func106, Tryz.ntmps106
      go_wp2_with fail
      refine (Ha.out _).mono ?_; rintro e w' ⟨rfl, rfl⟩
      go_wp2_with fail
      refine (implEntryGet_c _ _ (by omega)).mono ?_; rintro e w' ⟨rfl, rfl⟩; rw [EgS He.out]
      go_wp2_with fail
      refine (implEntryGet_c _ _ (by omega)).mono ?_; rintro e w' ⟨rfl, rfl⟩; rw [EgN He2.out]
      go_wp2_with fail
      refine bodyPost_ret (v := .tuple #[.agg #[.int .i64 0, .int .i64 0, .bool false], .int .i64 2]) (by simp [results, Tryz.results106, go_sem]) rfl ⟨?_, hb3.out _⟩
      rw [Hw.out]; rfl
    | some p =>
      obtain ⟨f, c⟩ := p
      have hw : Kx.walk m root ad = (((f : Int), ((s : Nat) : Int), a && c), 0) := by unfold Kx.walk; rw [hq, he, ← hs]; simp only [hr', he2]
      have He := Lib.hid he; have Hw := Lib.hid hw; have He2 := Lib.hid he2
      clear he hw he2 hq hr' hs h hal
      generalize Kx.word m root q = x at h2 h3 h4 He
      generalize Kx.word m t r = y at g2 g3 g4 He2
      go_enter Tryz.func106, Tryz.ntmps106
      go_wp2_with fail
      refine (Ha.out _).mono ?_; rintro e w' ⟨rfl, rfl⟩
      go_wp2_with fail
      refine (implEntryGet_c _ _ (by omega)).mono ?_; rintro e w' ⟨rfl, rfl⟩; rw [EgS He.out]
      go_wp2_with fail
      refine (implEntryGet_c _ _ (by omega)).mono ?_; rintro e w' ⟨rfl, rfl⟩; rw [EgS He2.out]
      cases a
      · go_wp2_with fail
        refine bodyPost_ret (v := .tuple #[.agg #[.int .i64 f, .int .i64 s, .bool false], .int .i64 0]) (by simp [results, Tryz.results106, go_sem]) rfl ⟨?_, hb3.out _⟩
        rw [Hw.out]; simp [walkV]
      · go_wp2_with fail
        refine bodyPost_ret (v := .tuple #[.agg #[.int .i64 f, .int .i64 s, .bool c], .int .i64 0]) (by simp [results, Tryz.results106, go_sem]) rfl ⟨?_, hb3.out _⟩
        rw [Hw.out]; simp [walkV]
set_option maxHeartbeats 400000 in
theorem IndexIntK_c (g : Nat) (lb : Array Value) (p : Nat → Bool) (l : List Int) (v : Value) (w : World) (h : RI w v l) (hp : PredK g lb l.length (fun k => .int .i64 (l.getD k 0)) p w) :
    Calls Tryz.prog 199 #[v, .func (.func g) #[] lb] w (FoundAt l.length p w) := by
  obtain ⟨a, cap, rfl⟩ := h.val
  obtain ⟨eg, hg⟩ := hp
  have hl := h.1
  have H := Lib.hid h; clear h
  have Hg := Lib.hid hg; clear hg
  go_enter Tryz.func199, Tryz.ntmps199
  go_wp2_with fail
  go_loopw [8] (fun i wr => ∃ k : Nat, i = .int .i64 k ∧ k ≤ l.length ∧ Hid (∀ j, j < k → p j = false) ∧ Hid (Below w.heap.size w wr)) (fun i _ => l.length - (intOf i).toNat)
  case atStart => exact ⟨0, rfl, Nat.zero_le _, fun j hj => absurd hj (Nat.not_lt_zero _), Below.refl _ _⟩
  case round =>
    obtain ⟨k, rfl, hk, hn, hb⟩ := hrel
    by_cases hlt : k < l.length
    · obtain ⟨b, off, cap1, e, _, h1⟩ := (H.out.below hb.out).at hlt
      simp only [Value.slice.injEq] at e
      obtain ⟨rfl, _, rfl⟩ := e
      have hlI : (k : Int) < (l.length : Int) := by omega
      have hcall := Lib.hid (Hg.out k wr hlt hb.out)
      rw [show l.getD k 0 = l[k] from by simp [hlt]] at hcall
      generalize l[k] = x at h1 hcall
      cases hq : p k with
      | true =>
        rw [hq] at hcall
        have Hq := Lib.hid hq; clear hq
        go_wp2_with (go_at_fn g; refine hcall.out.mono ?_; rintro e w' ⟨rfl, hb'⟩; have Hb' := Lib.hid hb'; clear hb')
        go_ret
        exact ⟨_, rfl, .inl ⟨k, hlt, Hq.out, hn.out, rfl⟩, hb.out.trans (Hb'.out.mono hb.out.size)⟩
      | false =>
        rw [hq] at hcall
        have Hq := Lib.hid hq; clear hq
        go_wp2_with (go_at_fn g; refine hcall.out.mono ?_; rintro e w' ⟨rfl, hb'⟩; have Hb' := Lib.hid hb'; clear hb')
        go_roundw
        case rel =>
          refine ⟨k + 1, by go_num, by omega, ?_, hb.out.trans (Hb'.out.mono hb.out.size)⟩
          show ∀ j, j < k + 1 → p j = false
          intro j hj
          by_cases e : j = k
          · subst e; exact Hq.out
          · exact hn.out j (by omega)
        case measure => simp [intOf]; omega
    · have : k = l.length := by omega
      subst this
      go_wp2_with fail
      go_ret
      exact ⟨_, rfl, .inr ⟨hn.out, rfl⟩, hb.out⟩
theorem ContainsIntK_c (g : Nat) (lb : Array Value) (p : Nat → Bool) (l : List Int) (v : Value) (w : World) (h : RI w v l) (hp : PredK g lb l.length (fun k => .int .i64 (l.getD k 0)) p w) :
    Calls Tryz.prog 154 #[v, .func (.func g) #[] lb] w fun e w' => e = .returned (.bool ((List.range l.length).any p)) ∧ Below w.heap.size w w' := by
  have Hc := Lib.hid (IndexIntK_c g lb p l v w h hp)
  clear h hp
  go_enter Tryz.func154, Tryz.ntmps154
  go_wp2_with (go_at_call 199; refine Hc.out.mono ?_; rintro e w' ⟨r, rfl, hf, hb'⟩; have Hb' := Lib.hid hb'; have Hf := Lib.hid hf; clear hb' hf)
  go_ret
  exact ⟨ret_bool Hf.out.any, Hb'.out⟩
theorem TableNeeds_c (x : Int) (w : World) : Calls Tryz.prog 160 #[.int .i64 x] w fun e w' => e = .returned (.int .i64 (Kx.needs x)) ∧ w = w' := by
  by_cases h3 : x = 3
  · subst h3
    go_enter Tryz.func160, Tryz.ntmps160
    go_wp2_with fail
    go_ret
    exact ⟨rfl, rfl⟩
  · have hb3 : (x == 3) = false := by simpa using h3
    by_cases h2 : x = 2
    · subst h2
      go_enter Tryz.func160, Tryz.ntmps160
      go_wp2_with fail
      go_ret
      exact ⟨rfl, rfl⟩
    · have hb2 : (x == 2) = false := by simpa using h2
      have H := Lib.hid (show Kx.needs x = 0 by simp [Kx.needs, Kx.isTab, h2, h3])
      clear h2 h3
      go_enter Tryz.func160, Tryz.ntmps160
      go_wp2_with fail
      go_ret
      exact ⟨ret_int H.out.symm, rfl⟩
end Go.Proofs.YtfnpjdgjceiklaaGreatDoor
