/- Contracts: the laws' copies of kernels and pagers. (printed by kl4.py) -/
import Derived.Test.YtfnpjdgjceiklaaGreatDoorKL3
namespace Go.Proofs.YtfnpjdgjceiklaaGreatDoor
open Go.RowKit

/-- a slice's value -/
structure Slc where
  a : Option Addr
  n : Nat
  c : Nat
def slcV (s : Slc) : Value := .slice s.a s.n s.c
def slcC (s : Slc) : List Value := [slcV s]
def slc2C (x : Slc × Int) : List Value := [slcV x.1, .int .i64 x.2]
instance : Elt slcC 1 := ⟨fun _ => rfl, by decide, fun x u hu => by simp [slcC] at hu; subst hu; rfl⟩
instance : Elt slc2C 2 := ⟨fun _ => rfl, by decide, fun x u hu => by simp [slc2C] at hu; rcases hu with rfl | rfl <;> rfl⟩
theorem RS.map {α β : Type} {f : α → List Value} {g : β → List Value} {sz : Nat} {w : World} {v : Value} {l : List α} (h : RS f sz w v l) (m : α → β) (hm : ∀ x, f x = g (m x)) : RS g sz w v (l.map m) := by
  obtain ⟨h1, h2⟩ := h
  refine ⟨by simpa using h1, ?_⟩
  rcases h2 with ⟨rfl, a, cap, rfl, hc, hn⟩ | ⟨b, off, cap, rfl, h3, h4, hb, hc⟩
  · exact .inl ⟨rfl, a, cap, rfl, hc, hn⟩
  · refine .inr ⟨b, off, cap, by simp, by simpa using h3, h4, hb, fun k hk j u hu => ?_⟩
    have hk' : k < l.length := by simpa using hk
    refine hc k hk' j u ?_
    rw [hm]; simpa using hu
/-- the value's block lies below hi -/
def UB (v : Value) (hi : Nat) : Prop := ∀ k, v.ownBlock = some k → k < hi
theorem UB.mono {v : Value} {a b : Nat} (h : UB v a) (hab : a ≤ b) : UB v b := fun k e => Nat.lt_of_lt_of_le (h k e) hab
theorem OS.ub {α : Type} {f : α → List Value} {sz : Nat} {e : TypeId} {w : World} {base : Nat} {v : Value} {l : List α} (h : OS f sz e w base v l) : UB v w.heap.size := fun k hk => (h.lt k hk).2
theorem grown_set1 (w : World) (g k : Nat) (v : Value) : w.grownBy (w.setCell ⟨g, k, none⟩ v) (some g) := ⟨rfl, rfl, rfl, by simp [World.setCell], fun i hi hne => Below.heap_setCell w ⟨g, k, none⟩ v i (by intro e; exact hne (by rw [e]))⟩
theorem OI.keptG {w w' : World} {base g : Nat} {v : Value} {xs : List Int} (h : OI w base v xs) (hr : g < base) (hg : w.grownBy w' (some g)) : OI w' base v xs := h.keptRb hr hg
theorem OS.keptG {α : Type} {f : α → List Value} {sz : Nat} {e : TypeId} {w w' : World} {base g : Nat} {v : Value} {l : List α} (h : OS f sz e w base v l) (hr : g < base) (hg : w.grownBy w' (some g)) : OS f sz e w' base v l := by
  refine h.kept hg ?_
  cases hv : v.ownBlock with
  | none => exact .inl rfl
  | some k => refine .inr fun e => ?_; have := (h.lt k hv).1; simp at e; omega
/-- Slices of integers of the call's own, in a row of its own, none sharing memory with another. -/
def OM (w : World) (base hi : Nat) (u : Value) (m : List (List Int)) : Prop :=
  ∃ ss : List Slc, ss.length = m.length ∧ (OS slcC 1 28 w base u ss ∧ UB u hi) ∧ (∀ i (h : i < ss.length) (h' : i < m.length), OI w base (slcV ss[i]) m[i] ∧ UB (slcV ss[i]) hi ∧ Sep (slcV ss[i]) u) ∧
    ∀ i j (h : i < ss.length) (h' : j < ss.length), i < j → Sep (slcV ss[j]) (slcV ss[i])
theorem OM.rm {w : World} {base hi : Nat} {u : Value} {m : List (List Int)} (h : OM w base hi u m) : RM w u m := by
  obtain ⟨ss, hl, ho, hr, _⟩ := h
  refine ⟨ss.map slcV, by simpa using hl, ho.1.rs.map slcV (fun _ => rfl), fun i h h' => ?_⟩
  have hi : i < ss.length := by simpa using h
  have := (hr i hi h').1.ri
  simpa using this
theorem OM.below {w w' : World} {base hi : Nat} {u : Value} {m : List (List Int)} (h : OM w base hi u m) (hb : Below w.heap.size w w') : OM w' base hi u m := by
  obtain ⟨ss, hl, ho, hr, hs⟩ := h
  exact ⟨ss, hl, ⟨ho.1.below hb, ho.2⟩, fun i h h' => ⟨(hr i h h').1.below hb, (hr i h h').2⟩, hs⟩
theorem OM.setO {w : World} {base hi g : Nat} {u : Value} {m : List (List Int)} (h : OM w base hi u m) (hg : g < base) (k : Nat) (x : Value) : OM (w.setCell ⟨g, k, none⟩ x) base hi u m := by
  obtain ⟨ss, hl, ho, hr, hs⟩ := h
  exact ⟨ss, hl, ⟨ho.1.keptG hg (grown_set1 w g k x), ho.2⟩, fun i h h' => ⟨(hr i h h').1.keptG hg (grown_set1 w g k x), (hr i h h').2⟩, hs⟩
theorem OM.mono {w : World} {base base' hi hi' : Nat} {u : Value} {m : List (List Int)} (h : OM w base hi u m) (hb : base' ≤ base) (hh : hi ≤ hi') : OM w base' hi' u m := by
  obtain ⟨ss, hl, ho, hr, hs⟩ := h
  exact ⟨ss, hl, ⟨ho.1.mono hb, ho.2.mono hh⟩, fun i h h' => ⟨(hr i h h').1.mono hb, (hr i h h').2.1.mono hh, (hr i h h').2.2⟩, hs⟩
/-- Environments of the call's own. -/
def OE (w : World) (base hi : Nat) (u : Value) (es : List Kx.Env) : Prop :=
  ∃ ss : List (Slc × Int), ss.length = es.length ∧ (OS slc2C 2 82 w base u ss ∧ UB u hi) ∧ (∀ i (h : i < ss.length) (h' : i < es.length), ss[i].2 = es[i].root ∧ OS strC 1 9 w base (slcV ss[i].1) es[i].rights ∧ UB (slcV ss[i].1) hi ∧ Sep (slcV ss[i].1) u) ∧
    ∀ i j (h : i < ss.length) (h' : j < ss.length), i < j → Sep (slcV ss[j].1) (slcV ss[i].1)
theorem OE.re {w : World} {base hi : Nat} {u : Value} {es : List Kx.Env} (h : OE w base hi u es) : REnv w u es := by
  obtain ⟨ss, hl, ho, hr, _⟩ := h
  refine ⟨ss.map fun x => (slcV x.1, x.2), by simpa using hl, ho.1.rs.map _ (fun _ => rfl), fun i h h' => ?_⟩
  have hi : i < ss.length := by simpa using h
  obtain ⟨h1, h2, _⟩ := hr i hi h'
  exact ⟨by simpa using h1, by have := h2.rs; unfold RStr; simpa using this⟩
theorem OE.below {w w' : World} {base hi : Nat} {u : Value} {m : List Kx.Env} (h : OE w base hi u m) (hb : Below w.heap.size w w') : OE w' base hi u m := by
  obtain ⟨ss, hl, ho, hr, hs⟩ := h
  exact ⟨ss, hl, ⟨ho.1.below hb, ho.2⟩, fun i h h' => ⟨(hr i h h').1, (hr i h h').2.1.below hb, (hr i h h').2.2⟩, hs⟩
theorem OE.setO {w : World} {base hi g : Nat} {u : Value} {m : List Kx.Env} (h : OE w base hi u m) (hg : g < base) (k : Nat) (x : Value) : OE (w.setCell ⟨g, k, none⟩ x) base hi u m := by
  obtain ⟨ss, hl, ho, hr, hs⟩ := h
  exact ⟨ss, hl, ⟨ho.1.keptG hg (grown_set1 w g k x), ho.2⟩, fun i h h' => ⟨(hr i h h').1, (hr i h h').2.1.keptG hg (grown_set1 w g k x), (hr i h h').2.2⟩, hs⟩
theorem OE.mono {w : World} {base base' hi hi' : Nat} {u : Value} {m : List Kx.Env} (h : OE w base hi u m) (hb : base' ≤ base) (hh : hi ≤ hi') : OE w base' hi' u m := by
  obtain ⟨ss, hl, ho, hr, hs⟩ := h
  exact ⟨ss, hl, ⟨ho.1.mono hb, ho.2.mono hh⟩, fun i h h' => ⟨(hr i h h').1, (hr i h h').2.1.mono hb, (hr i h h').2.2.1.mono hh, (hr i h h').2.2.2⟩, hs⟩
theorem OI.setOI {w : World} {base g : Nat} {v : Value} {xs : List Int} (h : OI w base v xs) (hr : g < base) (k : Nat) (x : Value) : OI (w.setCell ⟨g, k, none⟩ x) base v xs := h.keptG hr (grown_set1 w g k x)
theorem sep_of_base {α : Type} {f : α → List Value} {sz : Nat} {e : TypeId} {w : World} {base g : Nat} {v u : Value} {l : List α} (h : OS f sz e w base v l) (hu : u.ownBlock = some g) (hg : g < base) : Sep v u := by
  cases hv : v.ownBlock with
  | none => exact .inl hv
  | some k => refine .inr fun e => ?_; have := (h.lt k hv).1; rw [hv, hu] at e; simp at e; omega
/-- the first k rows are copied -/
def MI (w : World) (g : Nat) (m : List (List Int)) (ss : List Slc) (k : Nat) : Prop :=
  (∀ i (h : i < ss.length) (h' : i < m.length), i < k → OI w (g + 1) (slcV ss[i]) m[i]) ∧ ∀ i j (h : i < ss.length) (h' : j < ss.length), i < j → j < k → Sep (slcV ss[j]) (slcV ss[i])
theorem MI.step {w w2 w3 : World} {g : Nat} {m : List (List Int)} {ss : List Slc} {k : Nat} (h : MI w g m ss k) (hb : Below w.heap.size w w2) (s : Slc) (hk : k < ss.length) (hkm : k < m.length) (ho : OI w2 w.heap.size (slcV s) m[k]) (hgw : g < w.heap.size) (hg : w2.grownBy w3 (some g)) : MI w3 g m (ss.set k s) (k + 1) := by
  obtain ⟨h1, h2⟩ := h
  have ho' : OI w2 (g + 1) (slcV s) m[k] := ho.mono (by omega)
  refine ⟨fun i hi hi' hik => ?_, fun i j hi hj hij hjk => ?_⟩
  · by_cases e : i = k
    · subst e
      rw [List.getElem_set_self]
      exact ho'.keptG (by omega) hg
    · rw [List.getElem_set_ne (Ne.symm e)]
      exact ((h1 i (by simpa using hi) hi' (by omega)).below hb).keptG (by omega) hg
  · have hi0 : i < ss.length := by simpa using hi
    have hj0 : j < ss.length := by simpa using hj
    by_cases e : j = k
    · subst e
      rw [List.getElem_set_self, List.getElem_set_ne (by omega)]
      have hA := h1 i hi0 (by omega) hij
      exact Sep.later hA.os ho.os (Nat.le_refl _)
    · rw [List.getElem_set_ne (by omega), List.getElem_set_ne (by omega)]
      exact h2 i j hi0 hj0 hij (by omega)
set_option maxHeartbeats 2000000 in
theorem toIntSS_c (l : List (List Int)) (v : Value) (w : World) (h : RM w v l) (hl20 : l.length ≤ 1048576) : Calls Tryz.prog 43 #[v] w fun e w' => ∃ u, e = .returned u ∧ OM w' w.heap.size w'.heap.size u l ∧ Below w.heap.size w w' := by
  obtain ⟨_, a, cap, rfl, _, _⟩ := h.len
  have H := Lib.hid h; clear h
  obtain ⟨i0, hi, hz0, hz1, hz2⟩ := info_parts info_ints
  have hc1 : i0.bytes * l.length ≤ 281474976710656 := by rw [hz2]; omega
  have hc2 : l.length ≤ maxLen := by unfold maxLen; omega
  go_enter Tryz.func43, Tryz.ntmps43
  go_wp2_with (at_make; refine wpList_make_full _ rfl _ _ 22 rfl w.heap.size 28 i0 (.slice none 0 0) 1 Tryz.underlying22 hi hz0 hz1 .i64 .i64 _ _ l.length rfl rfl rfl rfl hc1 hc2 (Nat.le_refl _) ?_; intro w1 hown hgrow)
  have B1 := Lib.hid (Below.grownNone hgrow)
  have O1 := Lib.hid (show OS slcC 1 28 w1 w.heap.size (.slice (some ⟨w.heap.size, 0, none⟩) l.length l.length) (List.replicate l.length ⟨none, 0, 0⟩) from ⟨by rw [← flat_replicate (f := slcC) (sz := 1) (fun _ => rfl) (by decide) ⟨none, 0, 0⟩ _ rfl l.length, List.length_replicate]; exact hown, by simp; omega⟩)
  clear hi hz0 hz1 hz2 hgrow hown
  go_loopw [4] (fun i wr => ∃ (k : Nat) (ss : List Slc), i = .int .i64 k ∧ k ≤ l.length ∧ Hid (ss.length = l.length) ∧ Hid (OS slcC 1 28 wr w.heap.size (.slice (some ⟨w.heap.size, 0, none⟩) l.length l.length) ss) ∧ Hid (MI wr w.heap.size l ss k) ∧ Hid (Below w.heap.size w wr) ∧ Hid (w.heap.size < wr.heap.size ∨ l.length = 0)) (fun i _ => l.length - (intOf i).toNat)
  case atStart =>
    refine ⟨0, List.replicate l.length ⟨none, 0, 0⟩, rfl, Nat.zero_le _, by simp [Hid], O1.out, ⟨fun i h h' hk => absurd hk (Nat.not_lt_zero _), fun i j h h' _ hk => absurd hk (Nat.not_lt_zero _)⟩, B1.out, ?_⟩
    by_cases h0 : l.length = 0
    · exact .inr h0
    · exact .inl ((O1.out.lt w.heap.size rfl).2)
  case round =>
    clear O1 B1
    obtain ⟨k, ss, rfl, hk, hsl, ho, hmi, hb, hgw⟩ := hrel
    by_cases hlt : k < l.length
    · obtain ⟨b, off, cap1, u, e, _, hx0, hru⟩ := (H.out.below hb.out).at hlt
      rw [show Kx.row l k = l[k] from by simp [Kx.row, hlt]] at hru
      simp only [Value.slice.injEq] at e
      obtain ⟨rfl, _, rfl⟩ := e
      have hlI : (k : Int) < (l.length : Int) := by omega
      have Hgw := Lib.hid (show w.heap.size < wr.heap.size by rcases hgw.out with h | h; exact h; omega)
      have HC := Lib.hid (toIntS_c l[k] u wr hru)
      obtain ⟨a9, c9, rfl⟩ := hru.val
      clear hru
      go_wp2_with fail
      refine HC.out.mono ?_; rintro e w2 ⟨u2, rfl, ho2, hb2⟩
      obtain ⟨a8, c8, rfl⟩ := ho2.ri.val
      have Ho2 := Lib.hid (ho.out.below hb2)
      have B2 := Lib.hid (hb.out.trans (hb2.mono hb.out.size))
      obtain ⟨hst, hgr⟩ := Ho2.out.storedAt hsl.out k ⟨a8, l[k].length, c8⟩ (by have := hsl.out; omega)
      rw [Nat.mul_one] at hst hgr
      have Hst := Lib.hid hst
      have Hmi := Lib.hid (hmi.out.step hb2 ⟨a8, l[k].length, c8⟩ (by have := hsl.out; omega) hlt ho2 Hgw.out hgr)
      have Hsl := Lib.hid (show (ss.set k ⟨a8, l[k].length, c8⟩).length = l.length by rw [List.length_set]; exact hsl.out)
      have Hgw2 := Lib.hid (show w.heap.size < (setAtW w2 w.heap.size k (slcC ⟨a8, l[k].length, c8⟩)).heap.size from Nat.lt_of_lt_of_le Hgw.out (Nat.le_trans hb2.size hgr.size))
      obtain ⟨⟨z0, hz0⟩, hf0⟩ := Ho2.out.cellAt2 k (by have := hsl.out; omega) 0 (by decide)
      rw [Nat.add_zero, Nat.mul_one] at hz0 hf0
      clear hst hgr ho2 hb2 HC
      generalize l[k].length = n8 at Hst Hmi Hsl Hgw2 ⊢
      go_wp2_with fail
      go_roundw
      case rel => exact ⟨k + 1, _, by go_num, by omega, Hsl.out, Hst.out, Hmi.out, below_setAtW (Nat.le_refl _) (slcC ⟨a8, n8, c8⟩) k _ B2.out, .inl Hgw2.out⟩
      case measure => simp [intOf]; omega
    · have hkn : k = l.length := by omega
      have HF := Lib.hid (show OM wr w.heap.size wr.heap.size (.slice (some ⟨w.heap.size, 0, none⟩) l.length l.length) l from
        ⟨ss, hsl.out, ⟨ho.out, ho.out.ub⟩, fun i h h' => ⟨(hmi.out.1 i h h' (by omega)).mono (Nat.le_succ _), (hmi.out.1 i h h' (by omega)).os.ub, sep_of_base (hmi.out.1 i h h' (by omega)).os rfl (Nat.lt_succ_self _)⟩, fun i j h h' hij => hmi.out.2 i j h h' hij (by have := hsl.out; omega)⟩)
      clear hkn
      go_wp2_with fail
      go_ret
      exact ⟨_, rfl, HF.out, hb.out⟩
/-- a block of the call's own and what lies in it -/
def BX (w : World) (g : Nat) (e : TypeId) (cs : List Value) : Prop := w.heap[g]? = some (.cells cs.toArray e (0, 0))
theorem BX.new (w : World) (e : TypeId) (cs : Array Value) : BX (w.alloc (.cells cs e)) w.heap.size e cs.toList := by
  show (w.alloc (.cells cs e)).heap[w.heap.size]? = _
  rw [heap_alloc_new]
theorem BX.lt {w : World} {g : Nat} {e : TypeId} {cs : List Value} (h : BX w g e cs) : g < w.heap.size := by
  have h : w.heap[g]? = some (.cells cs.toArray e (0, 0)) := h
  exact (Array.getElem?_eq_some_iff.1 h).1
theorem BX.below {w wz : World} {g : Nat} {e : TypeId} {cs : List Value} (h : BX w g e cs) (hb : Below w.heap.size w wz) : BX wz g e cs := (hb.block g h.lt).trans h
theorem BX.set {w : World} {g : Nat} {e : TypeId} {cs : List Value} (h : BX w g e cs) (k : Nat) (v : Value) : BX (w.setCell ⟨g, k, none⟩ v) g e (cs.set k v) := by
  have := heap_setCell_same w g k cs.toArray e v h
  unfold BX; rw [this]; simp
theorem BX.other {w : World} {g : Nat} {e : TypeId} {cs : List Value} (h : BX w g e cs) {g' : Nat} (hne : g ≠ g') (k : Nat) (v : Value) : BX (w.setCell ⟨g', k, none⟩ v) g e cs := (Below.heap_setCell w ⟨g', k, none⟩ v g hne).trans h
theorem BX.cell {w : World} {g : Nat} {e : TypeId} {cs : List Value} (h : BX w g e cs) (k : Nat) : w.cell? ⟨g, k, none⟩ = cs[k]? := by
  have h : w.heap[g]? = some (.cells cs.toArray e (0, 0)) := h
  simp [World.cell?, h]
theorem BX.frozen {w : World} {g : Nat} {e : TypeId} {cs : List Value} (h : BX w g e cs) (k : Nat) : w.frozen? ⟨g, k, none⟩ = false := by
  have h : w.heap[g]? = some (.cells cs.toArray e (0, 0)) := h
  simp [World.frozen?, h]
theorem OS.setO {α : Type} {f : α → List Value} {sz : Nat} {e : TypeId} {w : World} {base g : Nat} {v : Value} {l : List α} (h : OS f sz e w base v l) (hg : g < base) (k : Nat) (x : Value) : OS f sz e (w.setCell ⟨g, k, none⟩ x) base v l := h.keptG hg (grown_set1 w g k x)
set_option maxHeartbeats 1000000 in
theorem toEnv_c (l : List Kx.Str) (u : Value) (r : Int) (w : World) (h : RStr w u l) (hl20 : l.length ≤ 1048576) : Calls Tryz.prog 121 #[.agg #[u, .int .i64 r]] w fun e w' => ∃ s : Slc, e = .returned (.agg #[slcV s, .int .i64 r]) ∧ OS strC 1 9 w' w.heap.size (slcV s) l ∧ Below w.heap.size w w' := by
  obtain ⟨a, cap, rfl, _, _⟩ := RS.val h
  obtain ⟨w0, hw0⟩ : ∃ w0, w.alloc (.cells #[.slice a l.length cap, .int .i64 r] 139) = w0 := ⟨_, rfl⟩
  obtain ⟨w1, hw1⟩ : ∃ w1, w0.alloc (.cells #[.slice none 0 0, .int .i64 0] 82) = w1 := ⟨_, rfl⟩
  obtain ⟨w2, hw2⟩ : ∃ w2, w1.alloc (.cells #[.slice none 0 0, .int .i64 0] 82) = w2 := ⟨_, rfl⟩
  have B0 := Lib.hid (show Below w.heap.size w w0 from hw0 ▸ Below.lit (Below.refl _ _) _)
  have B1 := Lib.hid (show Below w0.heap.size w0 w1 from hw1 ▸ Below.lit (Below.refl _ _) _)
  have B2 := Lib.hid (show Below w1.heap.size w1 w2 from hw2 ▸ Below.lit (Below.refl _ _) _)
  have X0 := Lib.hid (show BX w2 w.heap.size 139 [.slice a l.length cap, .int .i64 r] from ((hw0 ▸ BX.new w _ _ : BX w0 _ _ _).below B1.out).below B2.out)
  have X1 := Lib.hid (show BX w2 w0.heap.size 82 [.slice none 0 0, .int .i64 0] from (hw1 ▸ BX.new w0 _ _ : BX w1 _ _ _).below B2.out)
  have X2 := Lib.hid (show BX w2 w1.heap.size 82 [.slice none 0 0, .int .i64 0] from (hw2 ▸ BX.new w1 _ _ : BX w2 _ _ _))
  have Bw2 := Lib.hid (B0.out.trans ((B1.out.trans (B2.out.mono B1.out.size)).mono B0.out.size))
  have s0 : w.heap.size < w0.heap.size := by rw [← hw0]; simp
  have s1 : w0.heap.size < w1.heap.size := by rw [← hw1]; simp
  have s2 : w1.heap.size < w2.heap.size := by rw [← hw2]; simp
  have HC := Lib.hid (toStringS_c l _ w2 (RS.below h Bw2.out) hl20)
  have e0 := X0.out.cell 0
  clear h B0 B1 B2
  go_enter Tryz.func121, Tryz.ntmps121
  -- RW
  go_wp2_with fail
  refine HC.out.mono ?_; rintro e w3 ⟨u2, rfl, ho2, hb2⟩
  obtain ⟨a2, c2, rfl, _, _⟩ := RS.val ho2.rs
  have Y0 := Lib.hid (X0.out.below hb2)
  have Y1 := Lib.hid (X1.out.below hb2)
  have Y2 := Lib.hid (X2.out.below hb2)
  have Ho := Lib.hid ho2
  have Hb := Lib.hid (Bw2.out.trans (hb2.mono Bw2.out.size))
  have y01 : w3.cell? ⟨w.heap.size, 1, none⟩ = some (.int .i64 r) := Y0.out.cell 1
  have y10 : w3.cell? ⟨w0.heap.size, 0, none⟩ = some (.slice none 0 0) := Y1.out.cell 0
  have y11 : w3.cell? ⟨w0.heap.size, 1, none⟩ = some (.int .i64 0) := Y1.out.cell 1
  have y20 : w3.cell? ⟨w1.heap.size, 0, none⟩ = some (.slice none 0 0) := Y2.out.cell 0
  have y21 : w3.cell? ⟨w1.heap.size, 1, none⟩ = some (.int .i64 0) := Y2.out.cell 1
  have g10 := Y1.out.frozen 0
  have g11 := Y1.out.frozen 1
  have g20 := Y2.out.frozen 0
  have g21 := Y2.out.frozen 1
  clear ho2 hb2 X0 X1 X2 HC e0
  go_wp2_with fail
  have Z := (((Y1.out.other (g' := w1.heap.size) (by omega) 0 (.slice a2 l.length c2)).other (g' := w1.heap.size) (by omega) 1 (.int .i64 r)).set 0 (.slice a2 l.length c2)).set 1 (.int .i64 r)
  have z0 := Z.cell 0
  have z1 := Z.cell 1
  refine bodyPost_ret (v := .agg #[.slice a2 l.length c2, .int .i64 r]) (by simp [results, Tryz.results121, go_sem, z0, z1]) rfl ⟨⟨a2, l.length, c2⟩, rfl, ?_, ?_⟩
  · exact ((((Ho.out.setO (by omega) _ _).setO (by omega) _ _).setO (by omega) _ _).setO (by omega) _ _).mono (by omega)
  · exact (((Hb.out.setCell (p := ⟨w1.heap.size, 0, none⟩) (by show w.heap.size ≤ w1.heap.size; omega) _).setCell (p := ⟨w1.heap.size, 1, none⟩) (by show w.heap.size ≤ w1.heap.size; omega) _).setCell (p := ⟨w0.heap.size, 0, none⟩) (by show w.heap.size ≤ w0.heap.size; omega) _).setCell (p := ⟨w0.heap.size, 1, none⟩) (by show w.heap.size ≤ w0.heap.size; omega) _
/-- the first k environments are copied -/
def ME (w : World) (g : Nat) (m : List Kx.Env) (ss : List (Slc × Int)) (k : Nat) : Prop :=
  (∀ i (h : i < ss.length) (h' : i < m.length), i < k → ss[i].2 = m[i].root ∧ OS strC 1 9 w (g + 1) (slcV ss[i].1) m[i].rights) ∧ ∀ i j (h : i < ss.length) (h' : j < ss.length), i < j → j < k → Sep (slcV ss[j].1) (slcV ss[i].1)
theorem ME.step {w w2 w3 : World} {g : Nat} {m : List Kx.Env} {ss : List (Slc × Int)} {k : Nat} (h : ME w g m ss k) (hb : Below w.heap.size w w2) (s : Slc) (r : Int) (hk : k < ss.length) (hkm : k < m.length) (hr : r = m[k].root) (ho : OS strC 1 9 w2 w.heap.size (slcV s) m[k].rights) (hgw : g < w.heap.size) (hg : w2.grownBy w3 (some g)) : ME w3 g m (ss.set k (s, r)) (k + 1) := by
  obtain ⟨h1, h2⟩ := h
  have ho' : OS strC 1 9 w2 (g + 1) (slcV s) m[k].rights := ho.mono (by omega)
  refine ⟨fun i hi hi' hik => ?_, fun i j hi hj hij hjk => ?_⟩
  · by_cases e : i = k
    · subst e
      rw [List.getElem_set_self]
      exact ⟨hr, ho'.keptG (by omega) hg⟩
    · rw [List.getElem_set_ne (Ne.symm e)]
      have := h1 i (by simpa using hi) hi' (by omega)
      exact ⟨this.1, (this.2.below hb).keptG (by omega) hg⟩
  · have hi0 : i < ss.length := by simpa using hi
    have hj0 : j < ss.length := by simpa using hj
    by_cases e : j = k
    · subst e
      rw [List.getElem_set_self, List.getElem_set_ne (by omega)]
      have hA := (h1 i hi0 (by omega) hij).2
      exact Sep.later hA ho (Nat.le_refl _)
    · rw [List.getElem_set_ne (by omega), List.getElem_set_ne (by omega)]
      exact h2 i j hi0 hj0 hij (by omega)
set_option maxHeartbeats 2000000 in
theorem toEnvS_c (l : List Kx.Env) (v : Value) (w : World) (h : REnv w v l) (hl20 : l.length ≤ 1048576) (hlr : ∀ x ∈ l, x.rights.length ≤ 1048576) : Calls Tryz.prog 64 #[v] w fun e w' => ∃ u, e = .returned u ∧ OE w' w.heap.size w'.heap.size u l ∧ Below w.heap.size w w' := by
  obtain ⟨_, a, cap, rfl, _, _⟩ := h.len
  have H := Lib.hid h; clear h
  have Hlr := Lib.hid hlr; clear hlr
  obtain ⟨i0, hi, hz0, hz1, hz2⟩ := info_parts info_env
  have hc1 : i0.bytes * l.length ≤ 281474976710656 := by rw [hz2]; omega
  have hc2 : l.length ≤ maxLen := by unfold maxLen; omega
  go_enter Tryz.func64, Tryz.ntmps64
  go_wp2_with (at_make; refine wpList_make_full _ rfl _ _ 35 rfl w.heap.size 82 i0 (.agg #[.slice none 0 0, .int .i64 0]) 2 Tryz.underlying35 hi hz0 hz1 .i64 .i64 _ _ l.length rfl rfl rfl rfl hc1 hc2 (Nat.le_refl _) ?_; intro w1 hown hgrow)
  have B1 := Lib.hid (Below.grownNone hgrow)
  have O1 := Lib.hid (show OS slc2C 2 82 w1 w.heap.size (.slice (some ⟨w.heap.size, 0, none⟩) l.length l.length) (List.replicate l.length (⟨none, 0, 0⟩, 0)) from ⟨by rw [← flat_replicate (f := slc2C) (sz := 2) (fun _ => rfl) (by decide) (⟨none, 0, 0⟩, 0) _ rfl l.length, List.length_replicate]; exact hown, by simp; omega⟩)
  clear hi hz0 hz1 hz2 hgrow hown
  go_loopw [4] (fun i wr => ∃ (k : Nat) (ss : List (Slc × Int)), i = .int .i64 k ∧ k ≤ l.length ∧ Hid (ss.length = l.length) ∧ Hid (OS slc2C 2 82 wr w.heap.size (.slice (some ⟨w.heap.size, 0, none⟩) l.length l.length) ss) ∧ Hid (ME wr w.heap.size l ss k) ∧ Hid (Below w.heap.size w wr) ∧ Hid (w.heap.size < wr.heap.size ∨ l.length = 0)) (fun i _ => l.length - (intOf i).toNat)
  case atStart =>
    refine ⟨0, List.replicate l.length (⟨none, 0, 0⟩, 0), rfl, Nat.zero_le _, by simp [Hid], O1.out, ⟨fun i h h' hk => absurd hk (Nat.not_lt_zero _), fun i j h h' _ hk => absurd hk (Nat.not_lt_zero _)⟩, B1.out, ?_⟩
    by_cases h0 : l.length = 0
    · exact .inr h0
    · exact .inl ((O1.out.lt w.heap.size rfl).2)
  case round =>
    clear O1 B1
    obtain ⟨k, ss, rfl, hk, hsl, ho, hmi, hb, hgw⟩ := hrel
    by_cases hlt : k < l.length
    · obtain ⟨b, off, cap1, u, e, _, hx0, hx1, hru⟩ := (H.out.below hb.out).at hlt
      rw [show Kx.envAt l k = l[k] from by simp [Kx.envAt, hlt]] at hx1 hru
      simp only [Value.slice.injEq] at e
      obtain ⟨rfl, _, rfl⟩ := e
      have hlI : (k : Int) < (l.length : Int) := by omega
      have Hgw := Lib.hid (show w.heap.size < wr.heap.size by rcases hgw.out with h | h; exact h; omega)
      have HC := Lib.hid (toEnv_c l[k].rights u l[k].root wr hru (Hlr.out _ (List.getElem_mem hlt)))
      obtain ⟨a9, c9, rfl, _, _⟩ := RS.val hru
      clear hru
      generalize hrt : l[k].root = r at HC hx1
      have Hrt := Lib.hid hrt; clear hrt
      go_wp2_with fail
      refine HC.out.mono ?_; rintro e w2 ⟨⟨a8, n8, c8⟩, rfl, ho2, hb2⟩
      have Ho2 := Lib.hid (ho.out.below hb2)
      have B2 := Lib.hid (hb.out.trans (hb2.mono hb.out.size))
      obtain ⟨hst, hgr⟩ := Ho2.out.storedAt hsl.out k (⟨a8, n8, c8⟩, r) (by have := hsl.out; omega)
      have Hst := Lib.hid hst
      have Hmi := Lib.hid (hmi.out.step hb2 ⟨a8, n8, c8⟩ r (by have := hsl.out; omega) hlt Hrt.out.symm ho2 Hgw.out hgr)
      have Hsl := Lib.hid (show (ss.set k (⟨a8, n8, c8⟩, r)).length = l.length by rw [List.length_set]; exact hsl.out)
      have Hgw2 := Lib.hid (show w.heap.size < (setAtW w2 w.heap.size (k * 2) (slc2C (⟨a8, n8, c8⟩, r))).heap.size from Nat.lt_of_lt_of_le Hgw.out (Nat.le_trans hb2.size hgr.size))
      obtain ⟨⟨z0, hz0⟩, hf0⟩ := Ho2.out.cellAt2 k (by have := hsl.out; omega) 0 (by decide)
      obtain ⟨⟨z1, hz1⟩, hf1⟩ := Ho2.out.cellAt2 k (by have := hsl.out; omega) 1 (by decide)
      rw [Nat.add_zero] at hz0 hf0
      clear hst hgr ho2 hb2 HC
      unfold slcV
      go_wp2_with fail
      go_roundw
      case rel => exact ⟨k + 1, _, by go_num, by omega, Hsl.out, Hst.out, Hmi.out, below_setAtW (Nat.le_refl _) (slc2C (⟨a8, n8, c8⟩, r)) (k * 2) _ B2.out, .inl Hgw2.out⟩
      case measure => simp [intOf]; omega
    · have hkn : k = l.length := by omega
      have HF := Lib.hid (show OE wr w.heap.size wr.heap.size (.slice (some ⟨w.heap.size, 0, none⟩) l.length l.length) l from
        ⟨ss, hsl.out, ⟨ho.out, ho.out.ub⟩, fun i h h' => ⟨(hmi.out.1 i h h' (by omega)).1, (hmi.out.1 i h h' (by omega)).2.mono (Nat.le_succ _), (hmi.out.1 i h h' (by omega)).2.ub, sep_of_base (hmi.out.1 i h h' (by omega)).2 rfl (Nat.lt_succ_self _)⟩, fun i j h h' hij => hmi.out.2 i j h h' hij (by have := hsl.out; omega)⟩)
      clear hkn
      go_wp2_with fail
      go_ret
      exact ⟨_, rfl, HF.out, hb.out⟩
/-- what a copied kernel is made of: memory of the call's own, each part beside the others -/
def OK (w : World) (base hi : Nat) (um ui ue uc : Value) (k : Kx.Kernel) : Prop :=
  ∃ b1 b2 b3, (base ≤ b1 ∧ b1 ≤ b2 ∧ b2 ≤ b3 ∧ b3 ≤ hi) ∧ OM w base b1 um k.mem ∧ (OS infoC 3 111 w b1 ui k.infos ∧ UB ui b2) ∧ OE w b2 b3 ue k.envs ∧ (OS cachedC 4 123 w b3 uc k.cache ∧ UB uc hi)
theorem OK.rk {w : World} {base hi : Nat} {um ui ue uc : Value} {k : Kx.Kernel} (h : OK w base hi um ui ue uc k) : RK w um ui ue uc k := by
  obtain ⟨b1, b2, b3, _, h1, h2, h3, h4⟩ := h
  exact ⟨h1.rm, h2.1.rs, h3.re, h4.1.rs⟩
theorem OK.below {w w' : World} {base hi : Nat} {um ui ue uc : Value} {k : Kx.Kernel} (h : OK w base hi um ui ue uc k) (hb : Below w.heap.size w w') : OK w' base hi um ui ue uc k := by
  obtain ⟨b1, b2, b3, h0, h1, h2, h3, h4⟩ := h
  exact ⟨b1, b2, b3, h0, h1.below hb, ⟨h2.1.below hb, h2.2⟩, h3.below hb, ⟨h4.1.below hb, h4.2⟩⟩
theorem OK.setO {w : World} {base hi g : Nat} {um ui ue uc : Value} {k : Kx.Kernel} (h : OK w base hi um ui ue uc k) (hg : g < base) (o : Nat) (x : Value) : OK (w.setCell ⟨g, o, none⟩ x) base hi um ui ue uc k := by
  obtain ⟨b1, b2, b3, h0, h1, h2, h3, h4⟩ := h
  exact ⟨b1, b2, b3, h0, h1.setO hg o x, ⟨h2.1.setO (by omega) o x, h2.2⟩, h3.setO (by omega) o x, ⟨h4.1.setO (by omega) o x, h4.2⟩⟩
theorem OK.mono {w : World} {base base' hi hi' : Nat} {um ui ue uc : Value} {k : Kx.Kernel} (h : OK w base hi um ui ue uc k) (hb : base' ≤ base) (hh : hi ≤ hi') : OK w base' hi' um ui ue uc k := by
  obtain ⟨b1, b2, b3, h0, h1, h2, h3, h4⟩ := h
  exact ⟨b1, b2, b3, by omega, h1.mono hb (Nat.le_refl _), h2, h3, ⟨h4.1, h4.2.mono hh⟩⟩
/-- what a copied pager is made of -/
def OP (w : World) (base hi : Nat) (um ui ue uc us ul up : Value) (p : Kx.Pager) : Prop :=
  ∃ b1 b2 b3, (base ≤ b1 ∧ b1 ≤ b2 ∧ b2 ≤ b3 ∧ b3 ≤ hi) ∧ OK w base b1 um ui ue uc p.k ∧ OM w b1 b2 us p.swap ∧ (OI w b2 ul p.low ∧ UB ul b3) ∧ (OS pageC 3 90 w b3 up p.pages ∧ UB up hi)
theorem OP.rp {w : World} {base hi : Nat} {um ui ue uc us ul up : Value} {p : Kx.Pager} (h : OP w base hi um ui ue uc us ul up p) : RP w um ui ue uc us ul up p := by
  obtain ⟨b1, b2, b3, _, h1, h2, h3, h4⟩ := h
  exact ⟨h1.rk, h2.rm, h3.1.ri, h4.1.rs⟩
set_option maxHeartbeats 2000000 in
theorem toKernel_c (k : Kx.Kernel) (vm vi ve vc : Value) (w : World) (h : RK w vm vi ve vc k) (h1 : k.mem.length ≤ 1048576) (h2 : k.infos.length ≤ 1048576) (h3 : k.envs.length ≤ 1048576) (h3' : ∀ x ∈ k.envs, x.rights.length ≤ 1048576) (h4 : k.cache.length ≤ 1048576) :
    Calls Tryz.prog 17 #[.agg #[vm, vi, ve, vc]] w fun e w' => ∃ um ui ue uc, e = .returned (.agg #[um, ui, ue, uc]) ∧ OK w' w.heap.size w'.heap.size um ui ue uc k ∧ Below w.heap.size w w' := by
  have H := Lib.hid h; have H3 := Lib.hid h3'
  obtain ⟨_, am, cm, rfl, _, _⟩ := h.m.len
  obtain ⟨ai, ci, rfl, _, _⟩ := RS.val h.i
  obtain ⟨_, ae, ce, rfl, _, _⟩ := h.e.len
  obtain ⟨ac, cc, rfl, _, _⟩ := RS.val h.c
  clear h h3'
  obtain ⟨w0, hw0⟩ : ∃ w0, w.alloc (.cells #[.slice am k.mem.length cm, .slice ai k.infos.length ci, .slice ae k.envs.length ce, .slice ac k.cache.length cc] 27) = w0 := ⟨_, rfl⟩
  obtain ⟨w1, hw1⟩ : ∃ w1, w0.alloc (.cells #[.slice none 0 0, .slice none 0 0, .slice none 0 0, .slice none 0 0] 38) = w1 := ⟨_, rfl⟩
  obtain ⟨w2, hw2⟩ : ∃ w2, w1.alloc (.cells #[.slice none 0 0, .slice none 0 0, .slice none 0 0, .slice none 0 0] 38) = w2 := ⟨_, rfl⟩
  have B0 := Lib.hid (show Below w.heap.size w w0 from hw0 ▸ Below.lit (Below.refl _ _) _)
  have B1 := Lib.hid (show Below w0.heap.size w0 w1 from hw1 ▸ Below.lit (Below.refl _ _) _)
  have B2 := Lib.hid (show Below w1.heap.size w1 w2 from hw2 ▸ Below.lit (Below.refl _ _) _)
  have X0 := Lib.hid (show BX w2 w.heap.size 27 [.slice am k.mem.length cm, .slice ai k.infos.length ci, .slice ae k.envs.length ce, .slice ac k.cache.length cc] from ((hw0 ▸ BX.new w _ _ : BX w0 _ _ _).below B1.out).below B2.out)
  have X1 := Lib.hid (show BX w2 w0.heap.size 38 [.slice none 0 0, .slice none 0 0, .slice none 0 0, .slice none 0 0] from (hw1 ▸ BX.new w0 _ _ : BX w1 _ _ _).below B2.out)
  have X2 := Lib.hid (show BX w2 w1.heap.size 38 [.slice none 0 0, .slice none 0 0, .slice none 0 0, .slice none 0 0] from (hw2 ▸ BX.new w1 _ _ : BX w2 _ _ _))
  have Bw := Lib.hid (B0.out.trans ((B1.out.trans (B2.out.mono B1.out.size)).mono B0.out.size))
  have s0 : w.heap.size < w0.heap.size := by rw [← hw0]; simp
  have s1 : w0.heap.size < w1.heap.size := by rw [← hw1]; simp
  have s2 : w1.heap.size < w2.heap.size := by rw [← hw2]; simp
  clear B0 B1 B2
  have HC := Lib.hid (toIntSS_c k.mem _ w2 (H.out.m.below Bw.out) h1)
  have p0 : w2.cell? ⟨w.heap.size, 0, none⟩ = some (.slice am k.mem.length cm) := X0.out.cell 0
  have p1 : w2.cell? ⟨w.heap.size, 1, none⟩ = some (.slice ai k.infos.length ci) := X0.out.cell 1
  have p2 : w2.cell? ⟨w.heap.size, 2, none⟩ = some (.slice ae k.envs.length ce) := X0.out.cell 2
  have p3 : w2.cell? ⟨w.heap.size, 3, none⟩ = some (.slice ac k.cache.length cc) := X0.out.cell 3
  go_enter Tryz.func17, Tryz.ntmps17
  go_wp2_with fail
  clear p0 p1 p2 p3
  refine HC.out.mono ?_; rintro e w3 ⟨u0, rfl, ho, hb⟩
  obtain ⟨_, a0, c0, rfl, _, _⟩ := ho.rm.len
  have zw3 : w2.heap.size ≤ w3.heap.size := hb.size
  replace X0 := Lib.hid (X0.out.below hb)
  replace X1 := Lib.hid (X1.out.below hb)
  replace X2 := Lib.hid (X2.out.below hb)
  replace Bw := Lib.hid (Bw.out.trans (hb.mono Bw.out.size))
  have Q0 := Lib.hid (ho )
  clear ho hb HC
  have o0 : w3.cell? ⟨w1.heap.size, 0, none⟩ = some (.slice none 0 0) := X2.out.cell 0
  have fo0 := X2.out.frozen 0
  obtain ⟨w4, hw4⟩ : ∃ W, w3.setCell ⟨w1.heap.size, 0, none⟩ (.slice a0 k.mem.length c0) = W := ⟨_, rfl⟩
  replace X0 := Lib.hid (hw4 ▸ (X0.out.other (g' := w1.heap.size) (by omega) 0 (.slice a0 k.mem.length c0)) : BX w4 w.heap.size _ _)
  replace X1 := Lib.hid (hw4 ▸ (X1.out.other (g' := w1.heap.size) (by omega) 0 (.slice a0 k.mem.length c0)) : BX w4 w0.heap.size _ _)
  replace X2 := Lib.hid (hw4 ▸ (X2.out.set 0 (.slice a0 k.mem.length c0)) : BX w4 w1.heap.size _ _)
  replace Bw := Lib.hid (hw4 ▸ (Bw.out.setCell (p := ⟨w1.heap.size, 0, none⟩) (show w.heap.size ≤ w1.heap.size by omega) (.slice a0 k.mem.length c0)) : Below w.heap.size w w4)
  replace Q0 := Lib.hid (hw4 ▸ (Q0.out.setO (g := w1.heap.size) (by omega) 0 (.slice a0 k.mem.length c0)) : OM w4 _ _ _ _)
  have zw4 : w4.heap.size = w3.heap.size := by rw [← hw4]; simp [World.setCell]
  have p0 : w4.cell? ⟨w.heap.size, 0, none⟩ = some (.slice am k.mem.length cm) := X0.out.cell 0
  have p1 : w4.cell? ⟨w.heap.size, 1, none⟩ = some (.slice ai k.infos.length ci) := X0.out.cell 1
  have p2 : w4.cell? ⟨w.heap.size, 2, none⟩ = some (.slice ae k.envs.length ce) := X0.out.cell 2
  have p3 : w4.cell? ⟨w.heap.size, 3, none⟩ = some (.slice ac k.cache.length cc) := X0.out.cell 3
  have HC := Lib.hid (toInfoS_c k.infos _ w4 (RS.below H.out.i Bw.out) h2)
  go_wp2_with fail
  clear p0 p1 p2 p3 o0 fo0
  refine HC.out.mono ?_; rintro e w5 ⟨u1, rfl, ho, hb⟩
  obtain ⟨a1, c1, rfl, _, _⟩ := RS.val ho.rs
  have zw5 : w4.heap.size ≤ w5.heap.size := hb.size
  replace X0 := Lib.hid (X0.out.below hb)
  replace X1 := Lib.hid (X1.out.below hb)
  replace X2 := Lib.hid (X2.out.below hb)
  replace Q0 := Lib.hid (Q0.out.below hb)
  replace Bw := Lib.hid (Bw.out.trans (hb.mono Bw.out.size))
  have Q1 := Lib.hid ((show OS infoC 3 111 w5 _ _ k.infos from ho) )
  have U1 := Lib.hid ho.ub
  clear ho hb HC
  have o1 : w5.cell? ⟨w1.heap.size, 1, none⟩ = some (.slice none 0 0) := X2.out.cell 1
  have fo1 := X2.out.frozen 1
  obtain ⟨w6, hw6⟩ : ∃ W, w5.setCell ⟨w1.heap.size, 1, none⟩ (.slice a1 k.infos.length c1) = W := ⟨_, rfl⟩
  replace X0 := Lib.hid (hw6 ▸ (X0.out.other (g' := w1.heap.size) (by omega) 1 (.slice a1 k.infos.length c1)) : BX w6 w.heap.size _ _)
  replace X1 := Lib.hid (hw6 ▸ (X1.out.other (g' := w1.heap.size) (by omega) 1 (.slice a1 k.infos.length c1)) : BX w6 w0.heap.size _ _)
  replace X2 := Lib.hid (hw6 ▸ (X2.out.set 1 (.slice a1 k.infos.length c1)) : BX w6 w1.heap.size _ _)
  replace Bw := Lib.hid (hw6 ▸ (Bw.out.setCell (p := ⟨w1.heap.size, 1, none⟩) (show w.heap.size ≤ w1.heap.size by omega) (.slice a1 k.infos.length c1)) : Below w.heap.size w w6)
  replace Q0 := Lib.hid (hw6 ▸ (Q0.out.setO (g := w1.heap.size) (by omega) 1 (.slice a1 k.infos.length c1)) : OM w6 _ _ _ _)
  replace Q1 := Lib.hid (hw6 ▸ (Q1.out.setO (g := w1.heap.size) (by omega) 1 (.slice a1 k.infos.length c1)) : OS infoC 3 111 w6 _ _ _)
  have zw6 : w6.heap.size = w5.heap.size := by rw [← hw6]; simp [World.setCell]
  have p0 : w6.cell? ⟨w.heap.size, 0, none⟩ = some (.slice am k.mem.length cm) := X0.out.cell 0
  have p1 : w6.cell? ⟨w.heap.size, 1, none⟩ = some (.slice ai k.infos.length ci) := X0.out.cell 1
  have p2 : w6.cell? ⟨w.heap.size, 2, none⟩ = some (.slice ae k.envs.length ce) := X0.out.cell 2
  have p3 : w6.cell? ⟨w.heap.size, 3, none⟩ = some (.slice ac k.cache.length cc) := X0.out.cell 3
  have HC := Lib.hid (toEnvS_c k.envs _ w6 (H.out.e.below Bw.out) h3 H3.out)
  go_wp2_with fail
  clear p0 p1 p2 p3 o1 fo1
  refine HC.out.mono ?_; rintro e w7 ⟨u2, rfl, ho, hb⟩
  obtain ⟨_, a2, c2, rfl, _, _⟩ := ho.re.len
  have zw7 : w6.heap.size ≤ w7.heap.size := hb.size
  replace X0 := Lib.hid (X0.out.below hb)
  replace X1 := Lib.hid (X1.out.below hb)
  replace X2 := Lib.hid (X2.out.below hb)
  replace Q0 := Lib.hid (Q0.out.below hb)
  replace Q1 := Lib.hid (Q1.out.below hb)
  replace Bw := Lib.hid (Bw.out.trans (hb.mono Bw.out.size))
  have Q2 := Lib.hid (ho )
  clear ho hb HC
  have o2 : w7.cell? ⟨w1.heap.size, 2, none⟩ = some (.slice none 0 0) := X2.out.cell 2
  have fo2 := X2.out.frozen 2
  obtain ⟨w8, hw8⟩ : ∃ W, w7.setCell ⟨w1.heap.size, 2, none⟩ (.slice a2 k.envs.length c2) = W := ⟨_, rfl⟩
  replace X0 := Lib.hid (hw8 ▸ (X0.out.other (g' := w1.heap.size) (by omega) 2 (.slice a2 k.envs.length c2)) : BX w8 w.heap.size _ _)
  replace X1 := Lib.hid (hw8 ▸ (X1.out.other (g' := w1.heap.size) (by omega) 2 (.slice a2 k.envs.length c2)) : BX w8 w0.heap.size _ _)
  replace X2 := Lib.hid (hw8 ▸ (X2.out.set 2 (.slice a2 k.envs.length c2)) : BX w8 w1.heap.size _ _)
  replace Bw := Lib.hid (hw8 ▸ (Bw.out.setCell (p := ⟨w1.heap.size, 2, none⟩) (show w.heap.size ≤ w1.heap.size by omega) (.slice a2 k.envs.length c2)) : Below w.heap.size w w8)
  replace Q0 := Lib.hid (hw8 ▸ (Q0.out.setO (g := w1.heap.size) (by omega) 2 (.slice a2 k.envs.length c2)) : OM w8 _ _ _ _)
  replace Q1 := Lib.hid (hw8 ▸ (Q1.out.setO (g := w1.heap.size) (by omega) 2 (.slice a2 k.envs.length c2)) : OS infoC 3 111 w8 _ _ _)
  replace Q2 := Lib.hid (hw8 ▸ (Q2.out.setO (g := w1.heap.size) (by omega) 2 (.slice a2 k.envs.length c2)) : OE w8 _ _ _ _)
  have zw8 : w8.heap.size = w7.heap.size := by rw [← hw8]; simp [World.setCell]
  have p0 : w8.cell? ⟨w.heap.size, 0, none⟩ = some (.slice am k.mem.length cm) := X0.out.cell 0
  have p1 : w8.cell? ⟨w.heap.size, 1, none⟩ = some (.slice ai k.infos.length ci) := X0.out.cell 1
  have p2 : w8.cell? ⟨w.heap.size, 2, none⟩ = some (.slice ae k.envs.length ce) := X0.out.cell 2
  have p3 : w8.cell? ⟨w.heap.size, 3, none⟩ = some (.slice ac k.cache.length cc) := X0.out.cell 3
  have HC := Lib.hid (toCachedS_c k.cache _ w8 (RS.below H.out.c Bw.out) h4)
  go_wp2_with fail
  clear p0 p1 p2 p3 o2 fo2
  refine HC.out.mono ?_; rintro e w9 ⟨u3, rfl, ho, hb⟩
  obtain ⟨a3, c3, rfl, _, _⟩ := RS.val ho.rs
  have zw9 : w8.heap.size ≤ w9.heap.size := hb.size
  replace X0 := Lib.hid (X0.out.below hb)
  replace X1 := Lib.hid (X1.out.below hb)
  replace X2 := Lib.hid (X2.out.below hb)
  replace Q0 := Lib.hid (Q0.out.below hb)
  replace Q1 := Lib.hid (Q1.out.below hb)
  replace Q2 := Lib.hid (Q2.out.below hb)
  replace Bw := Lib.hid (Bw.out.trans (hb.mono Bw.out.size))
  have Q3 := Lib.hid ((show OS cachedC 4 123 w9 _ _ k.cache from ho) )
  have U3 := Lib.hid ho.ub
  clear ho hb HC
  have o3 : w9.cell? ⟨w1.heap.size, 3, none⟩ = some (.slice none 0 0) := X2.out.cell 3
  have fo3 := X2.out.frozen 3
  have p0 : w9.cell? ⟨w.heap.size, 0, none⟩ = some (.slice am k.mem.length cm) := X0.out.cell 0
  have p1 : w9.cell? ⟨w.heap.size, 1, none⟩ = some (.slice ai k.infos.length ci) := X0.out.cell 1
  have p2 : w9.cell? ⟨w.heap.size, 2, none⟩ = some (.slice ae k.envs.length ce) := X0.out.cell 2
  have p3 : w9.cell? ⟨w.heap.size, 3, none⟩ = some (.slice ac k.cache.length cc) := X0.out.cell 3
  have r0 : w9.cell? ⟨w0.heap.size, 0, none⟩ = some (.slice none 0 0) := X1.out.cell 0
  have fr0 := X1.out.frozen 0
  have o0 : w9.cell? ⟨w1.heap.size, 0, none⟩ = some (.slice a0 k.mem.length c0) := X2.out.cell 0
  have fo0 := X2.out.frozen 0
  have r1 : w9.cell? ⟨w0.heap.size, 1, none⟩ = some (.slice none 0 0) := X1.out.cell 1
  have fr1 := X1.out.frozen 1
  have o1 : w9.cell? ⟨w1.heap.size, 1, none⟩ = some (.slice a1 k.infos.length c1) := X2.out.cell 1
  have fo1 := X2.out.frozen 1
  have r2 : w9.cell? ⟨w0.heap.size, 2, none⟩ = some (.slice none 0 0) := X1.out.cell 2
  have fr2 := X1.out.frozen 2
  have o2 : w9.cell? ⟨w1.heap.size, 2, none⟩ = some (.slice a2 k.envs.length c2) := X2.out.cell 2
  have fo2 := X2.out.frozen 2
  have r3 : w9.cell? ⟨w0.heap.size, 3, none⟩ = some (.slice none 0 0) := X1.out.cell 3
  have fr3 := X1.out.frozen 3
  go_wp2_with fail
  have Z := (((((X1.out.other (g' := w1.heap.size) (by omega) 3 (.slice a3 k.cache.length c3)).set 0 (.slice a0 k.mem.length c0)).set 1 (.slice a1 k.infos.length c1)).set 2 (.slice a2 k.envs.length c2)).set 3 (.slice a3 k.cache.length c3))
  have e0 := Z.cell 0
  have e1 := Z.cell 1
  have e2 := Z.cell 2
  have e3 := Z.cell 3
  have BF := Lib.hid (((((Bw.out.setCell (p := ⟨w1.heap.size, 3, none⟩) (show w.heap.size ≤ w1.heap.size by omega) (.slice a3 k.cache.length c3)).setCell (p := ⟨w0.heap.size, 0, none⟩) (show w.heap.size ≤ w0.heap.size by omega) (.slice a0 k.mem.length c0)).setCell (p := ⟨w0.heap.size, 1, none⟩) (show w.heap.size ≤ w0.heap.size by omega) (.slice a1 k.infos.length c1)).setCell (p := ⟨w0.heap.size, 2, none⟩) (show w.heap.size ≤ w0.heap.size by omega) (.slice a2 k.envs.length c2)).setCell (p := ⟨w0.heap.size, 3, none⟩) (show w.heap.size ≤ w0.heap.size by omega) (.slice a3 k.cache.length c3))
  have F0 := Lib.hid (((((Q0.out.setO (g := w1.heap.size) (by omega) 3 (.slice a3 k.cache.length c3)).setO (g := w0.heap.size) (by omega) 0 (.slice a0 k.mem.length c0)).setO (g := w0.heap.size) (by omega) 1 (.slice a1 k.infos.length c1)).setO (g := w0.heap.size) (by omega) 2 (.slice a2 k.envs.length c2)).setO (g := w0.heap.size) (by omega) 3 (.slice a3 k.cache.length c3))
  have F1 := Lib.hid (((((Q1.out.setO (g := w1.heap.size) (by omega) 3 (.slice a3 k.cache.length c3)).setO (g := w0.heap.size) (by omega) 0 (.slice a0 k.mem.length c0)).setO (g := w0.heap.size) (by omega) 1 (.slice a1 k.infos.length c1)).setO (g := w0.heap.size) (by omega) 2 (.slice a2 k.envs.length c2)).setO (g := w0.heap.size) (by omega) 3 (.slice a3 k.cache.length c3))
  have F2 := Lib.hid (((((Q2.out.setO (g := w1.heap.size) (by omega) 3 (.slice a3 k.cache.length c3)).setO (g := w0.heap.size) (by omega) 0 (.slice a0 k.mem.length c0)).setO (g := w0.heap.size) (by omega) 1 (.slice a1 k.infos.length c1)).setO (g := w0.heap.size) (by omega) 2 (.slice a2 k.envs.length c2)).setO (g := w0.heap.size) (by omega) 3 (.slice a3 k.cache.length c3))
  have F3 := Lib.hid (((((Q3.out.setO (g := w1.heap.size) (by omega) 3 (.slice a3 k.cache.length c3)).setO (g := w0.heap.size) (by omega) 0 (.slice a0 k.mem.length c0)).setO (g := w0.heap.size) (by omega) 1 (.slice a1 k.infos.length c1)).setO (g := w0.heap.size) (by omega) 2 (.slice a2 k.envs.length c2)).setO (g := w0.heap.size) (by omega) 3 (.slice a3 k.cache.length c3))
  refine bodyPost_ret (v := .agg #[.slice a0 k.mem.length c0, .slice a1 k.infos.length c1, .slice a2 k.envs.length c2, .slice a3 k.cache.length c3]) (by simp [results, Tryz.results17, go_sem, e0, e1, e2, e3]) rfl ?_
  exact ⟨_, _, _, _, rfl, ⟨w4.heap.size, w6.heap.size, w8.heap.size, ⟨by omega, by omega, by omega, by simp [World.setCell]; omega⟩, F0.out.mono (by omega) (by omega), ⟨F1.out, U1.out.mono (by omega)⟩, F2.out.mono (by omega) (by omega), ⟨F3.out, U3.out.mono (by simp [World.setCell])⟩⟩, BF.out⟩
set_option maxHeartbeats 4000000 in
theorem toPager_c (p : Kx.Pager) (vm vi ve vc vs vl vp : Value) (hand limit : Int) (w : World) (h : RP w vm vi ve vc vs vl vp p) (h1 : p.k.mem.length ≤ 1048576) (h2 : p.k.infos.length ≤ 1048576) (h3 : p.k.envs.length ≤ 1048576) (h3' : ∀ x ∈ p.k.envs, x.rights.length ≤ 1048576) (h4 : p.k.cache.length ≤ 1048576) (h5 : p.swap.length ≤ 1048576) (h6 : p.pages.length ≤ 1048576) :
    Calls Tryz.prog 9 #[.agg #[vm, vi, ve, vc, vs, vl, vp, .int .i64 hand, .int .i64 limit]] w fun e w' => ∃ um ui ue uc us ul up, e = .returned (.agg #[um, ui, ue, uc, us, ul, up, .int .i64 hand, .int .i64 limit]) ∧ OP w' w.heap.size w'.heap.size um ui ue uc us ul up p ∧ Below w.heap.size w w' := by
  have H := Lib.hid h; have H3 := Lib.hid h3'
  obtain ⟨_, as_, cs_, rfl, _, _⟩ := h.s.len
  obtain ⟨al, cl, rfl⟩ := h.l.val
  obtain ⟨ap, cp, rfl, _, _⟩ := RS.val h.g
  clear h h3'
  obtain ⟨w0, hw0⟩ : ∃ w0, w.alloc (.cells #[vm, vi, ve, vc, .slice as_ p.swap.length cs_, .slice al p.low.length cl, .slice ap p.pages.length cp, .int .i64 hand, .int .i64 limit] 31) = w0 := ⟨_, rfl⟩
  obtain ⟨w1, hw1⟩ : ∃ w1, w0.alloc (.cells #[.slice none 0 0, .slice none 0 0, .slice none 0 0, .slice none 0 0, .slice none 0 0, .slice none 0 0, .slice none 0 0, .int .i64 0, .int .i64 0] 41) = w1 := ⟨_, rfl⟩
  obtain ⟨w2, hw2⟩ : ∃ w2, w1.alloc (.cells #[.slice none 0 0, .slice none 0 0, .slice none 0 0, .slice none 0 0, .slice none 0 0, .slice none 0 0, .slice none 0 0, .int .i64 0, .int .i64 0] 41) = w2 := ⟨_, rfl⟩
  have B0 := Lib.hid (show Below w.heap.size w w0 from hw0 ▸ Below.lit (Below.refl _ _) _)
  have B1 := Lib.hid (show Below w0.heap.size w0 w1 from hw1 ▸ Below.lit (Below.refl _ _) _)
  have B2 := Lib.hid (show Below w1.heap.size w1 w2 from hw2 ▸ Below.lit (Below.refl _ _) _)
  have X0 := Lib.hid (show BX w2 w.heap.size 31 [vm, vi, ve, vc, .slice as_ p.swap.length cs_, .slice al p.low.length cl, .slice ap p.pages.length cp, .int .i64 hand, .int .i64 limit] from ((hw0 ▸ BX.new w _ _ : BX w0 _ _ _).below B1.out).below B2.out)
  have X1 := Lib.hid (show BX w2 w0.heap.size 41 [.slice none 0 0, .slice none 0 0, .slice none 0 0, .slice none 0 0, .slice none 0 0, .slice none 0 0, .slice none 0 0, .int .i64 0, .int .i64 0] from (hw1 ▸ BX.new w0 _ _ : BX w1 _ _ _).below B2.out)
  have X2 := Lib.hid (show BX w2 w1.heap.size 41 [.slice none 0 0, .slice none 0 0, .slice none 0 0, .slice none 0 0, .slice none 0 0, .slice none 0 0, .slice none 0 0, .int .i64 0, .int .i64 0] from (hw2 ▸ BX.new w1 _ _ : BX w2 _ _ _))
  have Bw := Lib.hid (B0.out.trans ((B1.out.trans (B2.out.mono B1.out.size)).mono B0.out.size))
  have s0 : w.heap.size < w0.heap.size := by rw [← hw0]; simp
  have s1 : w0.heap.size < w1.heap.size := by rw [← hw1]; simp
  have s2 : w1.heap.size < w2.heap.size := by rw [← hw2]; simp
  clear B0 B1 B2
  have HC := Lib.hid (toKernel_c p.k vm vi ve vc w2 (H.out.k.below Bw.out) h1 h2 h3 H3.out h4)
  have p0 : w2.cell? ⟨w.heap.size, 0, none⟩ = some (vm) := X0.out.cell 0
  have p1 : w2.cell? ⟨w.heap.size, 1, none⟩ = some (vi) := X0.out.cell 1
  have p2 : w2.cell? ⟨w.heap.size, 2, none⟩ = some (ve) := X0.out.cell 2
  have p3 : w2.cell? ⟨w.heap.size, 3, none⟩ = some (vc) := X0.out.cell 3
  have p4 : w2.cell? ⟨w.heap.size, 4, none⟩ = some (.slice as_ p.swap.length cs_) := X0.out.cell 4
  have p5 : w2.cell? ⟨w.heap.size, 5, none⟩ = some (.slice al p.low.length cl) := X0.out.cell 5
  have p6 : w2.cell? ⟨w.heap.size, 6, none⟩ = some (.slice ap p.pages.length cp) := X0.out.cell 6
  have p7 : w2.cell? ⟨w.heap.size, 7, none⟩ = some (.int .i64 hand) := X0.out.cell 7
  have p8 : w2.cell? ⟨w.heap.size, 8, none⟩ = some (.int .i64 limit) := X0.out.cell 8
  go_enter Tryz.func9, Tryz.ntmps9
  go_wp2_with fail
  clear p0 p1 p2 p3 p4 p5 p6 p7 p8
  refine HC.out.mono ?_; rintro e w3 ⟨um, ui, ue, uc, rfl, ho, hb⟩
  obtain ⟨_, a0, c0, rfl, _, _⟩ := ho.rk.m.len
  obtain ⟨a1, c1, rfl, _, _⟩ := RS.val ho.rk.i
  obtain ⟨_, a2, c2, rfl, _, _⟩ := ho.rk.e.len
  obtain ⟨a3, c3, rfl, _, _⟩ := RS.val ho.rk.c
  have zw3 : w2.heap.size ≤ w3.heap.size := hb.size
  replace X0 := Lib.hid (X0.out.below hb)
  replace X1 := Lib.hid (X1.out.below hb)
  replace X2 := Lib.hid (X2.out.below hb)
  replace Bw := Lib.hid (Bw.out.trans (hb.mono Bw.out.size))
  have Q0 := Lib.hid (ho )
  clear ho hb HC
  have o0 : w3.cell? ⟨w1.heap.size, 0, none⟩ = some (.slice none 0 0) := X2.out.cell 0
  have fo0 := X2.out.frozen 0
  have o1 : w3.cell? ⟨w1.heap.size, 1, none⟩ = some (.slice none 0 0) := X2.out.cell 1
  have fo1 := X2.out.frozen 1
  have o2 : w3.cell? ⟨w1.heap.size, 2, none⟩ = some (.slice none 0 0) := X2.out.cell 2
  have fo2 := X2.out.frozen 2
  have o3 : w3.cell? ⟨w1.heap.size, 3, none⟩ = some (.slice none 0 0) := X2.out.cell 3
  have fo3 := X2.out.frozen 3
  obtain ⟨w4, hw4⟩ : ∃ W, (((w3.setCell ⟨w1.heap.size, 0, none⟩ (.slice a0 p.k.mem.length c0)).setCell ⟨w1.heap.size, 1, none⟩ (.slice a1 p.k.infos.length c1)).setCell ⟨w1.heap.size, 2, none⟩ (.slice a2 p.k.envs.length c2)).setCell ⟨w1.heap.size, 3, none⟩ (.slice a3 p.k.cache.length c3) = W := ⟨_, rfl⟩
  replace X0 := Lib.hid (hw4 ▸ ((((X0.out.other (g' := w1.heap.size) (by omega) 0 (.slice a0 p.k.mem.length c0)).other (g' := w1.heap.size) (by omega) 1 (.slice a1 p.k.infos.length c1)).other (g' := w1.heap.size) (by omega) 2 (.slice a2 p.k.envs.length c2)).other (g' := w1.heap.size) (by omega) 3 (.slice a3 p.k.cache.length c3)) : BX w4 w.heap.size _ _)
  replace X1 := Lib.hid (hw4 ▸ ((((X1.out.other (g' := w1.heap.size) (by omega) 0 (.slice a0 p.k.mem.length c0)).other (g' := w1.heap.size) (by omega) 1 (.slice a1 p.k.infos.length c1)).other (g' := w1.heap.size) (by omega) 2 (.slice a2 p.k.envs.length c2)).other (g' := w1.heap.size) (by omega) 3 (.slice a3 p.k.cache.length c3)) : BX w4 w0.heap.size _ _)
  replace X2 := Lib.hid (hw4 ▸ ((((X2.out.set 0 (.slice a0 p.k.mem.length c0)).set 1 (.slice a1 p.k.infos.length c1)).set 2 (.slice a2 p.k.envs.length c2)).set 3 (.slice a3 p.k.cache.length c3)) : BX w4 w1.heap.size _ _)
  replace Bw := Lib.hid (hw4 ▸ ((((Bw.out.setCell (p := ⟨w1.heap.size, 0, none⟩) (show w.heap.size ≤ w1.heap.size by omega) (.slice a0 p.k.mem.length c0)).setCell (p := ⟨w1.heap.size, 1, none⟩) (show w.heap.size ≤ w1.heap.size by omega) (.slice a1 p.k.infos.length c1)).setCell (p := ⟨w1.heap.size, 2, none⟩) (show w.heap.size ≤ w1.heap.size by omega) (.slice a2 p.k.envs.length c2)).setCell (p := ⟨w1.heap.size, 3, none⟩) (show w.heap.size ≤ w1.heap.size by omega) (.slice a3 p.k.cache.length c3)) : Below w.heap.size w w4)
  replace Q0 := Lib.hid (hw4 ▸ ((((Q0.out.setO (g := w1.heap.size) (by omega) 0 (.slice a0 p.k.mem.length c0)).setO (g := w1.heap.size) (by omega) 1 (.slice a1 p.k.infos.length c1)).setO (g := w1.heap.size) (by omega) 2 (.slice a2 p.k.envs.length c2)).setO (g := w1.heap.size) (by omega) 3 (.slice a3 p.k.cache.length c3)) : OK w4 _ _ _ _ _ _ _)
  have zw4 : w4.heap.size = w3.heap.size := by rw [← hw4]; simp [World.setCell]
  have p0 : w4.cell? ⟨w.heap.size, 0, none⟩ = some (vm) := X0.out.cell 0
  have p1 : w4.cell? ⟨w.heap.size, 1, none⟩ = some (vi) := X0.out.cell 1
  have p2 : w4.cell? ⟨w.heap.size, 2, none⟩ = some (ve) := X0.out.cell 2
  have p3 : w4.cell? ⟨w.heap.size, 3, none⟩ = some (vc) := X0.out.cell 3
  have p4 : w4.cell? ⟨w.heap.size, 4, none⟩ = some (.slice as_ p.swap.length cs_) := X0.out.cell 4
  have p5 : w4.cell? ⟨w.heap.size, 5, none⟩ = some (.slice al p.low.length cl) := X0.out.cell 5
  have p6 : w4.cell? ⟨w.heap.size, 6, none⟩ = some (.slice ap p.pages.length cp) := X0.out.cell 6
  have p7 : w4.cell? ⟨w.heap.size, 7, none⟩ = some (.int .i64 hand) := X0.out.cell 7
  have p8 : w4.cell? ⟨w.heap.size, 8, none⟩ = some (.int .i64 limit) := X0.out.cell 8
  have HC := Lib.hid (toIntSS_c p.swap _ w4 (H.out.s.below Bw.out) h5)
  go_wp2_with fail
  clear p0 p1 p2 p3 p4 p5 p6 p7 p8 o0 fo0 o1 fo1 o2 fo2 o3 fo3
  refine HC.out.mono ?_; rintro e w5 ⟨u4, rfl, ho, hb⟩
  obtain ⟨_, a4, c4, rfl, _, _⟩ := ho.rm.len
  have zw5 : w4.heap.size ≤ w5.heap.size := hb.size
  replace X0 := Lib.hid (X0.out.below hb)
  replace X1 := Lib.hid (X1.out.below hb)
  replace X2 := Lib.hid (X2.out.below hb)
  replace Q0 := Lib.hid (Q0.out.below hb)
  replace Bw := Lib.hid (Bw.out.trans (hb.mono Bw.out.size))
  have Q1 := Lib.hid (ho )
  clear ho hb HC
  have o4 : w5.cell? ⟨w1.heap.size, 4, none⟩ = some (.slice none 0 0) := X2.out.cell 4
  have fo4 := X2.out.frozen 4
  obtain ⟨w6, hw6⟩ : ∃ W, w5.setCell ⟨w1.heap.size, 4, none⟩ (.slice a4 p.swap.length c4) = W := ⟨_, rfl⟩
  replace X0 := Lib.hid (hw6 ▸ (X0.out.other (g' := w1.heap.size) (by omega) 4 (.slice a4 p.swap.length c4)) : BX w6 w.heap.size _ _)
  replace X1 := Lib.hid (hw6 ▸ (X1.out.other (g' := w1.heap.size) (by omega) 4 (.slice a4 p.swap.length c4)) : BX w6 w0.heap.size _ _)
  replace X2 := Lib.hid (hw6 ▸ (X2.out.set 4 (.slice a4 p.swap.length c4)) : BX w6 w1.heap.size _ _)
  replace Bw := Lib.hid (hw6 ▸ (Bw.out.setCell (p := ⟨w1.heap.size, 4, none⟩) (show w.heap.size ≤ w1.heap.size by omega) (.slice a4 p.swap.length c4)) : Below w.heap.size w w6)
  replace Q0 := Lib.hid (hw6 ▸ (Q0.out.setO (g := w1.heap.size) (by omega) 4 (.slice a4 p.swap.length c4)) : OK w6 _ _ _ _ _ _ _)
  replace Q1 := Lib.hid (hw6 ▸ (Q1.out.setO (g := w1.heap.size) (by omega) 4 (.slice a4 p.swap.length c4)) : OM w6 _ _ _ _)
  have zw6 : w6.heap.size = w5.heap.size := by rw [← hw6]; simp [World.setCell]
  have p0 : w6.cell? ⟨w.heap.size, 0, none⟩ = some (vm) := X0.out.cell 0
  have p1 : w6.cell? ⟨w.heap.size, 1, none⟩ = some (vi) := X0.out.cell 1
  have p2 : w6.cell? ⟨w.heap.size, 2, none⟩ = some (ve) := X0.out.cell 2
  have p3 : w6.cell? ⟨w.heap.size, 3, none⟩ = some (vc) := X0.out.cell 3
  have p4 : w6.cell? ⟨w.heap.size, 4, none⟩ = some (.slice as_ p.swap.length cs_) := X0.out.cell 4
  have p5 : w6.cell? ⟨w.heap.size, 5, none⟩ = some (.slice al p.low.length cl) := X0.out.cell 5
  have p6 : w6.cell? ⟨w.heap.size, 6, none⟩ = some (.slice ap p.pages.length cp) := X0.out.cell 6
  have p7 : w6.cell? ⟨w.heap.size, 7, none⟩ = some (.int .i64 hand) := X0.out.cell 7
  have p8 : w6.cell? ⟨w.heap.size, 8, none⟩ = some (.int .i64 limit) := X0.out.cell 8
  have HC := Lib.hid (toIntS_c p.low _ w6 (H.out.l.below Bw.out))
  go_wp2_with fail
  clear p0 p1 p2 p3 p4 p5 p6 p7 p8 o4 fo4
  refine HC.out.mono ?_; rintro e w7 ⟨u5, rfl, ho, hb⟩
  obtain ⟨a5, c5, rfl⟩ := ho.ri.val
  have zw7 : w6.heap.size ≤ w7.heap.size := hb.size
  replace X0 := Lib.hid (X0.out.below hb)
  replace X1 := Lib.hid (X1.out.below hb)
  replace X2 := Lib.hid (X2.out.below hb)
  replace Q0 := Lib.hid (Q0.out.below hb)
  replace Q1 := Lib.hid (Q1.out.below hb)
  replace Bw := Lib.hid (Bw.out.trans (hb.mono Bw.out.size))
  have Q2 := Lib.hid ((show OI w7 _ _ p.low from ho) )
  have U2 := Lib.hid ho.os.ub
  clear ho hb HC
  have o5 : w7.cell? ⟨w1.heap.size, 5, none⟩ = some (.slice none 0 0) := X2.out.cell 5
  have fo5 := X2.out.frozen 5
  obtain ⟨w8, hw8⟩ : ∃ W, w7.setCell ⟨w1.heap.size, 5, none⟩ (.slice a5 p.low.length c5) = W := ⟨_, rfl⟩
  replace X0 := Lib.hid (hw8 ▸ (X0.out.other (g' := w1.heap.size) (by omega) 5 (.slice a5 p.low.length c5)) : BX w8 w.heap.size _ _)
  replace X1 := Lib.hid (hw8 ▸ (X1.out.other (g' := w1.heap.size) (by omega) 5 (.slice a5 p.low.length c5)) : BX w8 w0.heap.size _ _)
  replace X2 := Lib.hid (hw8 ▸ (X2.out.set 5 (.slice a5 p.low.length c5)) : BX w8 w1.heap.size _ _)
  replace Bw := Lib.hid (hw8 ▸ (Bw.out.setCell (p := ⟨w1.heap.size, 5, none⟩) (show w.heap.size ≤ w1.heap.size by omega) (.slice a5 p.low.length c5)) : Below w.heap.size w w8)
  replace Q0 := Lib.hid (hw8 ▸ (Q0.out.setO (g := w1.heap.size) (by omega) 5 (.slice a5 p.low.length c5)) : OK w8 _ _ _ _ _ _ _)
  replace Q1 := Lib.hid (hw8 ▸ (Q1.out.setO (g := w1.heap.size) (by omega) 5 (.slice a5 p.low.length c5)) : OM w8 _ _ _ _)
  replace Q2 := Lib.hid (hw8 ▸ (Q2.out.setOI (g := w1.heap.size) (by omega) 5 (.slice a5 p.low.length c5)) : OI w8 _ _ _)
  have zw8 : w8.heap.size = w7.heap.size := by rw [← hw8]; simp [World.setCell]
  have p0 : w8.cell? ⟨w.heap.size, 0, none⟩ = some (vm) := X0.out.cell 0
  have p1 : w8.cell? ⟨w.heap.size, 1, none⟩ = some (vi) := X0.out.cell 1
  have p2 : w8.cell? ⟨w.heap.size, 2, none⟩ = some (ve) := X0.out.cell 2
  have p3 : w8.cell? ⟨w.heap.size, 3, none⟩ = some (vc) := X0.out.cell 3
  have p4 : w8.cell? ⟨w.heap.size, 4, none⟩ = some (.slice as_ p.swap.length cs_) := X0.out.cell 4
  have p5 : w8.cell? ⟨w.heap.size, 5, none⟩ = some (.slice al p.low.length cl) := X0.out.cell 5
  have p6 : w8.cell? ⟨w.heap.size, 6, none⟩ = some (.slice ap p.pages.length cp) := X0.out.cell 6
  have p7 : w8.cell? ⟨w.heap.size, 7, none⟩ = some (.int .i64 hand) := X0.out.cell 7
  have p8 : w8.cell? ⟨w.heap.size, 8, none⟩ = some (.int .i64 limit) := X0.out.cell 8
  have HC := Lib.hid (toPageS_c p.pages _ w8 (RS.below H.out.g Bw.out) h6)
  go_wp2_with fail
  clear p0 p1 p2 p3 p4 p5 p6 p7 p8 o5 fo5
  refine HC.out.mono ?_; rintro e w9 ⟨u6, rfl, ho, hb⟩
  obtain ⟨a6, c6, rfl, _, _⟩ := RS.val ho.rs
  have zw9 : w8.heap.size ≤ w9.heap.size := hb.size
  replace X0 := Lib.hid (X0.out.below hb)
  replace X1 := Lib.hid (X1.out.below hb)
  replace X2 := Lib.hid (X2.out.below hb)
  replace Q0 := Lib.hid (Q0.out.below hb)
  replace Q1 := Lib.hid (Q1.out.below hb)
  replace Q2 := Lib.hid (Q2.out.below hb)
  replace Bw := Lib.hid (Bw.out.trans (hb.mono Bw.out.size))
  have Q3 := Lib.hid ((show OS pageC 3 90 w9 _ _ p.pages from ho) )
  have U3 := Lib.hid ho.ub
  clear ho hb HC
  have o6 : w9.cell? ⟨w1.heap.size, 6, none⟩ = some (.slice none 0 0) := X2.out.cell 6
  have fo6 := X2.out.frozen 6
  have p0 : w9.cell? ⟨w.heap.size, 0, none⟩ = some (vm) := X0.out.cell 0
  have p1 : w9.cell? ⟨w.heap.size, 1, none⟩ = some (vi) := X0.out.cell 1
  have p2 : w9.cell? ⟨w.heap.size, 2, none⟩ = some (ve) := X0.out.cell 2
  have p3 : w9.cell? ⟨w.heap.size, 3, none⟩ = some (vc) := X0.out.cell 3
  have p4 : w9.cell? ⟨w.heap.size, 4, none⟩ = some (.slice as_ p.swap.length cs_) := X0.out.cell 4
  have p5 : w9.cell? ⟨w.heap.size, 5, none⟩ = some (.slice al p.low.length cl) := X0.out.cell 5
  have p6 : w9.cell? ⟨w.heap.size, 6, none⟩ = some (.slice ap p.pages.length cp) := X0.out.cell 6
  have p7 : w9.cell? ⟨w.heap.size, 7, none⟩ = some (.int .i64 hand) := X0.out.cell 7
  have p8 : w9.cell? ⟨w.heap.size, 8, none⟩ = some (.int .i64 limit) := X0.out.cell 8
  have r0 : w9.cell? ⟨w0.heap.size, 0, none⟩ = some (.slice none 0 0) := X1.out.cell 0
  have fr0 := X1.out.frozen 0
  have o0 : w9.cell? ⟨w1.heap.size, 0, none⟩ = some (.slice a0 p.k.mem.length c0) := X2.out.cell 0
  have fo0 := X2.out.frozen 0
  have r1 : w9.cell? ⟨w0.heap.size, 1, none⟩ = some (.slice none 0 0) := X1.out.cell 1
  have fr1 := X1.out.frozen 1
  have o1 : w9.cell? ⟨w1.heap.size, 1, none⟩ = some (.slice a1 p.k.infos.length c1) := X2.out.cell 1
  have fo1 := X2.out.frozen 1
  have r2 : w9.cell? ⟨w0.heap.size, 2, none⟩ = some (.slice none 0 0) := X1.out.cell 2
  have fr2 := X1.out.frozen 2
  have o2 : w9.cell? ⟨w1.heap.size, 2, none⟩ = some (.slice a2 p.k.envs.length c2) := X2.out.cell 2
  have fo2 := X2.out.frozen 2
  have r3 : w9.cell? ⟨w0.heap.size, 3, none⟩ = some (.slice none 0 0) := X1.out.cell 3
  have fr3 := X1.out.frozen 3
  have o3 : w9.cell? ⟨w1.heap.size, 3, none⟩ = some (.slice a3 p.k.cache.length c3) := X2.out.cell 3
  have fo3 := X2.out.frozen 3
  have r4 : w9.cell? ⟨w0.heap.size, 4, none⟩ = some (.slice none 0 0) := X1.out.cell 4
  have fr4 := X1.out.frozen 4
  have o4 : w9.cell? ⟨w1.heap.size, 4, none⟩ = some (.slice a4 p.swap.length c4) := X2.out.cell 4
  have fo4 := X2.out.frozen 4
  have r5 : w9.cell? ⟨w0.heap.size, 5, none⟩ = some (.slice none 0 0) := X1.out.cell 5
  have fr5 := X1.out.frozen 5
  have o5 : w9.cell? ⟨w1.heap.size, 5, none⟩ = some (.slice a5 p.low.length c5) := X2.out.cell 5
  have fo5 := X2.out.frozen 5
  have r6 : w9.cell? ⟨w0.heap.size, 6, none⟩ = some (.slice none 0 0) := X1.out.cell 6
  have fr6 := X1.out.frozen 6
  have r7 : w9.cell? ⟨w0.heap.size, 7, none⟩ = some (.int .i64 0) := X1.out.cell 7
  have fr7 := X1.out.frozen 7
  have o7 : w9.cell? ⟨w1.heap.size, 7, none⟩ = some (.int .i64 0) := X2.out.cell 7
  have fo7 := X2.out.frozen 7
  have r8 : w9.cell? ⟨w0.heap.size, 8, none⟩ = some (.int .i64 0) := X1.out.cell 8
  have fr8 := X1.out.frozen 8
  have o8 : w9.cell? ⟨w1.heap.size, 8, none⟩ = some (.int .i64 0) := X2.out.cell 8
  have fo8 := X2.out.frozen 8
  go_wp2_with fail
  have Z := ((((((((((((X1.out.other (g' := w1.heap.size) (by omega) 6 (.slice a6 p.pages.length c6)).other (g' := w1.heap.size) (by omega) 7 (.int .i64 hand)).other (g' := w1.heap.size) (by omega) 8 (.int .i64 limit)).set 0 (.slice a0 p.k.mem.length c0)).set 1 (.slice a1 p.k.infos.length c1)).set 2 (.slice a2 p.k.envs.length c2)).set 3 (.slice a3 p.k.cache.length c3)).set 4 (.slice a4 p.swap.length c4)).set 5 (.slice a5 p.low.length c5)).set 6 (.slice a6 p.pages.length c6)).set 7 (.int .i64 hand)).set 8 (.int .i64 limit))
  have e0 := Z.cell 0
  have e1 := Z.cell 1
  have e2 := Z.cell 2
  have e3 := Z.cell 3
  have e4 := Z.cell 4
  have e5 := Z.cell 5
  have e6 := Z.cell 6
  have e7 := Z.cell 7
  have e8 := Z.cell 8
  have BF := Lib.hid ((((((((((((Bw.out.setCell (p := ⟨w1.heap.size, 6, none⟩) (show w.heap.size ≤ w1.heap.size by omega) (.slice a6 p.pages.length c6)).setCell (p := ⟨w1.heap.size, 7, none⟩) (show w.heap.size ≤ w1.heap.size by omega) (.int .i64 hand)).setCell (p := ⟨w1.heap.size, 8, none⟩) (show w.heap.size ≤ w1.heap.size by omega) (.int .i64 limit)).setCell (p := ⟨w0.heap.size, 0, none⟩) (show w.heap.size ≤ w0.heap.size by omega) (.slice a0 p.k.mem.length c0)).setCell (p := ⟨w0.heap.size, 1, none⟩) (show w.heap.size ≤ w0.heap.size by omega) (.slice a1 p.k.infos.length c1)).setCell (p := ⟨w0.heap.size, 2, none⟩) (show w.heap.size ≤ w0.heap.size by omega) (.slice a2 p.k.envs.length c2)).setCell (p := ⟨w0.heap.size, 3, none⟩) (show w.heap.size ≤ w0.heap.size by omega) (.slice a3 p.k.cache.length c3)).setCell (p := ⟨w0.heap.size, 4, none⟩) (show w.heap.size ≤ w0.heap.size by omega) (.slice a4 p.swap.length c4)).setCell (p := ⟨w0.heap.size, 5, none⟩) (show w.heap.size ≤ w0.heap.size by omega) (.slice a5 p.low.length c5)).setCell (p := ⟨w0.heap.size, 6, none⟩) (show w.heap.size ≤ w0.heap.size by omega) (.slice a6 p.pages.length c6)).setCell (p := ⟨w0.heap.size, 7, none⟩) (show w.heap.size ≤ w0.heap.size by omega) (.int .i64 hand)).setCell (p := ⟨w0.heap.size, 8, none⟩) (show w.heap.size ≤ w0.heap.size by omega) (.int .i64 limit))
  have F0 := Lib.hid ((((((((((((Q0.out.setO (g := w1.heap.size) (by omega) 6 (.slice a6 p.pages.length c6)).setO (g := w1.heap.size) (by omega) 7 (.int .i64 hand)).setO (g := w1.heap.size) (by omega) 8 (.int .i64 limit)).setO (g := w0.heap.size) (by omega) 0 (.slice a0 p.k.mem.length c0)).setO (g := w0.heap.size) (by omega) 1 (.slice a1 p.k.infos.length c1)).setO (g := w0.heap.size) (by omega) 2 (.slice a2 p.k.envs.length c2)).setO (g := w0.heap.size) (by omega) 3 (.slice a3 p.k.cache.length c3)).setO (g := w0.heap.size) (by omega) 4 (.slice a4 p.swap.length c4)).setO (g := w0.heap.size) (by omega) 5 (.slice a5 p.low.length c5)).setO (g := w0.heap.size) (by omega) 6 (.slice a6 p.pages.length c6)).setO (g := w0.heap.size) (by omega) 7 (.int .i64 hand)).setO (g := w0.heap.size) (by omega) 8 (.int .i64 limit))
  have F1 := Lib.hid ((((((((((((Q1.out.setO (g := w1.heap.size) (by omega) 6 (.slice a6 p.pages.length c6)).setO (g := w1.heap.size) (by omega) 7 (.int .i64 hand)).setO (g := w1.heap.size) (by omega) 8 (.int .i64 limit)).setO (g := w0.heap.size) (by omega) 0 (.slice a0 p.k.mem.length c0)).setO (g := w0.heap.size) (by omega) 1 (.slice a1 p.k.infos.length c1)).setO (g := w0.heap.size) (by omega) 2 (.slice a2 p.k.envs.length c2)).setO (g := w0.heap.size) (by omega) 3 (.slice a3 p.k.cache.length c3)).setO (g := w0.heap.size) (by omega) 4 (.slice a4 p.swap.length c4)).setO (g := w0.heap.size) (by omega) 5 (.slice a5 p.low.length c5)).setO (g := w0.heap.size) (by omega) 6 (.slice a6 p.pages.length c6)).setO (g := w0.heap.size) (by omega) 7 (.int .i64 hand)).setO (g := w0.heap.size) (by omega) 8 (.int .i64 limit))
  have F2 := Lib.hid ((((((((((((Q2.out.setOI (g := w1.heap.size) (by omega) 6 (.slice a6 p.pages.length c6)).setOI (g := w1.heap.size) (by omega) 7 (.int .i64 hand)).setOI (g := w1.heap.size) (by omega) 8 (.int .i64 limit)).setOI (g := w0.heap.size) (by omega) 0 (.slice a0 p.k.mem.length c0)).setOI (g := w0.heap.size) (by omega) 1 (.slice a1 p.k.infos.length c1)).setOI (g := w0.heap.size) (by omega) 2 (.slice a2 p.k.envs.length c2)).setOI (g := w0.heap.size) (by omega) 3 (.slice a3 p.k.cache.length c3)).setOI (g := w0.heap.size) (by omega) 4 (.slice a4 p.swap.length c4)).setOI (g := w0.heap.size) (by omega) 5 (.slice a5 p.low.length c5)).setOI (g := w0.heap.size) (by omega) 6 (.slice a6 p.pages.length c6)).setOI (g := w0.heap.size) (by omega) 7 (.int .i64 hand)).setOI (g := w0.heap.size) (by omega) 8 (.int .i64 limit))
  have F3 := Lib.hid ((((((((((((Q3.out.setO (g := w1.heap.size) (by omega) 6 (.slice a6 p.pages.length c6)).setO (g := w1.heap.size) (by omega) 7 (.int .i64 hand)).setO (g := w1.heap.size) (by omega) 8 (.int .i64 limit)).setO (g := w0.heap.size) (by omega) 0 (.slice a0 p.k.mem.length c0)).setO (g := w0.heap.size) (by omega) 1 (.slice a1 p.k.infos.length c1)).setO (g := w0.heap.size) (by omega) 2 (.slice a2 p.k.envs.length c2)).setO (g := w0.heap.size) (by omega) 3 (.slice a3 p.k.cache.length c3)).setO (g := w0.heap.size) (by omega) 4 (.slice a4 p.swap.length c4)).setO (g := w0.heap.size) (by omega) 5 (.slice a5 p.low.length c5)).setO (g := w0.heap.size) (by omega) 6 (.slice a6 p.pages.length c6)).setO (g := w0.heap.size) (by omega) 7 (.int .i64 hand)).setO (g := w0.heap.size) (by omega) 8 (.int .i64 limit))
  refine bodyPost_ret (v := .agg #[.slice a0 p.k.mem.length c0, .slice a1 p.k.infos.length c1, .slice a2 p.k.envs.length c2, .slice a3 p.k.cache.length c3, .slice a4 p.swap.length c4, .slice a5 p.low.length c5, .slice a6 p.pages.length c6, .int .i64 hand, .int .i64 limit]) (by simp [results, Tryz.results9, go_sem, e0, e1, e2, e3, e4, e5, e6, e7, e8]) rfl ?_
  exact ⟨_, _, _, _, _, _, _, rfl, ⟨w4.heap.size, w6.heap.size, w8.heap.size, ⟨by omega, by omega, by omega, by simp [World.setCell]; omega⟩, F0.out.mono (by omega) (by omega), F1.out.mono (by omega) (by omega), ⟨F2.out.mono (by omega), U2.out.mono (by omega)⟩, ⟨F3.out, U3.out.mono (by simp [World.setCell])⟩⟩, BF.out⟩
end Go.Proofs.YtfnpjdgjceiklaaGreatDoor
