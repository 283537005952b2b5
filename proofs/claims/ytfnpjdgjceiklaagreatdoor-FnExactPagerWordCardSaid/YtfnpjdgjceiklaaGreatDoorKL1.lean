/- What comes in, read as lists: slices of integers, texts, structs, slices. -/
import Derived.Test.YtfnpjdgjceiklaaGreatDoorKW20
import Derived.Deep.Slices
import Derived.Deep.Fields
import Derived.ChangeSame
namespace Go.Proofs.YtfnpjdgjceiklaaGreatDoor
open Go.RowKit Go.ChangeShapes Go.WideShapes Go.Deep

/-- The slice value v reads as l in w, whatever its length. -/
def RW {α : Type} (f : α → List Value) (sz : Nat) (w : World) (v : Value) (l : List α) : Prop :=
  ((l = [] ∧ ∃ a cap, v = .slice a 0 cap ∧ cap ≤ maxLen ∧ (a = none → cap = 0)) ∨
    ∃ b off cap, v = .slice (some ⟨b, off, none⟩) l.length cap ∧ l.length ≤ cap ∧ cap ≤ maxLen ∧ b < w.heap.size ∧ ∀ k (h : k < l.length) j u, (f l[k])[j]? = some u → w.cell? ⟨b, off + k * sz + j, none⟩ = some u)
section
variable {α : Type} {f : α → List Value} {sz : Nat} {w w' : World} {v : Value} {l : List α}
theorem RW.rs (h : RW f sz w v l) (hl : l.length ≤ 1099511627776) : RS f sz w v l := ⟨hl, h⟩
theorem RW.val (h : RW f sz w v l) : ∃ a cap, v = .slice a l.length cap ∧ l.length ≤ maxLen := by
  rcases h with ⟨rfl, a, cap, rfl, hc, _⟩ | ⟨b, off, cap, rfl, h1, h2, _⟩
  · exact ⟨a, cap, rfl, Nat.zero_le _⟩
  · exact ⟨_, cap, rfl, Nat.le_trans h1 h2⟩
theorem RW.below (h : RW f sz w v l) (hb : Below w.heap.size w w') : RW f sz w' v l := by
  rcases h with ⟨rfl, a, cap, rfl, hn⟩ | ⟨b, off, cap, rfl, h1, h2, hlt, hc⟩
  · exact .inl ⟨rfl, a, cap, rfl, hn⟩
  · exact .inr ⟨b, off, cap, rfl, h1, h2, Nat.lt_of_lt_of_le hlt hb.size, fun k hk j u hu => (hb.cell (p := ⟨b, off + k * sz + j, none⟩) hlt).trans (hc k hk j u hu)⟩
end

section
variable {H : Type} {enc : TypeId × Value → H} {w : World} {base : Nat} {spare : Nat → Bool} {held : Bool}
theorem rd_slice {α : Type} {f : α → List Value} {sz : Nat} {t e : TypeId} {fuel : Nat} {v : Value} {y : DataW H × List MemPlace} (G : α → Prop) (ht : Tryz.prog.underlying t = some (.slice e)) (hc : Tryz.prog.cellsOf e = sz) (hf : ∀ x, (f x).length = sz) (hpos : 0 < sz)
    (dec : ∀ n cs z, DataW.trod enc Tryz.prog w base spare held n e cs = some z → cs.length = sz → ∃ x : α, cs = f x ∧ G x)
    (h : DataW.trod enc Tryz.prog w base spare held fuel t [v] = some y) : ∃ l : List α, RW f sz w v l ∧ ∀ x ∈ l, G x := by
  rcases open_slice ht h with ⟨hcs, _⟩ | ⟨a, len, cap, m, n, D, Pl, hcs, _, hl, hm, hmm, _, hi⟩
  · obtain rfl : v = .slice none 0 0 := by simpa using hcs
    exact ⟨[], .inl ⟨rfl, none, 0, rfl, Nat.zero_le _, fun _ => rfl⟩, by simp⟩
  · obtain rfl : v = .slice (some a) len cap := by simpa using hcs
    have hml : len ≤ m := by rw [hmm]; split <;> omega
    have hex : ∀ i : Fin len, ∃ x : α, (∀ j u, (f x)[j]? = some u → w.cell? ((a.add (i.val * sz)).add j) = some u) ∧ G x := fun i => by
      obtain ⟨cs', hcs', htr⟩ := hi i.val (by omega)
      rw [hc] at hcs'
      obtain ⟨_, hlen, hat⟩ := World.cells?_some hcs'
      obtain ⟨x, rfl, hg⟩ := dec n cs' _ htr hlen
      exact ⟨x, fun j u hu => by rw [hat j (by have := (List.getElem?_eq_some_iff.1 hu).1; rw [hf] at this; exact this)]; exact hu, hg⟩
    obtain ⟨g, hg⟩ := Classical.axiomOfChoice hex
    have hlo : (List.ofFn g).length = len := List.length_ofFn
    refine ⟨List.ofFn g, ?_, fun x hx => ?_⟩
    · by_cases h0 : len = 0
      · subst h0
        exact .inl ⟨by simp, some a, cap, rfl, hm, fun h => by cases h⟩
      · obtain ⟨b, off, spot⟩ := a
        have hc0 : ∃ u, w.cell? (((⟨b, off, spot⟩ : Addr).add (0 * sz)).add 0) = some u := by
          have hp : 0 < (f (g ⟨0, by omega⟩)).length := by rw [hf]; exact hpos
          exact ⟨_, (hg ⟨0, by omega⟩).1 0 _ (List.getElem?_eq_getElem hp)⟩
        obtain ⟨u, hu⟩ := hc0
        have hs : spot = none := by simpa [Addr.add] using World.cell?_spot hu
        subst hs
        rw [Addr.add_lit, Addr.add_lit] at hu
        have hb : b < w.heap.size := World.block_lt_of_cell? w _ hu
        refine .inr ⟨b, off, cap, by rw [hlo], by rw [hlo]; exact hl, hm, hb, fun k hk j u hu => ?_⟩
        have hk' : k < len := by rw [hlo] at hk; exact hk
        rw [List.getElem_ofFn] at hu
        have := (hg ⟨k, hk'⟩).1 j u hu
        rw [Addr.add_lit, Addr.add_lit] at this
        exact this
    · obtain ⟨i, rfl⟩ := List.mem_ofFn.1 hx
      exact (hg i).2

theorem rd_ints {fuel : Nat} {v : Value} {y : DataW H × List MemPlace} (h : DataW.trod enc Tryz.prog w base spare held fuel 28 [v] = some y) : ∃ xs : List Int, RW intC 1 w v xs := by
  obtain ⟨l, h1, _⟩ := rd_slice (f := intC) (sz := 1) (fun _ => True) Tryz.underlying28 (by kernel_rfl) (fun _ => rfl) (by decide) (fun n cs z hz hl => by
    obtain ⟨x, rfl, _⟩ := DataW.trod_int Tryz.underlying3 hz
    exact ⟨x, rfl, trivial⟩) h
  exact ⟨l, h1⟩
theorem rd_strs {fuel : Nat} {v : Value} {y : DataW H × List MemPlace} (h : DataW.trod enc Tryz.prog w base spare held fuel 80 [v] = some y) : ∃ l : List Kx.Str, RW strC 1 w v l ∧ ∀ s ∈ l, s.size ≤ 9223372036854775807 :=
  rd_slice (f := strC) (sz := 1) (fun s => s.size ≤ 9223372036854775807) Tryz.underlying80 (by kernel_rfl) (fun _ => rfl) (by decide) (fun n cs z hz hl => by
    obtain ⟨s, rfl, _, hs⟩ := DataW.trod_string Tryz.underlying9 hz
    exact ⟨s, rfl, by unfold maxLen at hs; omega⟩) h
/-- a slice of slices of integers, whatever the lengths -/
def RWM (w : World) (v : Value) (m : List (List Int)) : Prop := ∃ vs : List Value, vs.length = m.length ∧ RW valC 1 w v vs ∧ ∀ i (h : i < vs.length) (h' : i < m.length), RW intC 1 w vs[i] m[i]
theorem pick {α β : Type} (R : α → β → Prop) : ∀ l : List α, (∀ x ∈ l, ∃ y, R x y) → ∃ l' : List β, l.length = l'.length ∧ ∀ i (h : i < l.length) (h' : i < l'.length), R l[i] l'[i]
  | [], _ => ⟨[], rfl, fun i h => by simp at h⟩
  | x :: l, h => by
    obtain ⟨y, hy⟩ := h x (List.mem_cons_self ..)
    obtain ⟨l', hl, hr⟩ := pick R l fun z hz => h z (List.mem_cons_of_mem _ hz)
    refine ⟨y :: l', by simp [hl], fun i hi hi' => ?_⟩
    cases i with
    | zero => exact hy
    | succ i => exact hr i (by simpa using hi) (by simpa using hi')
theorem rd_rows {fuel : Nat} {v : Value} {y : DataW H × List MemPlace} (h : DataW.trod enc Tryz.prog w base spare held fuel 22 [v] = some y) : ∃ m : List (List Int), RWM w v m := by
  obtain ⟨vs, h1, h2⟩ := rd_slice (f := valC) (sz := 1) (fun u => ∃ xs : List Int, RW intC 1 w u xs) Tryz.underlying22 (by kernel_rfl) (fun _ => rfl) (by decide) (fun n cs z hz hl => by
    match cs, hl with
    | [u], _ => exact ⟨u, rfl, rd_ints hz⟩) h
  obtain ⟨m, hl, hr⟩ := pick _ vs h2
  exact ⟨m, vs, hl, h1, hr⟩
theorem len1 {l : List Value} (h : l.length = 1) : ∃ c0, l = [c0] := by
  match l, h with
  | [c0], _ => exact ⟨c0, rfl⟩
theorem len2 {l : List Value} (h : l.length = 2) : ∃ c0 c1, l = [c0, c1] := by
  match l, h with
  | [c0, c1], _ => exact ⟨c0, c1, rfl⟩
theorem len3 {l : List Value} (h : l.length = 3) : ∃ c0 c1 c2, l = [c0, c1, c2] := by
  match l, h with
  | [c0, c1, c2], _ => exact ⟨c0, c1, c2, rfl⟩
theorem len4 {l : List Value} (h : l.length = 4) : ∃ c0 c1 c2 c3, l = [c0, c1, c2, c3] := by
  match l, h with
  | [c0, c1, c2, c3], _ => exact ⟨c0, c1, c2, c3, rfl⟩
theorem len9 {l : List Value} (h : l.length = 9) : ∃ c0 c1 c2 c3 c4 c5 c6 c7 c8, l = [c0, c1, c2, c3, c4, c5, c6, c7, c8] := by
  match l, h with
  | [c0, c1, c2, c3, c4, c5, c6, c7, c8], _ => exact ⟨c0, c1, c2, c3, c4, c5, c6, c7, c8, rfl⟩
theorem cellsOf_int : Tryz.prog.cellsOf 3 = 1 := by kernel_rfl
theorem cellsOf_string : Tryz.prog.cellsOf 9 = 1 := by kernel_rfl
theorem cellsOf_bool : Tryz.prog.cellsOf 4 = 1 := by kernel_rfl
theorem cellsOf_ints : Tryz.prog.cellsOf 28 = 1 := by kernel_rfl
theorem cellsOf_strs : Tryz.prog.cellsOf 80 = 1 := by kernel_rfl
theorem cellsOf_rows : Tryz.prog.cellsOf 22 = 1 := by kernel_rfl
theorem cellsOf_infos : Tryz.prog.cellsOf 23 = 1 := by kernel_rfl
theorem cellsOf_envs : Tryz.prog.cellsOf 24 = 1 := by kernel_rfl
theorem cellsOf_cached : Tryz.prog.cellsOf 25 = 1 := by kernel_rfl
theorem cellsOf_kernel : Tryz.prog.cellsOf 27 = 4 := by kernel_rfl
theorem cellsOf_pages : Tryz.prog.cellsOf 29 = 1 := by kernel_rfl
theorem one_of {cs : List Value} {k n : Nat} (hl : cs.length = n) (hk : k < n) : (cs.drop k).take 1 = [cs[k]'(by omega)] := by
  rw [List.drop_eq_getElem_cons (by omega)]; rfl
theorem fld {t : TypeId} {fs : Array Field} {fuel n : Nat} {cs : List Value} {x : DataW H × List MemPlace} (hs : Tryz.prog.underlying t = some (.struct fs)) (hn : Tryz.prog.cellsOf t = n) (h : DataW.trod enc Tryz.prog w base spare held fuel t cs = some x) :
    cs.length = n ∧ ∃ m, ∀ (i : Nat) (f : Field), fs[i]? = some f → ∃ z, DataW.trod enc Tryz.prog w base spare held m f.type ((cs.drop f.offset).take (Tryz.prog.cellsOf f.type)) = some z := by
  obtain ⟨xs, m, _, _, hl, hx, hf⟩ := DataW.trod_struct hs h
  refine ⟨by rw [← hn]; exact hl, m, fun i f hi => ?_⟩
  have hi' : i < fs.size := (Array.getElem?_eq_some_iff.1 hi).1
  exact ⟨_, (hf i f hi).trans (List.getElem?_eq_getElem (by omega))⟩
theorem rd_infos {fuel : Nat} {v : Value} {y : DataW H × List MemPlace} (h : DataW.trod enc Tryz.prog w base spare held fuel 23 [v] = some y) : ∃ l : List Kx.Info, RW infoC 3 w v l ∧ ∀ x ∈ l, x.guard.size ≤ 9223372036854775807 :=
  rd_slice (f := infoC) (sz := 3) (fun x => x.guard.size ≤ 9223372036854775807) Tryz.underlying23 (by kernel_rfl) (fun _ => rfl) (by decide) (fun n cs z hz hl => by
    obtain ⟨_, m, hf⟩ := fld Tryz.underlying137 (n := 3) (by kernel_rfl) hz
    obtain ⟨_, h0⟩ := hf 0 _ rfl
    obtain ⟨_, h1⟩ := hf 1 _ rfl
    obtain ⟨_, h2⟩ := hf 2 _ rfl
    have g0 : DataW.trod enc Tryz.prog w base spare held m 3 ((cs.drop 0).take (Tryz.prog.cellsOf 3)) = some _ := h0
    rw [cellsOf_int] at g0
    have g1 : DataW.trod enc Tryz.prog w base spare held m 9 ((cs.drop 1).take (Tryz.prog.cellsOf 9)) = some _ := h1
    rw [cellsOf_string] at g1
    have g2 : DataW.trod enc Tryz.prog w base spare held m 3 ((cs.drop 2).take (Tryz.prog.cellsOf 3)) = some _ := h2
    rw [cellsOf_int] at g2
    rw [one_of (k := 0) hl (by decide)] at g0
    rw [one_of (k := 1) hl (by decide)] at g1
    rw [one_of (k := 2) hl (by decide)] at g2
    obtain ⟨a, ha, _⟩ := DataW.trod_int Tryz.underlying3 g0
    obtain ⟨b, hb, _, hbs⟩ := DataW.trod_string Tryz.underlying9 g1
    obtain ⟨c, hc, _⟩ := DataW.trod_int Tryz.underlying3 g2
    clear hf
    obtain ⟨c0, c1, c2, rfl⟩ := len3 hl
    simp at ha hb hc
    subst ha hb hc
    exact ⟨⟨a, b, c⟩, rfl, by unfold maxLen at hbs; show b.size ≤ _; omega⟩) h
theorem rd_cached {fuel : Nat} {v : Value} {y : DataW H × List MemPlace} (h : DataW.trod enc Tryz.prog w base spare held fuel 25 [v] = some y) : ∃ l : List Kx.Cached, RW cachedC 4 w v l := by
  obtain ⟨l, h1, _⟩ := rd_slice (f := cachedC) (sz := 4) (fun _ => True) Tryz.underlying25 (by kernel_rfl) (fun _ => rfl) (by decide) (fun n cs z hz hl => by
    obtain ⟨_, m, hf⟩ := fld Tryz.underlying143 (n := 4) (by kernel_rfl) hz
    obtain ⟨_, h0⟩ := hf 0 _ rfl
    obtain ⟨_, h1⟩ := hf 1 _ rfl
    obtain ⟨_, h2⟩ := hf 2 _ rfl
    obtain ⟨_, h3⟩ := hf 3 _ rfl
    have g0 : DataW.trod enc Tryz.prog w base spare held m 3 ((cs.drop 0).take (Tryz.prog.cellsOf 3)) = some _ := h0
    rw [cellsOf_int] at g0
    have g1 : DataW.trod enc Tryz.prog w base spare held m 3 ((cs.drop 1).take (Tryz.prog.cellsOf 3)) = some _ := h1
    rw [cellsOf_int] at g1
    have g2 : DataW.trod enc Tryz.prog w base spare held m 3 ((cs.drop 2).take (Tryz.prog.cellsOf 3)) = some _ := h2
    rw [cellsOf_int] at g2
    have g3 : DataW.trod enc Tryz.prog w base spare held m 4 ((cs.drop 3).take (Tryz.prog.cellsOf 4)) = some _ := h3
    rw [cellsOf_bool] at g3
    rw [one_of (k := 0) hl (by decide)] at g0
    rw [one_of (k := 1) hl (by decide)] at g1
    rw [one_of (k := 2) hl (by decide)] at g2
    rw [one_of (k := 3) hl (by decide)] at g3
    obtain ⟨a, ha, _⟩ := DataW.trod_int Tryz.underlying3 g0
    obtain ⟨b, hb, _⟩ := DataW.trod_int Tryz.underlying3 g1
    obtain ⟨c, hc, _⟩ := DataW.trod_int Tryz.underlying3 g2
    obtain ⟨d, hd, _⟩ := DataW.trod_bool Tryz.underlying4 g3
    clear hf
    obtain ⟨c0, c1, c2, c3, rfl⟩ := len4 hl
    simp at ha hb hc hd
    subst ha hb hc hd
    exact ⟨⟨a, b, c, d⟩, rfl, trivial⟩) h
  exact ⟨l, h1⟩
theorem rd_pages {fuel : Nat} {v : Value} {y : DataW H × List MemPlace} (h : DataW.trod enc Tryz.prog w base spare held fuel 29 [v] = some y) : ∃ l : List Kx.Page, RW pageC 3 w v l := by
  obtain ⟨l, h1, _⟩ := rd_slice (f := pageC) (sz := 3) (fun _ => True) Tryz.underlying29 (by kernel_rfl) (fun _ => rfl) (by decide) (fun n cs z hz hl => by
    obtain ⟨_, m, hf⟩ := fld Tryz.underlying116 (n := 3) (by kernel_rfl) hz
    obtain ⟨_, h0⟩ := hf 0 _ rfl
    obtain ⟨_, h1⟩ := hf 1 _ rfl
    obtain ⟨_, h2⟩ := hf 2 _ rfl
    have g0 : DataW.trod enc Tryz.prog w base spare held m 3 ((cs.drop 0).take (Tryz.prog.cellsOf 3)) = some _ := h0
    rw [cellsOf_int] at g0
    have g1 : DataW.trod enc Tryz.prog w base spare held m 3 ((cs.drop 1).take (Tryz.prog.cellsOf 3)) = some _ := h1
    rw [cellsOf_int] at g1
    have g2 : DataW.trod enc Tryz.prog w base spare held m 4 ((cs.drop 2).take (Tryz.prog.cellsOf 4)) = some _ := h2
    rw [cellsOf_bool] at g2
    rw [one_of (k := 0) hl (by decide)] at g0
    rw [one_of (k := 1) hl (by decide)] at g1
    rw [one_of (k := 2) hl (by decide)] at g2
    obtain ⟨a, ha, _⟩ := DataW.trod_int Tryz.underlying3 g0
    obtain ⟨b, hb, _⟩ := DataW.trod_int Tryz.underlying3 g1
    obtain ⟨c, hc, _⟩ := DataW.trod_bool Tryz.underlying4 g2
    clear hf
    obtain ⟨c0, c1, c2, rfl⟩ := len3 hl
    simp at ha hb hc
    subst ha hb hc
    exact ⟨⟨a, b, c⟩, rfl, trivial⟩) h
  exact ⟨l, h1⟩
/-- environments, whatever the lengths -/
def RWE (w : World) (v : Value) (es : List Kx.Env) : Prop := ∃ ps : List (Value × Int), ps.length = es.length ∧ RW envC 2 w v ps ∧ ∀ i (h : i < ps.length) (h' : i < es.length), ps[i].2 = es[i].root ∧ RW strC 1 w ps[i].1 es[i].rights
theorem rd_envs {fuel : Nat} {v : Value} {y : DataW H × List MemPlace} (h : DataW.trod enc Tryz.prog w base spare held fuel 24 [v] = some y) : ∃ l : List Kx.Env, RWE w v l ∧ ∀ x ∈ l, ∀ s ∈ x.rights, s.size ≤ 9223372036854775807 := by
  obtain ⟨ps, h1, h2⟩ := rd_slice (f := envC) (sz := 2) (fun p : Value × Int => ∃ e : Kx.Env, (p.2 = e.root ∧ RW strC 1 w p.1 e.rights) ∧ ∀ s ∈ e.rights, s.size ≤ 9223372036854775807) Tryz.underlying24 (by kernel_rfl) (fun _ => rfl) (by decide) (fun n cs z hz hl => by
    obtain ⟨_, m, hf⟩ := fld Tryz.underlying139 (n := 2) (by kernel_rfl) hz
    obtain ⟨_, h0⟩ := hf 0 _ rfl
    obtain ⟨_, h1⟩ := hf 1 _ rfl
    have g1 : DataW.trod enc Tryz.prog w base spare held m 3 ((cs.drop 1).take (Tryz.prog.cellsOf 3)) = some _ := h1
    rw [cellsOf_int] at g1
    have h0' : DataW.trod enc Tryz.prog w base spare held m 80 ((cs.drop 0).take (Tryz.prog.cellsOf 80)) = some _ := h0
    rw [cellsOf_strs] at h0'
    rw [one_of (k := 1) hl (by decide)] at g1
    rw [one_of (k := 0) hl (by decide)] at h0'
    obtain ⟨b, hb, _⟩ := DataW.trod_int Tryz.underlying3 g1
    obtain ⟨l, r1, r2⟩ := rd_strs h0'
    clear hf
    obtain ⟨c0, c1, rfl⟩ := len2 hl
    simp at hb
    subst hb
    exact ⟨(c0, b), rfl, ⟨⟨l, b⟩, ⟨rfl, r1⟩, r2⟩⟩) h
  obtain ⟨m, hl, hr⟩ := pick _ ps h2
  refine ⟨m, ⟨ps, hl, h1, fun i h h' => (hr i h h').1⟩, fun x hx s hs => ?_⟩
  obtain ⟨i, hi, rfl⟩ := List.getElem_of_mem hx
  exact (hr i (by omega) hi).2 s hs
/-- a kernel, whatever the lengths -/
structure RWK (w : World) (vm vi ve vc : Value) (k : Kx.Kernel) : Prop where
  m : RWM w vm k.mem
  i : RW infoC 3 w vi k.infos
  e : RWE w ve k.envs
  c : RW cachedC 4 w vc k.cache
/-- the lengths of its texts are Go's -/
def SaneK2 (k : Kx.Kernel) : Prop := (∀ x ∈ k.infos, x.guard.size ≤ 9223372036854775807) ∧ ∀ x ∈ k.envs, ∀ s ∈ x.rights, s.size ≤ 9223372036854775807
theorem SaneK2.sane {k : Kx.Kernel} (h : SaneK2 k) : SaneK k := by
  refine ⟨h.1, fun e he s hs => ?_⟩
  have e1 : Kx.envAt k.envs e = k.envs[e] := by simp [Kx.envAt, he]
  rw [e1] at hs
  exact h.2 _ (List.getElem_mem he) s hs
theorem rd_kernel {fuel : Nat} {cs : List Value} {y : DataW H × List MemPlace} (h : DataW.trod enc Tryz.prog w base spare held fuel 27 cs = some y) : ∃ vm vi ve vc k, cs = [vm, vi, ve, vc] ∧ RWK w vm vi ve vc k ∧ SaneK2 k := by
  obtain ⟨hl, m, hf⟩ := fld Tryz.underlying27 (n := 4) (by kernel_rfl) h
  obtain ⟨_, h0⟩ := hf 0 _ rfl
  obtain ⟨_, h1⟩ := hf 1 _ rfl
  obtain ⟨_, h2⟩ := hf 2 _ rfl
  obtain ⟨_, h3⟩ := hf 3 _ rfl
  have h0' : DataW.trod enc Tryz.prog w base spare held m 22 ((cs.drop 0).take (Tryz.prog.cellsOf 22)) = some _ := h0
  rw [cellsOf_rows] at h0'
  have h1' : DataW.trod enc Tryz.prog w base spare held m 23 ((cs.drop 1).take (Tryz.prog.cellsOf 23)) = some _ := h1
  rw [cellsOf_infos] at h1'
  have h2' : DataW.trod enc Tryz.prog w base spare held m 24 ((cs.drop 2).take (Tryz.prog.cellsOf 24)) = some _ := h2
  rw [cellsOf_envs] at h2'
  have h3' : DataW.trod enc Tryz.prog w base spare held m 25 ((cs.drop 3).take (Tryz.prog.cellsOf 25)) = some _ := h3
  rw [cellsOf_cached] at h3'
  rw [one_of (k := 0) hl (by decide)] at h0'
  rw [one_of (k := 1) hl (by decide)] at h1'
  rw [one_of (k := 2) hl (by decide)] at h2'
  rw [one_of (k := 3) hl (by decide)] at h3'
  obtain ⟨a, ra⟩ := rd_rows h0'
  obtain ⟨b, rb, sb⟩ := rd_infos h1'
  obtain ⟨c, rc, sc⟩ := rd_envs h2'
  obtain ⟨d, rd⟩ := rd_cached h3'
  clear hf
  obtain ⟨c0, c1, c2, c3, rfl⟩ := len4 hl
  exact ⟨c0, c1, c2, c3, ⟨a, b, c, d⟩, rfl, ⟨ra, rb, rc, rd⟩, sb, sc⟩
structure RWP (w : World) (vm vi ve vc vs vl vp : Value) (p : Kx.Pager) : Prop where
  k : RWK w vm vi ve vc p.k
  s : RWM w vs p.swap
  l : RW intC 1 w vl p.low
  g : RW pageC 3 w vp p.pages
theorem rd_pager {fuel : Nat} {cs : List Value} {y : DataW H × List MemPlace} (h : DataW.trod enc Tryz.prog w base spare held fuel 31 cs = some y) :
    ∃ vm vi ve vc vs vl vp p, cs = [vm, vi, ve, vc, vs, vl, vp, .int .i64 p.hand, .int .i64 p.limit] ∧ RWP w vm vi ve vc vs vl vp p ∧ SaneK2 p.k := by
  obtain ⟨hl, m, hf⟩ := fld Tryz.underlying31 (n := 9) (by kernel_rfl) h
  obtain ⟨_, h0⟩ := hf 0 _ rfl
  obtain ⟨_, h1⟩ := hf 1 _ rfl
  obtain ⟨_, h2⟩ := hf 2 _ rfl
  obtain ⟨_, h3⟩ := hf 3 _ rfl
  obtain ⟨_, h4⟩ := hf 4 _ rfl
  obtain ⟨_, h5⟩ := hf 5 _ rfl
  have h0' : DataW.trod enc Tryz.prog w base spare held m 27 ((cs.drop 0).take (Tryz.prog.cellsOf 27)) = some _ := h0
  rw [cellsOf_kernel] at h0'
  have h1' : DataW.trod enc Tryz.prog w base spare held m 22 ((cs.drop 4).take (Tryz.prog.cellsOf 22)) = some _ := h1
  rw [cellsOf_rows] at h1'
  have h2' : DataW.trod enc Tryz.prog w base spare held m 28 ((cs.drop 5).take (Tryz.prog.cellsOf 28)) = some _ := h2
  rw [cellsOf_ints] at h2'
  have h3' : DataW.trod enc Tryz.prog w base spare held m 29 ((cs.drop 6).take (Tryz.prog.cellsOf 29)) = some _ := h3
  rw [cellsOf_pages] at h3'
  have h4' : DataW.trod enc Tryz.prog w base spare held m 3 ((cs.drop 7).take (Tryz.prog.cellsOf 3)) = some _ := h4
  rw [cellsOf_int] at h4'
  have h5' : DataW.trod enc Tryz.prog w base spare held m 3 ((cs.drop 8).take (Tryz.prog.cellsOf 3)) = some _ := h5
  rw [cellsOf_int] at h5'
  rw [one_of (k := 4) hl (by decide)] at h1'
  rw [one_of (k := 5) hl (by decide)] at h2'
  rw [one_of (k := 6) hl (by decide)] at h3'
  rw [one_of (k := 7) hl (by decide)] at h4'
  rw [one_of (k := 8) hl (by decide)] at h5'
  obtain ⟨vm, vi, ve, vc, k, ek, rk, sk⟩ := rd_kernel h0'
  obtain ⟨a, ra⟩ := rd_rows h1'
  obtain ⟨b, rb⟩ := rd_ints h2'
  obtain ⟨c, rc⟩ := rd_pages h3'
  obtain ⟨hd, hh, _⟩ := DataW.trod_int Tryz.underlying3 h4'
  obtain ⟨lm, hm, _⟩ := DataW.trod_int Tryz.underlying3 h5'
  clear hf
  obtain ⟨c0, c1, c2, c3, c4, c5, c6, c7, c8, rfl⟩ := len9 hl
  simp at hh hm ek
  obtain ⟨rfl, rfl, rfl, rfl⟩ := ek
  subst hh hm
  exact ⟨c0, c1, c2, c3, c4, c5, c6, ⟨k, a, b, c, hd, lm⟩, rfl, ⟨rk, ra, rb, rc⟩, sk⟩
end
end Go.Proofs.YtfnpjdgjceiklaaGreatDoor
