/- What the measure says of lengths. (printed by kl6.py) -/
import Derived.Test.YtfnpjdgjceiklaaGreatDoorKL5
namespace Go.Proofs.YtfnpjdgjceiklaaGreatDoor
open Go.RowKit

theorem le_sum_map {α : Type} (f : α → Nat) : ∀ (l : List α) (x : α), x ∈ l → f x ≤ (l.map f).sum
  | [], x, h => by simp at h
  | y :: l, x, h => by
    rcases List.mem_cons.1 h with rfl | h
    · simp
    · have := le_sum_map f l x h; simp; omega
theorem RI.of_rs {w : World} {v : Value} {xs : List Int} (h : RW intC 1 w v xs) (hl : xs.length ≤ 1099511627776) : RI w v xs := RI.rs (h.rs hl)
theorem RWM.rm {w : World} {v : Value} {m : List (List Int)} (h : RWM w v m) (hl : tRows m ≤ 1048576) : RM w v m := by
  obtain ⟨vs, hvl, h1, h2⟩ := h
  unfold tRows at hl
  refine ⟨vs, hvl, h1.rs (by omega), fun i hi hi' => RI.of_rs (h2 i hi hi') ?_⟩
  have := le_sum_map List.length m m[i] (List.getElem_mem hi')
  omega
theorem RWE.re {w : World} {v : Value} {m : List Kx.Env} (h : RWE w v m) (hl : tEnvs m ≤ 1048576) : REnv w v m ∧ ∀ x ∈ m, x.rights.length ≤ 1048576 := by
  obtain ⟨vs, hvl, h1, h2⟩ := h
  unfold tEnvs at hl
  have hr : ∀ x ∈ m, x.rights.length ≤ 1048576 := fun x hx => by
    have := le_sum_map (fun x => tStrs x.rights) m x hx
    simp only [tStrs] at this hl
    omega
  refine ⟨⟨vs, hvl, h1.rs (by omega), fun i hi hi' => ⟨(h2 i hi hi').1, (h2 i hi hi').2.rs ?_⟩⟩, hr⟩
  have := hr m[i] (List.getElem_mem hi')
  omega
/-- the lengths of a kernel of measure -/
structure LenK (k : Kx.Kernel) : Prop where
  m : k.mem.length ≤ 1048576
  i : k.infos.length ≤ 1048576
  e : k.envs.length ≤ 1048576
  r : ∀ x ∈ k.envs, x.rights.length ≤ 1048576
  c : k.cache.length ≤ 1048576
theorem RWK.rk {w : World} {vm vi ve vc : Value} {k : Kx.Kernel} (h : RWK w vm vi ve vc k) (hl : tKernel k ≤ 1048576) : RK w vm vi ve vc k ∧ LenK k := by
  unfold tKernel at hl
  obtain ⟨he, hr⟩ := h.e.re (by omega)
  have h1 : k.mem.length ≤ tRows k.mem := by unfold tRows; omega
  have h2 : k.infos.length ≤ tInfos k.infos := by unfold tInfos; omega
  have h3 : k.envs.length ≤ tEnvs k.envs := by unfold tEnvs; omega
  exact ⟨⟨h.m.rm (by omega), h.i.rs (by omega), he, h.c.rs (by omega)⟩, ⟨by omega, by omega, by omega, hr, by omega⟩⟩
theorem RWP.rp {w : World} {vm vi ve vc vs vl vp : Value} {p : Kx.Pager} (h : RWP w vm vi ve vc vs vl vp p) (hl : tPager p ≤ 1048576) : RP w vm vi ve vc vs vl vp p ∧ LenK p.k ∧ p.swap.length ≤ 1048576 ∧ p.pages.length ≤ 1048576 := by
  unfold tPager at hl
  obtain ⟨hk, hn⟩ := h.k.rk (by omega)
  have h1 : p.swap.length ≤ tRows p.swap := by unfold tRows; omega
  exact ⟨⟨hk, h.s.rm (by omega), RI.of_rs h.l (by omega), h.g.rs (by omega)⟩, hn, by omega, by omega⟩
end Go.Proofs.YtfnpjdgjceiklaaGreatDoor
