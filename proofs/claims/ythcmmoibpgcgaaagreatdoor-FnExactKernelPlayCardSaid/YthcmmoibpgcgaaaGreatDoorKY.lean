/- Short names. -/
import Derived.Test.YthcmmoibpgcgaaaGreatDoorRows
import Derived.WalkKit
import Derived.WalkSpells
import Derived.WalkLawsBesides
import Derived.BigQuiet
import Derived.Deep.QuietTactic
import Derived.Deep.LoopGhost
import Derived.Lib.Hide
import Derived.Outline
import Derived.Shelf.Abstract
import Derived.Below
import Derived.Deep.CutBlock
import Derived.Deep.CutRange
import Derived.StillTailTactics
import Derived.Deep.RegionHeld3
import Derived.Deep.Slices
import Derived.Deep.Fields
import Derived.ChangeSame
import Derived.Maps.AppendAt
import Derived.Deep.AppendLies
import Derived.Lib.Strings
import Derived.RegionTactic
import Derived.ChangeAlike
import Derived.Sort.OwnSortedInts
import GoSem.Op.String
import Derived.Laws.Strings
namespace Go.Proofs.YthcmmoibpgcgaaaGreatDoor
open Go.RowKit
def TI (p : Prop) : Prop := p
theorem TI.o {p : Prop} (h : TI p) : p := h
theorem af {p : Prop} (h : p) : TI p := h
theorem XP {α : Sort _} (a : α) : ∃ b, a = b := ⟨a, rfl⟩
theorem Zb {b b' o o' n n' c c' : Nat} (h : Value.slice (some ⟨b, o, none⟩) n c = .slice (some ⟨b', o', none⟩) n' c') : (b = b' /\ o = o' /\ True) /\ n = n' /\ c = c' := by
 simp only [Value.slice.injEq, Option.some.injEq, Addr.mk.injEq] at h
 exact ⟨⟨h.1.1, h.1.2.1, trivial⟩, h.2⟩
theorem Za {a b : Option Addr} {n m c d : Nat} (h : Value.slice a n c = .slice b m d) : a = b /\ n = m /\ c = d := by simpa only [Value.slice.injEq] using h
abbrev I_ (x : Int) : Value := .int .i64 x
theorem af7 {P : Program} {fn : Func} {R : Ending -> World -> Prop} {a : Act} {w : World} {v : Value} (h : (results fn a.tmps).run P w = .ok v w) (hR : R (.returned v) w) (hd : a.defers = [] := by rfl) : bodyPost P fn R .ret a w := bodyPost_ret h hd hR
theorem fZ {B : Nat} {w : World} : Below B w w := Below.refl _ _
theorem aW {n : Nat} : n <= n := Nat.le_refl _
theorem dm {w : World} {o : Obj} : Below w.heap.size w (w.alloc o) := (Below.refl _ _).alloc (Nat.le_refl _) _
end Go.Proofs.YthcmmoibpgcgaaaGreatDoor
