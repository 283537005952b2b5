/- Contracts of slices.Clone and slices.Equal at []int, and of isPlace. -/
import Derived.Test.YthcmmoibpgcgaaaGreatDoorKV
set_option maxHeartbeats 400000
set_option linter.all false
open Go.Proofs.Tryz
namespace Go.Proofs.YthcmmoibpgcgaaaGreatDoor
open Go.RowKit
theorem acz (xs:List Int) (v:Value) (w:World) (h:RI w v xs):Calls prog 79 #[v] w (mZ w xs):=by
 obtain ⟨a,cap,rfl⟩:=h.val;have hl:=h.1;have hnil:=fun w=>Lib.run_eql_slice_nil (P:=prog) w 29 3 a xs.length cap 0 0 u22
 cases a with
 | none =>
  obtain ⟨rfl,_,rfl⟩:=h.Qh;simp only [List.length_nil,Option.isNone_none] at hnil;clear h hl;go_enter func79,ntmps79;go_wp2_with fail;go_ret;exact ⟨_,rfl,OI.nil _ _,Below.refl _ _⟩
 | some ad =>
  simp only [Option.isNone_some] at hnil;have hs:=af (h.below (fZ.alloc aW (.cells #[] 3))).src;clear h;go_enter func79,ntmps79;go_wp2_with (at_builtin;refine kW rfl _ _ rfl w.heap.size _ [] rfl (OI.d_ aW) _ _ cap xs rfl rfl hs.o (by simp;omega) (by simp) ?_;intro v' w3 ho3 hg3;rw [List.nil_append] at ho3;have jJ:=af ho3;have ql:=af hg3;clear ho3 hg3);go_ret;exact ⟨_,rfl,jJ.o,Below.app (fZ.alloc aW _) (OI.d_ aW) ql.o aW (by simp)⟩
end Go.Proofs.YthcmmoibpgcgaaaGreatDoor
