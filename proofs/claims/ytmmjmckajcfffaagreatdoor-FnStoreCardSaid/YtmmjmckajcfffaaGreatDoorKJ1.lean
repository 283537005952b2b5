/- slices.Clone at the kernel's slices; a row cut and cleared. -/
import Derived.Test.YtmmjmckajcfffaaGreatDoorKLa
set_option maxHeartbeats 400000
set_option linter.all false
open List renaming nil_append->A1
open Option.some renaming injEq->A2
open Go.Value renaming slice->A0
open Go.Proofs.Tryz
namespace Go.Proofs.YtmmjmckajcfffaaGreatDoor
open Go.RowKit Kx
variable {sz n base g cap:Nat}{w:World}{e:TypeId}
theorem RS.aaE {α:Type} {f:α->List Value} {c:Nat} {l:List α} (h:RS f sz w (A0 none n c) l):l=[]/\n=0/\c=0:=by
 rcases h.2 with ⟨rfl,a,cap,e,_,hn⟩ | ⟨b,off,cap,e,_⟩
 ·obtain ⟨rfl,rfl,rfl⟩:=Za e;clear e;exact ⟨rfl,rfl,hn rfl⟩
 simp at e
theorem BD (l:List aG) (v:Value) (w:World) (h:RS bH 3 w v l):Calls prog 53 #[v] w (yu bH 3 37 w l):=by
 obtain ⟨a,cap,rfl,_,_⟩:=h.val;have hl:=h.1;have hnil:=fun w=>Lib.run_eql_slice_nil (P:=prog) w 24 37 a l.length cap 0 0 underlying24
 cases a with
 | none =>
  obtain ⟨rfl,_,rfl⟩:=h.aaE;simp only [List.length_nil,Option.isNone_none] at hnil;clear h hl;go_enter func53,ntmps53;go_wp2_with fail;go_ret;exact ⟨_,rfl,OS.nil _ _,Below.refl _ _⟩
 | some ad =>
  simp only [Option.isNone_some] at hnil;have hs:=af (h.below (fZ.alloc aW (.cells #[] 37)));clear h;go_enter func53,ntmps53;go_wp2_with (at_builtin;refine aV qH rfl _ _ rfl w.heap.size _ [] rfl (OS.d_ aW) _ l rfl hs.o (by simp;omega) (by simp) ?_;intro v' w3 ho3 hg3 hx3;clear hx3;rw [A1] at ho3;have jJ:=af ho3;have ql:=af hg3;clear ho3 hg3);go_ret;exact ⟨_,rfl,jJ.o,Below.dN (fZ.alloc aW _) (OS.d_ (f:=bH) (sz:=3) aW) ql.o aW (by simp)⟩
theorem aap (l:List Kx.Cached) (v:Value) (w:World) (h:RS b_ 4 w v l):Calls prog 87 #[v] w (yu b_ 4 60 w l):=by
 obtain ⟨a,cap,rfl,_,_⟩:=h.val;have hl:=h.1;have hnil:=fun w=>Lib.run_eql_slice_nil (P:=prog) w 26 60 a l.length cap 0 0 underlying26
 cases a with
 | none =>
  obtain ⟨rfl,_,rfl⟩:=h.aaE;simp only [List.length_nil,Option.isNone_none] at hnil;clear h hl;go_enter func87,ntmps87;go_wp2_with fail;go_ret;exact ⟨_,rfl,OS.nil _ _,Below.refl _ _⟩
 | some ad =>
  simp only [Option.isNone_some] at hnil;have hs:=af (h.below (fZ.alloc aW (.cells #[] 60)));clear h;go_enter func87,ntmps87;go_wp2_with (at_builtin;refine aV gB rfl _ _ rfl w.heap.size _ [] rfl (OS.d_ aW) _ l rfl hs.o (by simp;omega) (by simp) ?_;intro v' w3 ho3 hg3 hx3;clear hx3;rw [A1] at ho3;have jJ:=af ho3;have ql:=af hg3;clear ho3 hg3);go_ret;exact ⟨_,rfl,jJ.o,Below.dN (fZ.alloc aW _) (OS.d_ (f:=b_) (sz:=4) aW) ql.o aW (by simp)⟩
theorem aay (l:List Kx.Str) (v:Value) (w:World) (h:RS df 1 w v l):Calls prog 63 #[v] w (yu df 1 9 w l):=by
 obtain ⟨a,cap,rfl,_,_⟩:=h.val;have hl:=h.1;have hnil:=fun w=>Lib.run_eql_slice_nil (P:=prog) w 39 9 a l.length cap 0 0 underlying39
 cases a with
 | none =>
  obtain ⟨rfl,_,rfl⟩:=h.aaE;simp only [List.length_nil,Option.isNone_none] at hnil;clear h hl;go_enter func63,ntmps63;go_wp2_with fail;go_ret;exact ⟨_,rfl,OS.nil _ _,Below.refl _ _⟩
 | some ad =>
  simp only [Option.isNone_some] at hnil;have hs:=af (h.below (fZ.alloc aW (.cells #[] 9)));clear h;go_enter func63,ntmps63;go_wp2_with (at_builtin;refine aV gX rfl _ _ rfl w.heap.size _ [] rfl (OS.d_ aW) _ l rfl hs.o (by simp;omega) (by simp) ?_;intro v' w3 ho3 hg3 hx3;clear hx3;rw [A1] at ho3;have jJ:=af ho3;have ql:=af hg3;clear ho3 hg3);go_ret;exact ⟨_,rfl,jJ.o,Below.dN (fZ.alloc aW _) (OS.d_ (f:=df) (sz:=1) aW) ql.o aW (by simp)⟩
theorem abP (l:List (qj×Int)) (v:Value) (w:World) (h:RS jG 2 w v l):Calls prog 86 #[v] w (yu jG 2 41 w l):=by
 obtain ⟨a,cap,rfl,_,_⟩:=h.val;have hl:=h.1;have hnil:=fun w=>Lib.run_eql_slice_nil (P:=prog) w 25 41 a l.length cap 0 0 underlying25
 cases a with
 | none =>
  obtain ⟨rfl,_,rfl⟩:=h.aaE;simp only [List.length_nil,Option.isNone_none] at hnil;clear h hl;go_enter func86,ntmps86;go_wp2_with fail;go_ret;exact ⟨_,rfl,OS.nil _ _,Below.refl _ _⟩
 | some ad =>
  simp only [Option.isNone_some] at hnil;have hs:=af (h.below (fZ.alloc aW (.cells #[] 41)));clear h;go_enter func86,ntmps86;go_wp2_with (at_builtin;refine aV OJ rfl _ _ rfl w.heap.size _ [] rfl (OS.d_ aW) _ l rfl hs.o (by simp;omega) (by simp) ?_;intro v' w3 ho3 hg3 hx3;clear hx3;rw [A1] at ho3;have jJ:=af ho3;have ql:=af hg3;clear ho3 hg3);go_ret;exact ⟨_,rfl,jJ.o,Below.dN (fZ.alloc aW _) (OS.d_ (f:=jG) (sz:=2) aW) ql.o aW (by simp)⟩
theorem abQ (l:List qj) (v:Value) (w:World) (h:RS rO 1 w v l):Calls prog 114 #[v] w (yu rO 1 43 w l):=by
 obtain ⟨a,cap,rfl,_,_⟩:=h.val;have hl:=h.1;have hnil:=fun w=>Lib.run_eql_slice_nil (P:=prog) w 23 43 a l.length cap 0 0 underlying23
 cases a with
 | none =>
  obtain ⟨rfl,_,rfl⟩:=h.aaE;simp only [List.length_nil,Option.isNone_none] at hnil;clear h hl;go_enter func114,ntmps114;go_wp2_with fail;go_ret;exact ⟨_,rfl,OS.nil _ _,Below.refl _ _⟩
 | some ad =>
  simp only [Option.isNone_some] at hnil;have hs:=af (h.below (fZ.alloc aW (.cells #[] 43)));clear h;go_enter func114,ntmps114;go_wp2_with (at_builtin;refine aV Kt rfl _ _ rfl w.heap.size _ [] rfl (OS.d_ aW) _ l rfl hs.o (by simp;omega) (by simp) ?_;intro v' w3 ho3 hg3 hx3;clear hx3;rw [A1] at ho3;have jJ:=af ho3;have ql:=af hg3;clear ho3 hg3);go_ret;exact ⟨_,rfl,jJ.o,Below.dN (fZ.alloc aW _) (OS.d_ (f:=rO) (sz:=1) aW) ql.o aW (by simp)⟩
theorem setCells_at:∀ (cs:List Value) (w:World) (g o:Nat),w.setCells g o cs=kP w g o cs
 | [],_,_,_=>rfl
 | c :: cs,w,g,o=>setCells_at cs (w.setCell ⟨g,o,none⟩ c) g (o+1)
theorem abk:∀ (cs xs:List Value) (o:Nat),xs.length<=o->setAt xs o cs=xs
 | [],_,_,_=>rfl
 | c :: cs,xs,o,h=>by
  have e:xs.set o c=xs:=List.set_eq_of_length_le h;show setAt (xs.set o c) (o+1) cs=xs;rw [e];exact abk cs xs (o+1) (by omega)
theorem OS.cut {α:Type} {f:α->List Value} [E:IV f sz] {l:List α} (h:OS f sz e w base (A0 (some ⟨g,0,none⟩) n cap) l) (hn:l.length=n) (i:Nat) (hi:i<=n) :
  OS f sz e w base (A0 (some ⟨g,0,none⟩) i cap) (l.take i):=by
 subst hn;have hlt:(l.take i).length=i:=by rw [List.length_take];omega
 refine ⟨⟨by rw [flat_length E.len],?_⟩,by have:=h.2;omega⟩;rcases h.1.2 with ⟨h',_⟩ | ⟨g',cap',cur,h',hb,hg,hnc,hcm,hcs,ht⟩
 ·simp at h'
 simp only [Value.slice.injEq,A2,Addr.mk.injEq,and_true,true_and] at h';obtain ⟨rfl,rfl⟩:=h';rw [hlt];refine .inr ⟨g,cap,cur,rfl,hb,hg,by omega,hcm,hcs,?_⟩;have e1:flat f l=flat f (l.take i) ++ flat f (l.drop i):=by rw [<-qM,List.take_append_drop]
 have e2:(flat f (l.take i)).length=i*sz:=by rw [flat_length E.len,hlt]
 have e3:i*sz<=l.length*sz:=Nat.mul_le_mul_right _ hi;rw [<-Nat.min_eq_left e3,<-List.take_take,ht,e1,<-e2];simp
theorem OS.behind {α:Type} {f:α->List Value} [E:IV f sz] {l:List α} (h:OS f sz e w base (A0 (some ⟨g,0,none⟩) n cap) l) (hn:l.length=n) (o:Nat) (ho:n*sz<=o) (cs:List Value) :
  OS f sz e (w.setCells g o cs) base (A0 (some ⟨g,0,none⟩) n cap) l/\w.grownBy (w.setCells g o cs) (some g):=by
 subst hn;rw [setCells_at];obtain ⟨h1,h2⟩:=zC cs (flat f l) o w h.1;rw [abk _ _ _ (by rw [flat_length E.len];exact ho)] at h1;exact ⟨⟨h1,h.2⟩,h2⟩
theorem aaz (w:World) (t e ty:TypeId) (z:Value) (cs:List Value) (ht:prog.underlying t=some (.slice e)) (hv:∀ w,(zeroValue e).run prog w=.ok z w) (b o n c:Nat) (hn:0<n) (hz:(Builtin.zeroCells z.cells n).toList=cs)
  (hc:∀ j,j<cs.length->(w.cell? ⟨b,o+j,none⟩).isSome=true) (hf:∀ j,j<cs.length->w.frozen? ⟨b,o+j,none⟩=false) (h1:∀ v ∈ cs,v.oneCell'=true) :
  (Builtin.clear_ #[t] ty #[A0 (some ⟨b,o,none⟩) n c]).run prog w=.ok (.tuple #[]) (w.setCells b o cs):=by
 have hst:=run_storeCells_cells (P:=prog) b o cs 0 w hc hf h1;simp only [Nat.add_zero] at hst;obtain ⟨m,rfl⟩:∃ m,n=m+1:=⟨n - 1,by omega⟩;simp [Builtin.clear_,run_underlying ht,hv,hz,hst]
theorem OS.KF {α:Type} {f:α->List Value} [E:IV f sz] {l:List α} (h:OS f sz e w base (A0 (some ⟨g,0,none⟩) n cap) l) (o:Nat) (ho:o<cap*sz) :
  (w.cell? ⟨g,o,none⟩).isSome=true/\w.frozen? ⟨g,o,none⟩=false:=by
 obtain rfl:=(RS.len h.rs rfl).1;refine ⟨?_,h.1.frozenAt _⟩;rcases h.1.2 with ⟨h',_⟩ | ⟨g',cap',cur,h',hb,hg,hnc,hcm,hcs,ht⟩
 ·simp at h'
 simp only [Value.slice.injEq,A2,Addr.mk.injEq,and_true,true_and] at h';obtain ⟨rfl,rfl⟩:=h';have hlt:o<cur.size:=by omega
 simp [World.cell?,hg,hlt]
theorem aaA {α:Type} {f:α->List Value} [E:IV f sz] (z:α) (zc:Array Value) (hz:zc.toList=f z) (n:Nat):(Builtin.zeroCells zc n).toList=flat f (List.replicate n z):=by
 have hzs:zc.size=sz:=by rw [<-E.len z,<-hz];simp
 rw [<-jM E.len E.pos z zc hz n];unfold Builtin.zeroCells madeCells;rw [hzs]
end Go.Proofs.YtmmjmckajcfffaaGreatDoor
