/- KBase, KW1, KW2, KApp, KW3, KW4, KW5, KW6, KW6b, KW7, KW8, KW9, KW10, joined. -/
import Derived.Test.YtliebkfligagnaaGreatDoorWalkA
import Derived.Test.YtliebkfligagnaaGreatDoorKK
import Derived.Deep.RegionHeld3
import Derived.Deep.AppendLies
import Derived.Lib.Strings
set_option maxHeartbeats 4000000
set_option linter.all false
namespace Go.Proofs.YtliebkfligagnaaGreatDoor
open Go.RowKit
def RS {α:Type} (f:α→List Value) (sz:Nat) (w:World) (v:Value) (l:List α):Prop:=
 l.length≤1099511627776∧((l=[]∧∃ a cap,v=.slice a 0 cap∧cap≤maxLen∧(a=none→cap=0)) ∨
  ∃ b off cap,v=.slice (some ⟨b,off,none⟩) l.length cap∧l.length≤cap∧cap≤maxLen∧b<w.heap.size∧∀ k (h:k<l.length) j u,(f l[k])[j]?=some u→w.cell? ⟨b,off+k*sz+j,none⟩=some u)
section
variable {α:Type} {f:α→List Value} {sz:Nat} {w w':World} {v:Value} {l:List α}
theorem RS.val (h:RS f sz w v l):∃ a cap,v=.slice a l.length cap∧l.length≤cap∧cap≤maxLen:=by
 rcases h.2 with ⟨rfl,a,cap,rfl,hc,_⟩ | ⟨b,off,cap,rfl,h1,h2,_⟩
 ·exact ⟨a,cap,rfl,Nat.zero_le _,hc⟩
 exact ⟨_,cap,rfl,h1,h2⟩
theorem RS.at (h:RS f sz w v l) {k:Nat} (hk:k<l.length) :
  ∃ b off cap,v=.slice (some ⟨b,off,none⟩) l.length cap∧b<w.heap.size∧∀ j u,(f l[k])[j]?=some u→w.cell? ⟨b,off+k*sz+j,none⟩=some u:=by
 rcases h.2 with ⟨rfl,a,cap,rfl,_⟩ | ⟨b,off,cap,rfl,_,_,hb,hc⟩
 ·simp at hk
 exact ⟨b,off,cap,rfl,hb,hc k hk⟩
theorem RS.below (h:RS f sz w v l) (hb:Below w.heap.size w w'):RS f sz w' v l:=by
 refine ⟨h.1,?_⟩;rcases h.2 with ⟨rfl,a,cap,rfl,hn⟩ | ⟨b,off,cap,rfl,h1,h2,hlt,hc⟩
 ·exact .inl ⟨rfl,a,cap,rfl,hn⟩
 exact .inr ⟨b,off,cap,rfl,h1,h2,Nat.lt_of_lt_of_le hlt hb.size,fun k hk j u hu=>(hb.cell (p:=⟨b,off+k*sz+j,none⟩) hlt).trans (hc k hk j u hu)⟩
theorem RS.len (h:RS f sz w v l) {a:Option Addr} {n cap:Nat} (hv:v=.slice a n cap):n=l.length∧n≤cap∧cap≤maxLen:=by
 obtain ⟨a',cap',e,h1,h2⟩:=h.val;rw [hv] at e;simp only [Value.slice.injEq] at e;obtain ⟨_,rfl,rfl⟩:=e;exact ⟨rfl,h1,h2⟩
end
theorem Below.up {B:Nat} {w w':World} (h:Below B w w') (hb:B=w.heap.size):Below w.heap.size w w':=hb ▸ h
def iR (x:Int):List Value:=[.int .i64 x]
def df (s:Kx.Str):List Value:=[.string s]
def yL (v:Value):List Value:=[v]
def bH (x:Kx.aG):List Value:=[.int .i64 x.kind,.string x.guard,.int .i64 x.refs]
def QD (x:Value×Int):List Value:=[x.1,.int .i64 x.2]
def b_ (x:Kx.Cached):List Value:=[.int .i64 x.env,.int .i64 x.page,.int .i64 x.frame,.bool x.write]
def jr (x:Kx.dV):List Value:=[.int .i64 x.wh,.int .i64 x.at_,.bool x.used]
def Lc (x:Kx.Call):List Value:=[.int .i64 x.kind,.int .i64 x.env,.int .i64 x.a,.int .i64 x.b,.int .i64 x.c,.string x.name]
def dK:=RS df 1
def bV:=RS bH 3
def dZ:=RS b_ 4
def rP:=RS jr 3
def Zj:=RS Lc 6
def RM (w:World) (v:Value) (m:List (List Int)):Prop:=∃ vs:List Value,vs.length=m.length∧RS yL 1 w v vs∧∀ i (h:i<vs.length) (h':i<m.length),RI w vs[i] m[i]
def uo (w:World) (v:Value) (es:List Kx.Env):Prop:=∃ ps:List (Value×Int),ps.length=es.length∧RS QD 2 w v ps∧∀ i (h:i<ps.length) (h':i<es.length),ps[i].2=es[i].root∧dK w ps[i].1 es[i].aB
structure RK (w:World) (vm vi ve vc:Value) (k:Kx.Kernel):Prop where
 m:RM w vm k.mem
 i:bV w vi k.ag
 e:uo w ve k.ah
 c:dZ w vc k.cache
theorem RI.rs {w:World} {v:Value} {xs:List Int} (h:RS iR 1 w v xs):RI w v xs:=by
 refine ⟨h.1,?_⟩;rcases h.2 with ⟨rfl,a,cap,rfl,_,hn⟩ | ⟨b,off,cap,rfl,_,_,hlt,hc⟩
 ·exact .inl ⟨rfl,a,cap,rfl,hn⟩
 exact .inr ⟨b,off,cap,rfl,hlt,fun i hi=>by have:=hc i hi 0 _ rfl;simpa using this⟩
theorem RM.below {w w':World} {v:Value} {m:List (List Int)} (h:RM w v m) (hb:Below w.heap.size w w'):RM w' v m:=by
 obtain ⟨vs,hl,hs,hr⟩:=h;exact ⟨vs,hl,hs.below hb,fun i h h'=>(hr i h h').below hb⟩
theorem uo.below {w w':World} {v:Value} {m:List Kx.Env} (h:uo w v m) (hb:Below w.heap.size w w'):uo w' v m:=by
 obtain ⟨vs,hl,hs,hr⟩:=h;exact ⟨vs,hl,hs.below hb,fun i h h'=>⟨(hr i h h').1,RS.below (hr i h h').2 hb⟩⟩
theorem RK.below {w w':World} {vm vi ve vc:Value} {k:Kx.Kernel} (h:RK w vm vi ve vc k) (hb:Below w.heap.size w w'):RK w' vm vi ve vc k:=
 ⟨h.m.below hb,RS.below h.i hb,h.e.below hb,RS.below h.c hb⟩
theorem RM.len {w:World} {v:Value} {m:List (List Int)} (h:RM w v m):m.length≤1099511627776∧∃ a cap,v=.slice a m.length cap∧m.length≤cap∧cap≤maxLen:=by
 obtain ⟨vs,hl,hs,_⟩:=h;have:=hs.val;rw [hl] at this;exact ⟨by rw [←hl];exact hs.1,this⟩
theorem RM.at {w:World} {v:Value} {m:List (List Int)} (h:RM w v m) {k:Nat} (hk:k<m.length) :
  ∃ b off cap u,v=.slice (some ⟨b,off,none⟩) m.length cap∧b<w.heap.size∧w.cell? ⟨b,off+k,none⟩=some u∧RI w u (Kx.row m k):=by
 obtain ⟨vs,hl,hs,hr⟩:=h;have hk':k<vs.length:=by omega
 obtain ⟨b,off,cap,e,hb,hc⟩:=hs.at hk';rw [hl] at e;refine ⟨b,off,cap,vs[k],e,hb,by have:=hc 0 _ rfl;simpa using this,?_⟩;have:=hr k hk' hk;simpa [Kx.row,hk] using this
theorem uo.len {w:World} {v:Value} {m:List Kx.Env} (h:uo w v m):m.length≤1099511627776∧∃ a cap,v=.slice a m.length cap∧m.length≤cap∧cap≤maxLen:=by
 obtain ⟨vs,hl,hs,_⟩:=h;have:=hs.val;rw [hl] at this;exact ⟨by rw [←hl];exact hs.1,this⟩
theorem uo.at {w:World} {v:Value} {m:List Kx.Env} (h:uo w v m) {k:Nat} (hk:k<m.length) :
  ∃ b off cap u,v=.slice (some ⟨b,off,none⟩) m.length cap∧b<w.heap.size∧w.cell? ⟨b,off+k*2,none⟩=some u∧w.cell? ⟨b,off+k*2+1,none⟩=some (.int .i64 (Kx.au m k).root)∧dK w u (Kx.au m k).aB:=by
 obtain ⟨vs,hl,hs,hr⟩:=h;have hk':k<vs.length:=by omega
 obtain ⟨b,off,cap,e,hb,hc⟩:=hs.at hk';rw [hl] at e;have h1:=hr k hk' hk;have e2:Kx.au m k=m[k]:=by simp [Kx.au,hk]
 rw [e2];exact ⟨b,off,cap,vs[k].1,e,hb,hc 0 _ rfl,by rw [←h1.1];exact hc 1 _ rfl,h1.2⟩
theorem bV.at {w:World} {v:Value} {m:List Kx.aG} (h:bV w v m) {k:Nat} (hk:k<m.length) :
  ∃ b off cap,v=.slice (some ⟨b,off,none⟩) m.length cap∧b<w.heap.size∧w.cell? ⟨b,off+k*3,none⟩=some (.int .i64 (Kx.inf m k).kind)∧w.cell? ⟨b,off+k*3+1,none⟩=some (.string (Kx.inf m k).guard)∧w.cell? ⟨b,off+k*3+2,none⟩=some (.int .i64 (Kx.inf m k).refs):=by
 obtain ⟨b,off,cap,e,hb,hc⟩:=RS.at h hk;have e2:Kx.inf m k=m[k]:=by simp [Kx.inf,hk]
 rw [e2];exact ⟨b,off,cap,e,hb,hc 0 _ rfl,hc 1 _ rfl,hc 2 _ rfl⟩
theorem dZ.at {w:World} {v:Value} {m:List Kx.Cached} (h:dZ w v m) {k:Nat} (hk:k<m.length) :
  ∃ b off cap,v=.slice (some ⟨b,off,none⟩) m.length cap∧b<w.heap.size∧w.cell? ⟨b,off+k*4,none⟩=some (.int .i64 (m.getD k Kx.Cached.zero).env)∧w.cell? ⟨b,off+k*4+1,none⟩=some (.int .i64 (m.getD k Kx.Cached.zero).page) ∧
   w.cell? ⟨b,off+k*4+2,none⟩=some (.int .i64 (m.getD k Kx.Cached.zero).frame)∧w.cell? ⟨b,off+k*4+3,none⟩=some (.bool (m.getD k Kx.Cached.zero).write):=by
 obtain ⟨b,off,cap,e,hb,hc⟩:=RS.at h hk;have e2:m.getD k Kx.Cached.zero=m[k]:=by simp [hk]
 rw [e2];exact ⟨b,off,cap,e,hb,hc 0 _ rfl,hc 1 _ rfl,hc 2 _ rfl,hc 3 _ rfl⟩
theorem rP.at {w:World} {v:Value} {m:List Kx.dV} (h:rP w v m) {k:Nat} (hk:k<m.length) :
  ∃ b off cap,v=.slice (some ⟨b,off,none⟩) m.length cap∧b<w.heap.size∧w.cell? ⟨b,off+k*3,none⟩=some (.int .i64 (Kx.aA m k).wh)∧w.cell? ⟨b,off+k*3+1,none⟩=some (.int .i64 (Kx.aA m k).at_)∧w.cell? ⟨b,off+k*3+2,none⟩=some (.bool (Kx.aA m k).used):=by
 obtain ⟨b,off,cap,e,hb,hc⟩:=RS.at h hk;have e2:Kx.aA m k=m[k]:=by simp [Kx.aA,hk]
 rw [e2];exact ⟨b,off,cap,e,hb,hc 0 _ rfl,hc 1 _ rfl,hc 2 _ rfl⟩
theorem dK.at {w:World} {v:Value} {m:List Kx.Str} (h:dK w v m) {k:Nat} (hk:k<m.length) :
  ∃ b off cap,v=.slice (some ⟨b,off,none⟩) m.length cap∧b<w.heap.size∧w.cell? ⟨b,off+k,none⟩=some (.string m[k]):=by
 obtain ⟨b,off,cap,e,hb,hc⟩:=RS.at h hk;exact ⟨b,off,cap,e,hb,by have:=hc 0 _ rfl;simpa using this⟩
def FK (w:Int):Int:=match Kx.entry w with | some (f,_)=>(f:Int) | none=>0
def Qc (w:Int):Bool:=match Kx.entry w with | some (_,b)=>b | none=>false
def Ik (w:Int):Bool:=(Kx.entry w).isSome
theorem xR {w:Int} {f:Nat} {b:Bool} (h:Kx.entry w=some (f,b)):FK w=f∧Qc w=b∧Ik w=true:=by simp [FK,Qc,Ik,h]
theorem pO {w:Int} (h:Kx.entry w=none):FK w=0∧Qc w=false∧Ik w=false:=by simp [FK,Qc,Ik,h]
theorem Rl (w:Int):0≤FK w∧FK w≤11:=by
 unfold FK;split
 ·rename_i f b h;have:=Kx.dU h;omega
 omega
theorem zi {w:Int} (h0:0<w) (h1:w % 2=1) (h2:w<48):Kx.entry w=some ((w / 4).toNat,w % 4==3):=by unfold Kx.entry;rw [if_pos ⟨h0,h1,h2⟩]
theorem oO {w:Int} (h:¬ (0<w∧w % 2=1∧w<48)):Kx.entry w=none:=by unfold Kx.entry;rw [if_neg h]
theorem GI {w:Int} (h0:0<w) (h1:w % 2=1) (h2:w<48):FK w=w / 4∧Qc w=(w % 4==3)∧Ik w=true:=by
 have:=xR (zi h0 h1 h2)
 refine ⟨?_,this.2.1,this.2.2⟩;rw [this.1];omega
theorem Ba {w:Int} (h0:0<w) (h1:w % 2=1) (h2:w<48):Kx.dY w=1:=by
 unfold Kx.dY;rw [if_neg (by omega),zi h0 h1 h2];rfl
theorem uI {w:Int} (h:¬ (0<w∧w % 2=1∧w<48)) (h0:w≠0):Kx.dY w=2:=by
 unfold Kx.dY;rw [if_neg h0,oO h];rfl
theorem jA (x:Int) (w:World):Calls Tryz.prog 185 #[.int .i64 x] w fun e w'=>e=.returned (.int .i64 (Kx.dY x))∧w=w':=by
 by_cases h0:x=0
 ·subst h0;go_enter Tryz.func185,Tryz.ntmps185;go_wp2_with fail;go_ret;exact ⟨rfl,rfl⟩
 have hz:(x==0)=false:=by simpa using h0
 by_cases hp:0<x
 ·by_cases hm:x % 2=1
  ·have hmb:(x % 2==1)=true:=by simpa using hm
   by_cases hl:x<48
   ·have hk:=af (Ba hp hm hl);clear hm h0;go_enter Tryz.func185,Tryz.ntmps185;go_wp2_with fail;go_ret;exact ⟨aZ hk.out.symm,rfl⟩
   have hk:=af (uI (w:=x) (by omega) h0);clear hm h0;go_enter Tryz.func185,Tryz.ntmps185;go_wp2_with fail;go_ret;exact ⟨aZ hk.out.symm,rfl⟩
  have hmb:(x % 2==1)=false:=by simpa using hm
  have hk:=af (uI (w:=x) (by omega) h0);clear hm h0;go_enter Tryz.func185,Tryz.ntmps185;go_wp2_with fail;go_ret;exact ⟨aZ hk.out.symm,rfl⟩
 have hk:=af (uI (w:=x) (by omega) h0);clear h0;go_enter Tryz.func185,Tryz.ntmps185;go_wp2_with fail;go_ret;exact ⟨aZ hk.out.symm,rfl⟩
def Eg (x:Int):Ending:=.returned (.tuple #[.int .i64 (FK x),.bool (Qc x),.bool (Ik x)])
theorem C_ {x:Int} {f:Nat} {b:Bool} (h:Kx.entry x=some (f,b)):Eg x=.returned (.tuple #[.int .i64 (f:Int),.bool b,.bool true]):=by
 unfold Eg;rw [(xR h).1,(xR h).2.1,(xR h).2.2]
theorem G7 {x:Int} (h:Kx.entry x=none):Eg x=.returned (.tuple #[.int .i64 0,.bool false,.bool false]):=by
 unfold Eg;rw [(pO h).1,(pO h).2.1,(pO h).2.2]
theorem IW {k:IntKind} {a a':Int} {b b' c c':Bool} (h1:a=a') (h2:b=b') (h3:c=c'):Ending.returned (.tuple #[.int k a,.bool b,.bool c])=.returned (.tuple #[.int k a',.bool b',.bool c']):=by rw [h1,h2,h3]
theorem bM (x:Int) (w:World):Calls Tryz.prog 125 #[.int .i64 x] w fun e w'=>e=Eg x∧w=w':=by
 by_cases hg:0<x∧x % 2=1∧x<48
 ·have hk:=af (Ba hg.1 hg.2.1 hg.2.2);have he:=af (GI hg.1 hg.2.1 hg.2.2);have h1:=hg.1;have h2:=hg.2.2;clear hg;go_enter Tryz.func125,Tryz.ntmps125;go_wp2_with fail;refine (jA _ _).mono ?_;rintro e w' ⟨rfl,rfl⟩;rw [hk.out];go_wp2_with fail;go_ret3;exact ⟨IW he.out.1.symm he.out.2.1.symm he.out.2.2.symm,rfl⟩
 have he:=af (pO (oO hg));have hk:Kx.dY x=0∨Kx.dY x=2:=by
  by_cases h0:x=0
  ·left;rw [h0];rfl
  right;exact uI hg h0
 have Hk:=af hk;clear hg hk;go_enter Tryz.func125,Tryz.ntmps125;go_wp2_with fail;refine (jA _ _).mono ?_;rintro e w' ⟨rfl,rfl⟩;rcases Hk.out with hk | hk <;> rw [hk] <;> clear hk
 all_goals
  go_wp2_with fail;go_ret3;exact ⟨IW he.out.1.symm he.out.2.1.symm he.out.2.2.symm,rfl⟩
theorem dJ (n lo hi:Int) (w:World):Calls Tryz.prog 99 #[.int .i64 n,.int .i64 lo,.int .i64 hi] w fun e w'=>e=.returned (.bool (Kx.bK n lo hi))∧w=w':=tq n lo hi w
theorem dI (x:Int) (w:World):Calls Tryz.prog 187 #[.int .i64 x] w fun e w'=>e=.returned (.bool (Kx.bK x 0 11))∧w=w':=by
 go_enter Tryz.func187,Tryz.ntmps187;go_wp2_with fail;refine (dJ _ _ _ _).mono ?_;rintro e w' ⟨rfl,rfl⟩;go_wp2_with fail;go_ret;exact ⟨rfl,rfl⟩
theorem kC (x:Int) (w:World):Calls Tryz.prog 71 #[.int .i64 x] w fun e w'=>e=.returned (.bool (Kx.bK x 0 63))∧w=w':=by
 go_enter Tryz.func71,Tryz.ntmps71;go_wp2_with fail;refine (dJ _ _ _ _).mono ?_;rintro e w' ⟨rfl,rfl⟩;go_wp2_with fail;go_ret;exact ⟨rfl,rfl⟩
theorem qZ (x:Int) (w:World):Calls Tryz.prog 41 #[.int .i64 x] w fun e w'=>e=.returned (.bool (Kx.bK x 0 2))∧w=w':=by
 go_enter Tryz.func41,Tryz.ntmps41;go_wp2_with fail;refine (dJ _ _ _ _).mono ?_;rintro e w' ⟨rfl,rfl⟩;go_wp2_with fail;go_ret;exact ⟨rfl,rfl⟩
theorem jD (n lo hi:Int) (w:World):Calls Tryz.prog 105 #[.int .i64 n,.int .i64 lo,.int .i64 hi] w fun e w'=>e=.returned (.bool (Kx.bK n lo hi))∧w=w':=y_ n lo hi w
theorem jO (x:Int) (w:World):Calls Tryz.prog 81 #[.int .i64 x] w fun e w'=>e=.returned (.bool (Kx.bK x 0 11))∧w=w':=by
 go_enter Tryz.func81,Tryz.ntmps81;go_wp2_with fail;refine (jD _ _ _ _).mono ?_;rintro e w' ⟨rfl,rfl⟩;go_wp2_with fail;go_ret;exact ⟨rfl,rfl⟩
theorem qI (x:Int) (w:World):Calls Tryz.prog 69 #[.int .i64 x] w fun e w'=>e=.returned (.bool (Kx.bK x 0 63))∧w=w':=by
 go_enter Tryz.func69,Tryz.ntmps69;go_wp2_with fail;refine (jD _ _ _ _).mono ?_;rintro e w' ⟨rfl,rfl⟩;go_wp2_with fail;go_ret;exact ⟨rfl,rfl⟩
theorem FH (x:Int) (w:World):Calls Tryz.prog 82 #[.int .i64 x] w fun e w'=>e=.returned (.bool (Kx.bK x 0 3))∧w=w':=by
 go_enter Tryz.func82,Tryz.ntmps82;go_wp2_with fail;refine (jD _ _ _ _).mono ?_;rintro e w' ⟨rfl,rfl⟩;go_wp2_with fail;go_ret;exact ⟨rfl,rfl⟩
theorem IX (x:Int) (w:World):Calls Tryz.prog 200 #[.int .i64 x] w fun e w'=>e=.returned (.bool (Kx.bK x 0 15))∧w=w':=by
 go_enter Tryz.func200,Tryz.ntmps200;go_wp2_with fail;refine (jD _ _ _ _).mono ?_;rintro e w' ⟨rfl,rfl⟩;go_wp2_with fail;go_ret;exact ⟨rfl,rfl⟩
theorem Rn (x:Int) (w:World):Calls Tryz.prog 196 #[.int .i64 x] w fun e w'=>e=.returned (.bool (Kx.bK x 0 9999))∧w=w':=by
 go_enter Tryz.func196,Tryz.ntmps196;go_wp2_with fail;refine (jD _ _ _ _).mono ?_;rintro e w' ⟨rfl,rfl⟩;go_wp2_with fail;go_ret;exact ⟨rfl,rfl⟩
theorem BR (x:Int) (w:World):Calls Tryz.prog 47 #[.int .i64 x] w fun e w'=>e=.returned (.bool (Kx.bK x 0 2))∧w=w':=by
 go_enter Tryz.func47,Tryz.ntmps47;go_wp2_with fail;refine (jD _ _ _ _).mono ?_;rintro e w' ⟨rfl,rfl⟩;go_wp2_with fail;go_ret;exact ⟨rfl,rfl⟩
theorem bZ (x:Int) (w:World) (hx:x≤9223372036854775807):Calls Tryz.prog 124 #[.int .i64 x] w fun e w'=>e=Eg x∧w=w':=by
 by_cases hn:x<0
 ·have he:=af (pO (oO (w:=x) (by omega)));go_enter Tryz.func124,Tryz.ntmps124;go_wp2_with fail;go_ret3;exact ⟨IW he.out.1.symm he.out.2.1.symm he.out.2.2.symm,rfl⟩
 have h0:0≤x:=by omega
 by_cases hm:x % 2=0
 ·have hmb:(x % 2==0)=true:=by simpa using hm
  have he:=af (pO (oO (w:=x) (by omega)));clear hm;go_enter Tryz.func124,Tryz.ntmps124;go_wp2_with fail;go_ret3;exact ⟨IW he.out.1.symm he.out.2.1.symm he.out.2.2.symm,rfl⟩
 have hmb:(x % 2==0)=false:=by simpa using hm
 by_cases hl:x<48
 ·have he:=af (GI (w:=x) (by omega) (by omega) hl);have hi:=af (Kx.ay.2 (show 0≤x / 4∧x / 4≤11 by omega));clear hm;go_enter Tryz.func124,Tryz.ntmps124;go_wp2_with fail;refine (jO _ _).mono ?_;rintro e w' ⟨rfl,rfl⟩;rw [hi.out];go_wp2_with fail;go_ret3;exact ⟨IW he.out.1.symm he.out.2.1.symm he.out.2.2.symm,rfl⟩
 have he:=af (pO (oO (w:=x) (by omega)));have hi:=af (Kx.u_.2 (show x / 4<0∨11<x / 4 by omega));clear hm;go_enter Tryz.func124,Tryz.ntmps124;go_wp2_with fail;refine (jO _ _).mono ?_;rintro e w' ⟨rfl,rfl⟩;rw [hi.out];go_wp2_with fail;go_ret3;exact ⟨IW he.out.1.symm he.out.2.1.symm he.out.2.2.symm,rfl⟩
def xU (n:Nat) (p:Nat→Bool) (r:Int):Prop:=(∃ k:Nat,k<n∧p k=true∧(∀ j,j<k→p j=false)∧r=k)∨((∀ j,j<n→p j=false)∧r=-1)
theorem xU.any {n:Nat} {p:Nat→Bool} {r:Int} (h:xU n p r):decide (0≤r)=(List.range n).any p:=by
 rw [Bool.eq_iff_iff,decide_eq_true_eq,List.any_eq_true];rcases h with ⟨k,hk,hp,_,rfl⟩ | ⟨hn,rfl⟩
 ·exact ⟨fun _=>⟨k,by simpa using hk,hp⟩,fun _=>by omega⟩
 constructor
 ·intro h;omega
 rintro ⟨k,hk,hp⟩;rw [hn k (by simpa using hk)] at hp;cases hp
def uF (g:Nat) (lb:Array Value) (n:Nat) (arg:Nat→Value) (p:Nat→Bool) (w:World):Prop:=
 (∀ args W,(callFunc g args).run Tryz.prog W=.ok (.enter g args) W) ∧
 ∀ k W,k<n→Below w.heap.size w W→Calls Tryz.prog g (#[arg k] ++ lb) W fun e w'=>e=.returned (.bool (p k))∧Below W.heap.size W w'
def uG (n:Nat) (p:Nat→Bool) (w:World) (e:Ending) (w':World):Prop:=∃ r,e=.returned (.int .i64 r)∧xU n p r∧Below w.heap.size w w'
def kN (x:Kx.aG):Value:=.agg #[.int .i64 x.kind,.string x.guard,.int .i64 x.refs]
def iT (x:Kx.Cached):Value:=.agg #[.int .i64 x.env,.int .i64 x.page,.int .i64 x.frame,.bool x.write]
theorem dK.at2 {w:World} {v:Value} {m:List Kx.Str} (h:dK w v m) {k:Nat} (hk:k<m.length) :
  ∃ b off cap,v=.slice (some ⟨b,off,none⟩) m.length cap∧b<w.heap.size∧w.cell? ⟨b,off+k,none⟩=some (.string (m.getD k ByteArray.empty)):=by
 obtain ⟨b,off,cap,e,hb,hc⟩:=h.at hk;exact ⟨b,off,cap,e,hb,by rw [hc];simp [hk]⟩
theorem XJ.at2 {w:World} {v:Value} {m:List Value} (h:RS yL 1 w v m) {k:Nat} (hk:k<m.length) :
  ∃ b off cap,v=.slice (some ⟨b,off,none⟩) m.length cap∧b<w.heap.size∧w.cell? ⟨b,off+k,none⟩=some (m.getD k undef):=by
 obtain ⟨b,off,cap,e,hb,hc⟩:=h.at hk;exact ⟨b,off,cap,e,hb,by have:=hc 0 _ rfl;rw [Nat.mul_one,Nat.add_zero] at this;rw [this];simp [hk]⟩
theorem Ei (g:Nat) (lb:Array Value) (p:Nat→Bool) (l:List Kx.aG) (v:Value) (w:World) (h:bV w v l) (hp:uF g lb l.length (fun k=>kN (Kx.inf l k)) p w) :
  Calls Tryz.prog 199 #[v,.func (.func g) #[] lb] w (uG l.length p w):=by
 obtain ⟨a,cap,rfl,_,_⟩:=RS.val h;obtain ⟨eg,hg⟩:=hp;have hl:=h.1;have H:=af h;clear h;have Hg:=af hg;clear hg;go_enter Tryz.func199,Tryz.ntmps199;go_wp2_with fail;go_loopw [8] (fun i wr=>∃ k:Nat,i=.int .i64 k∧k≤l.length∧Hid (∀ j,j<k→p j=false)∧Hid (Below w.heap.size w wr)) (fun i _=>l.length - (intOf i).toNat)
 case atStart=>exact ⟨0,rfl,Nat.zero_le _,fun j hj=>absurd hj (Nat.not_lt_zero _),Below.refl _ _⟩
 case round =>
  obtain ⟨k,rfl,hk,hn,hb⟩:=hrel
  by_cases hlt:k<l.length
  ·obtain ⟨b,off,cap1,e,_,h1,h2,h3⟩:=bV.at (RS.below H.out hb.out) hlt;simp only [Value.slice.injEq] at e;obtain ⟨rfl,_,rfl⟩:=e;have kQ:(k:Int)<(l.length:Int):=by omega
   have hcall:=af (Hg.out k wr hlt hb.out);unfold kN at hcall;generalize Kx.inf l k=x at h1 h2 h3 hcall
   cases hq:p k with
   | true =>
    rw [hq] at hcall;have Hq:=af hq;clear hq;go_wp2_with (go_at_fn g;refine hcall.out.mono ?_;rintro e w' ⟨rfl,hb'⟩;have kR:=af hb';clear hb');go_ret;exact ⟨_,rfl,.inl ⟨k,hlt,Hq.out,hn.out,rfl⟩,hb.out.trans (kR.out.mono hb.out.size)⟩
   | false =>
    rw [hq] at hcall;have Hq:=af hq;clear hq;go_wp2_with (go_at_fn g;refine hcall.out.mono ?_;rintro e w' ⟨rfl,hb'⟩;have kR:=af hb';clear hb');go_roundw
    case rel =>
     refine ⟨k+1,by go_num,by omega,?_,hb.out.trans (kR.out.mono hb.out.size)⟩;show ∀ j,j<k+1→p j=false;intro j hj
     by_cases e:j=k
     ·subst e;exact Hq.out
     exact hn.out j (by omega)
    case measure=>simp [intOf];omega
  have:k=l.length:=by omega
  subst this;go_wp2_with fail;go_ret;exact ⟨_,rfl,.inr ⟨hn.out,rfl⟩,hb.out⟩
theorem yQ (g:Nat) (lb:Array Value) (p:Nat→Bool) (l:List Kx.aG) (v:Value) (w:World) (h:bV w v l) (hp:uF g lb l.length (fun k=>kN (Kx.inf l k)) p w) :
  Calls Tryz.prog 148 #[v,.func (.func g) #[] lb] w fun e w'=>e=.returned (.bool ((List.range l.length).any p))∧Below w.heap.size w w':=by
 have Hc:=af (Ei g lb p l v w h hp);clear h hp;go_enter Tryz.func148,Tryz.ntmps148;go_wp2_with (go_at_call 199;refine Hc.out.mono ?_;rintro e w' ⟨r,rfl,hf,hb'⟩;have kR:=af hb';have Hf:=af hf;clear hb' hf);go_ret;exact ⟨ak Hf.out.any,kR.out⟩
theorem zY (g:Nat) (lb:Array Value) (p:Nat→Bool) (l:List Kx.Cached) (v:Value) (w:World) (h:dZ w v l) (hp:uF g lb l.length (fun k=>iT (l.getD k Kx.Cached.zero)) p w) :
  Calls Tryz.prog 201 #[v,.func (.func g) #[] lb] w (uG l.length p w):=by
 obtain ⟨a,cap,rfl,_,_⟩:=RS.val h;obtain ⟨eg,hg⟩:=hp;have hl:=h.1;have H:=af h;clear h;have Hg:=af hg;clear hg;go_enter Tryz.func201,Tryz.ntmps201;go_wp2_with fail;go_loopw [8] (fun i wr=>∃ k:Nat,i=.int .i64 k∧k≤l.length∧Hid (∀ j,j<k→p j=false)∧Hid (Below w.heap.size w wr)) (fun i _=>l.length - (intOf i).toNat)
 case atStart=>exact ⟨0,rfl,Nat.zero_le _,fun j hj=>absurd hj (Nat.not_lt_zero _),Below.refl _ _⟩
 case round =>
  obtain ⟨k,rfl,hk,hn,hb⟩:=hrel
  by_cases hlt:k<l.length
  ·obtain ⟨b,off,cap1,e,_,h1,h2,h3,h4⟩:=dZ.at (RS.below H.out hb.out) hlt;simp only [Value.slice.injEq] at e;obtain ⟨rfl,_,rfl⟩:=e;have kQ:(k:Int)<(l.length:Int):=by omega
   have hcall:=af (Hg.out k wr hlt hb.out);unfold iT at hcall;generalize l.getD k Kx.Cached.zero=x at h1 h2 h3 h4 hcall
   cases hq:p k with
   | true =>
    rw [hq] at hcall;have Hq:=af hq;clear hq;go_wp2_with (go_at_fn g;refine hcall.out.mono ?_;rintro e w' ⟨rfl,hb'⟩;have kR:=af hb';clear hb');go_ret;exact ⟨_,rfl,.inl ⟨k,hlt,Hq.out,hn.out,rfl⟩,hb.out.trans (kR.out.mono hb.out.size)⟩
   | false =>
    rw [hq] at hcall;have Hq:=af hq;clear hq;go_wp2_with (go_at_fn g;refine hcall.out.mono ?_;rintro e w' ⟨rfl,hb'⟩;have kR:=af hb';clear hb');go_roundw
    case rel =>
     refine ⟨k+1,by go_num,by omega,?_,hb.out.trans (kR.out.mono hb.out.size)⟩;show ∀ j,j<k+1→p j=false;intro j hj
     by_cases e:j=k
     ·subst e;exact Hq.out
     exact hn.out j (by omega)
    case measure=>simp [intOf];omega
  have:k=l.length:=by omega
  subst this;go_wp2_with fail;go_ret;exact ⟨_,rfl,.inr ⟨hn.out,rfl⟩,hb.out⟩
theorem FZ (g:Nat) (lb:Array Value) (p:Nat→Bool) (l:List Kx.Str) (v:Value) (w:World) (h:dK w v l) (hp:uF g lb l.length (fun k=>.string (l.getD k ByteArray.empty)) p w) :
  Calls Tryz.prog 256 #[v,.func (.func g) #[] lb] w (uG l.length p w):=by
 obtain ⟨a,cap,rfl,_,_⟩:=RS.val h;obtain ⟨eg,hg⟩:=hp;have hl:=h.1;have H:=af h;clear h;have Hg:=af hg;clear hg;go_enter Tryz.func256,Tryz.ntmps256;go_wp2_with fail;go_loopw [8] (fun i wr=>∃ k:Nat,i=.int .i64 k∧k≤l.length∧Hid (∀ j,j<k→p j=false)∧Hid (Below w.heap.size w wr)) (fun i _=>l.length - (intOf i).toNat)
 case atStart=>exact ⟨0,rfl,Nat.zero_le _,fun j hj=>absurd hj (Nat.not_lt_zero _),Below.refl _ _⟩
 case round =>
  obtain ⟨k,rfl,hk,hn,hb⟩:=hrel
  by_cases hlt:k<l.length
  ·obtain ⟨b,off,cap1,e,_,h1⟩:=dK.at2 (RS.below H.out hb.out) hlt;simp only [Value.slice.injEq] at e;obtain ⟨rfl,_,rfl⟩:=e;have kQ:(k:Int)<(l.length:Int):=by omega
   have hcall:=af (Hg.out k wr hlt hb.out);generalize l.getD k ByteArray.empty=x at h1 hcall
   cases hq:p k with
   | true =>
    rw [hq] at hcall;have Hq:=af hq;clear hq;go_wp2_with (go_at_fn g;refine hcall.out.mono ?_;rintro e w' ⟨rfl,hb'⟩;have kR:=af hb';clear hb');go_ret;exact ⟨_,rfl,.inl ⟨k,hlt,Hq.out,hn.out,rfl⟩,hb.out.trans (kR.out.mono hb.out.size)⟩
   | false =>
    rw [hq] at hcall;have Hq:=af hq;clear hq;go_wp2_with (go_at_fn g;refine hcall.out.mono ?_;rintro e w' ⟨rfl,hb'⟩;have kR:=af hb';clear hb');go_roundw
    case rel =>
     refine ⟨k+1,by go_num,by omega,?_,hb.out.trans (kR.out.mono hb.out.size)⟩;show ∀ j,j<k+1→p j=false;intro j hj
     by_cases e:j=k
     ·subst e;exact Hq.out
     exact hn.out j (by omega)
    case measure=>simp [intOf];omega
  have:k=l.length:=by omega
  subst this;go_wp2_with fail;go_ret;exact ⟨_,rfl,.inr ⟨hn.out,rfl⟩,hb.out⟩
theorem zU (g:Nat) (lb:Array Value) (p:Nat→Bool) (l:List Kx.Str) (v:Value) (w:World) (h:dK w v l) (hp:uF g lb l.length (fun k=>.string (l.getD k ByteArray.empty)) p w) :
  Calls Tryz.prog 205 #[v,.func (.func g) #[] lb] w fun e w'=>e=.returned (.bool ((List.range l.length).any p))∧Below w.heap.size w w':=by
 have Hc:=af (FZ g lb p l v w h hp);clear h hp;go_enter Tryz.func205,Tryz.ntmps205;go_wp2_with (go_at_call 256;refine Hc.out.mono ?_;rintro e w' ⟨r,rfl,hf,hb'⟩;have kR:=af hb';have Hf:=af hf;clear hb' hf);go_ret;exact ⟨ak Hf.out.any,kR.out⟩
theorem F5 (g:Nat) (lb:Array Value) (p:Nat→Bool) (l:List Value) (v:Value) (w:World) (h:RS yL 1 w v l) (hp:uF g lb l.length (fun k=>l.getD k undef) p w) :
  Calls Tryz.prog 194 #[v,.func (.func g) #[] lb] w (uG l.length p w):=by
 obtain ⟨a,cap,rfl,_,_⟩:=RS.val h;obtain ⟨eg,hg⟩:=hp;have hl:=h.1;have H:=af h;clear h;have Hg:=af hg;clear hg;go_enter Tryz.func194,Tryz.ntmps194;go_wp2_with fail;go_loopw [8] (fun i wr=>∃ k:Nat,i=.int .i64 k∧k≤l.length∧Hid (∀ j,j<k→p j=false)∧Hid (Below w.heap.size w wr)) (fun i _=>l.length - (intOf i).toNat)
 case atStart=>exact ⟨0,rfl,Nat.zero_le _,fun j hj=>absurd hj (Nat.not_lt_zero _),Below.refl _ _⟩
 case round =>
  obtain ⟨k,rfl,hk,hn,hb⟩:=hrel
  by_cases hlt:k<l.length
  ·obtain ⟨b,off,cap1,e,_,h1⟩:=XJ.at2 (RS.below H.out hb.out) hlt;simp only [Value.slice.injEq] at e;obtain ⟨rfl,_,rfl⟩:=e;have kQ:(k:Int)<(l.length:Int):=by omega
   have hcall:=af (Hg.out k wr hlt hb.out);generalize l.getD k undef=x at h1 hcall
   cases hq:p k with
   | true =>
    rw [hq] at hcall;have Hq:=af hq;clear hq;go_wp2_with (go_at_fn g;refine hcall.out.mono ?_;rintro e w' ⟨rfl,hb'⟩;have kR:=af hb';clear hb');go_ret;exact ⟨_,rfl,.inl ⟨k,hlt,Hq.out,hn.out,rfl⟩,hb.out.trans (kR.out.mono hb.out.size)⟩
   | false =>
    rw [hq] at hcall;have Hq:=af hq;clear hq;go_wp2_with (go_at_fn g;refine hcall.out.mono ?_;rintro e w' ⟨rfl,hb'⟩;have kR:=af hb';clear hb');go_roundw
    case rel =>
     refine ⟨k+1,by go_num,by omega,?_,hb.out.trans (kR.out.mono hb.out.size)⟩;show ∀ j,j<k+1→p j=false;intro j hj
     by_cases e:j=k
     ·subst e;exact Hq.out
     exact hn.out j (by omega)
    case measure=>simp [intOf];omega
  have:k=l.length:=by omega
  subst this;go_wp2_with fail;go_ret;exact ⟨_,rfl,.inr ⟨hn.out,rfl⟩,hb.out⟩
theorem zZ (g:Nat) (lb:Array Value) (p:Nat→Bool) (l:List Value) (v:Value) (w:World) (h:RS yL 1 w v l) (hp:uF g lb l.length (fun k=>l.getD k undef) p w) :
  Calls Tryz.prog 136 #[v,.func (.func g) #[] lb] w fun e w'=>e=.returned (.bool ((List.range l.length).any p))∧Below w.heap.size w w':=by
 have Hc:=af (F5 g lb p l v w h hp);clear h hp;go_enter Tryz.func136,Tryz.ntmps136;go_wp2_with (go_at_call 194;refine Hc.out.mono ?_;rintro e w' ⟨r,rfl,hf,hb'⟩;have kR:=af hb';have Hf:=af hf;clear hb' hf);go_ret;exact ⟨ak Hf.out.any,kR.out⟩
class IV {α:Type} (f:α→List Value) (sz:outParam Nat):Prop where
 len:∀ x,(f x).length=sz
 pos:0<sz
 one:∀ x,∀ u ∈ f x,u.oneCell'=true
instance:IV iR 1:=⟨fun _=>rfl,by decide,fun x u hu=>by simp [iR] at hu;subst hu;rfl⟩
instance:IV df 1:=⟨fun _=>rfl,by decide,fun x u hu=>by simp [df] at hu;subst hu;rfl⟩
instance:IV bH 3:=⟨fun _=>rfl,by decide,fun x u hu=>by simp [bH] at hu;rcases hu with rfl | rfl | rfl <;> rfl⟩
instance:IV b_ 4:=⟨fun _=>rfl,by decide,fun x u hu=>by simp [b_] at hu;rcases hu with rfl | rfl | rfl | rfl <;> rfl⟩
instance:IV jr 3:=⟨fun _=>rfl,by decide,fun x u hu=>by simp [jr] at hu;rcases hu with rfl | rfl | rfl <;> rfl⟩
instance:IV Lc 6:=⟨fun _=>rfl,by decide,fun x u hu=>by simp [Lc] at hu;rcases hu with rfl | rfl | rfl | rfl | rfl | rfl <;> rfl⟩
def flat {α:Type} (f:α→List Value) (l:List α):List Value:=l.flatMap f
theorem flat_length {α:Type} {f:α→List Value} {sz:Nat} (hf:∀ x,(f x).length=sz):∀ l:List α,(flat f l).length=l.length*sz
 | []=>by simp [flat]
 | x :: l=>by
  have:=flat_length hf l
  unfold flat at this ⊢;rw [List.flatMap_cons,List.length_append,hf,this,List.length_cons,Nat.succ_mul];omega
theorem qM {α:Type} (f:α→List Value) (l l':List α):flat f (l ++ l')=flat f l ++ flat f l':=by simp [flat]
theorem flat_get {α:Type} {f:α→List Value} {sz:Nat} (hf:∀ x,(f x).length=sz):∀ (l:List α) (k j:Nat) (h:k<l.length),j<sz→(flat f l)[k*sz+j]?=(f l[k])[j]?
 | [],_,_,h,_=>by simp at h
 | x :: l,0,j,_,hj=>by
  unfold flat;rw [List.flatMap_cons,List.getElem?_append_left (by rw [hf];omega)];simp
 | x :: l,k+1,j,h,hj=>by
  have:=flat_get hf l k j (by simpa using h) hj
  unfold flat at this ⊢;rw [List.flatMap_cons,List.getElem?_append_right (by rw [hf,Nat.succ_mul];omega),hf];have e:(k+1)*sz+j - sz=k*sz+j:=by rw [Nat.succ_mul];omega
  rw [e,this];simp
theorem Ej {α:Type} {f:α→List Value} {sz:Nat} (hf:∀ x,(f x).length=sz) (hs:0<sz) (l:List α) (i:Nat) (u:Value) (h:(flat f l)[i]?=some u):∃ k,∃ (hk:k<l.length),∃ j,j<sz∧i=k*sz+j∧(f l[k])[j]?=some u:=by
 have hi:i<l.length*sz:=by rw [←flat_length hf l];exact (List.getElem?_eq_some_iff.1 h).1
 have hk:i / sz<l.length:=by
  rw [Nat.mul_comm] at hi;exact Nat.div_lt_of_lt_mul hi
 have e:i=i / sz*sz+i % sz:=by rw [Nat.mul_comm];exact (Nat.div_add_mod i sz).symm
 refine ⟨i / sz,hk,i % sz,Nat.mod_lt _ hs,e,?_⟩;rw [←flat_get hf l _ _ hk (Nat.mod_lt _ hs),←e];exact h
def OS {α:Type} (f:α→List Value) (sz:Nat) (e:TypeId) (w:World) (base:Nat) (v:Value) (l:List α):Prop:=w.ownsRow base e sz v l.length (flat f l)∧l.length≤1099511627776
section
variable {α:Type} {f:α→List Value} {sz:Nat} {e:TypeId} {w w':World} {base:Nat} {v:Value} {l:List α}
theorem OS.rs [E:IV f sz] (h:OS f sz e w base v l):RS f sz w v l:=by
 refine ⟨h.2,?_⟩;rcases h.1.2 with ⟨rfl,hn⟩ | ⟨g,cap,cur,rfl,hb,hg,hnc,hcm,hcs,htake⟩
 ·exact .inl ⟨List.eq_nil_of_length_eq_zero hn,none,0,by rw [hn] at *,by simp,fun _=>rfl⟩
 refine .inr ⟨g,0,cap,rfl,hnc,hcm,(Array.getElem?_eq_some_iff.1 hg).1,fun k hk j u hu=>?_⟩
 have hj:j<sz:=by rw [←E.len l[k]];exact (List.getElem?_eq_some_iff.1 hu).1
 have:=h.1.cells (g:=g) rfl (k*sz+j) u (by rw [flat_get E.len l k j hk hj];exact hu)
 rw [Addr.add_lit] at this;rw [Nat.zero_add] at this ⊢;exact this
theorem OS.below (h:OS f sz e w base v l) (hb:Below w.heap.size w w'):OS f sz e w' base v l:=by
 refine ⟨⟨h.1.1,?_⟩,h.2⟩;rcases h.1.2 with hn | ⟨g,cap,cur,rfl,hbg,hg,r⟩
 ·exact .inl hn
 exact .inr ⟨g,cap,cur,rfl,hbg,by rw [hb.block g (Array.getElem?_eq_some_iff.1 hg).1];exact hg,r⟩
theorem OS.kept {row:Option Nat} (h:OS f sz e w base v l) (hg:w.grownBy w' row) (hne:v.ownBlock=none∨v.ownBlock≠row):OS f sz e w' base v l:=⟨h.1.kept hg hne,h.2⟩
theorem OS.lt (h:OS f sz e w base v l):∀ k,v.ownBlock=some k→base≤k∧k<w.heap.size:=h.1.lt
theorem OS.alloc (h:OS f sz e w base v l) (o:Obj):OS f sz e (w.alloc o) base v l:=⟨h.1.alloc o,h.2⟩
theorem OS.drewN (h:OS f sz e w base v l) (n:Nat):OS f sz e (w.drewN n) base v l:=⟨h.1,h.2⟩
theorem OS.mono {base':Nat} (h:OS f sz e w base v l) (hb:base'≤base):OS f sz e w base' v l:=by
 refine ⟨⟨h.1.1,?_⟩,h.2⟩;rcases h.1.2 with ⟨rfl,hn⟩ | ⟨g,cap,cur,rfl,hbg,r⟩
 ·exact .inl ⟨rfl,hn⟩
 exact .inr ⟨g,cap,cur,rfl,Nat.le_trans hb hbg,r⟩
theorem OS.nil (w:World) (base:Nat):OS f sz e w base (.slice none 0 0) []:=⟨World.ownsRow_nil _ _ _ _,by simp⟩
theorem OS.d_ (hb:base≤w.heap.size):OS f sz e (w.alloc (.cells #[] e)) base (.slice (some ⟨w.heap.size,0,none⟩) 0 0) []:=
 ⟨⟨by simp [flat],.inr ⟨w.heap.size,0,#[],rfl,hb,heap_alloc_new w _,Nat.le_refl _,by simp,by simp,by simp [flat]⟩⟩,by simp⟩
theorem OS.lit (hb:base≤w.heap.size) (cs:Array Value) (hcs:cs.toList=flat f l) (hsz:cs.size=l.length*sz) (hl:l.length≤1048576) :
  OS f sz e (w.alloc (.cells cs e)) base (.slice (some ⟨w.heap.size,0,none⟩) l.length l.length) l:=
 ⟨⟨by rw [←hcs];simpa using hsz,.inr ⟨w.heap.size,l.length,cs,rfl,hb,heap_alloc_new w _,Nat.le_refl _,by unfold maxLen;omega,hsz,by rw [hcs,List.take_of_length_le];rw [←hcs];simpa using Nat.le_of_eq hsz⟩⟩,by omega⟩
theorem OS.kind (h:OS f sz e w base v l) {g:Nat} (hg:v.ownBlock=some g):∃ cs,w.heap[g]?=some (.cells cs e (0,0)):=by
 rcases h.1.2 with ⟨rfl,hn⟩ | ⟨g',cap,cur,rfl,_,hh,_⟩
 ·simp [Value.ownBlock] at hg
 simp [Value.ownBlock] at hg
 subst hg;exact ⟨cur,hh⟩
theorem OS.apart {β:Type} {f':β→List Value} {sz':Nat} {e':TypeId} {base':Nat} {v':Value} {l':List β} (h:OS f sz e w base v l) (h':OS f' sz' e' w base' v' l') (hne:e≠e'):v.ownBlock=none∨v.ownBlock≠v'.ownBlock:=by
 cases hv:v.ownBlock with
 | none=>exact .inl rfl
 | some g =>
  refine .inr fun he=>?_
  obtain ⟨cs,h1⟩:=h.kind hv;obtain ⟨cs',h2⟩:=h'.kind he.symm;rw [h1] at h2;simp only [Option.some.injEq,Obj.cells.injEq] at h2;exact hne h2.2.1
end
def TI (t e:TypeId) (z:Value) (sz:Nat):Prop:=∃ (i:TypeInfo) (b:Nat),Tryz.prog.underlying t=some (.slice e)∧Tryz.prog.info? e=some i∧i.zero=some z∧i.size=sz∧i.bytes=b∧b≤64∧z.cells.size=sz
theorem TI.mk {t e:TypeId} {z:Value} {sz b:Nat} (h:Tryz.prog.underlying t=some (.slice e)) (hi:(Tryz.prog.info? e).map (fun i=>(i.zero,i.size,i.bytes))=some (some z,sz,b)) (hb:b≤64) (hz:z.cells.size=sz):TI t e z sz:=by
 obtain ⟨i0,hi,hz0,hz1,hz2⟩:=info_parts hi;exact ⟨i0,b,h,hi,hz0,hz1,hz2,hb,hz⟩
theorem wK:TI 47 3 (.int .i64 0) 1:=TI.mk Tryz.underlying47 (b:=8) (by kernel_rfl) (by decide) rfl
section
variable {α:Type} {f:α→List Value} {sz:Nat} [E:IV f sz] {t e:TypeId} {z:Value}
theorem RS.NI {w:World} {a:Addr} {n cap:Nat} {l:List α} (h:RS f sz w (.slice (some a) n cap) l):∀ i u,(flat f l)[i]?=some u→w.cell? (a.add i)=some u:=by
 intro i u hu;obtain ⟨k,hk,j,hj,rfl,hu2⟩:=Ej E.len E.pos l i u hu;obtain ⟨b,off,cap',ev,_,hc⟩:=h.at hk;simp only [Value.slice.injEq,Option.some.injEq] at ev;obtain ⟨rfl,_,_⟩:=ev;rw [Addr.add_lit,←Nat.add_assoc];exact hc j u hu2
theorem Ld (hT:TI t e z sz) (ty:TypeId) (w:World) (base:Nat) (v:Value) (xs:List α) (hown:OS f sz e w base v xs) (u:Value) (ys:List α) (hr:RS f sz w u ys)
  (hlen:xs.length+ys.length≤1099511627776) (hbase:base≤w.heap.size) :
  ∃ v' w',(Builtin.append_ #[t,t] ty #[v,u]).run Tryz.prog w=.ok v' w'∧OS f sz e w' base v' (xs ++ ys)∧w.grownBy w' v.ownBlock∧(v'.ownBlock=v.ownBlock∨v'.ownBlock=some w.heap.size):=by
 obtain ⟨i0,b,h22,hi,hz0,hz1,hz2,hb,hzc⟩:=hT;obtain ⟨ad,cap,rfl,_,_⟩:=hr.val
 cases ad with
 | some ad =>
  obtain ⟨v',w',hrun,h2,h3,_,h5⟩:=run_append_own_at (P:=Tryz.prog) (w:=w) base t ty e i0 z sz b h22 hi hz0 hz1 hz2 hzc E.pos v xs.length (flat f xs) hown.1 ad ys.length cap (flat f ys) (flat_length E.len ys) hr.NI
   (fun u hu=>by
    obtain ⟨x,_,hx⟩:=List.mem_flatMap.1 hu;exact E.one x u hx) (by unfold maxLen;omega) (Nat.le_trans (Nat.mul_le_mul hlen hb) (by decide)) hbase
  exact ⟨v',w',hrun,⟨by rw [List.length_append,qM];exact h2,by simpa using hlen⟩,h3,h5⟩
 | none =>
  have hy:ys=[]∧cap=0:=by
   rcases hr.2 with ⟨rfl,a,c,ev,_,hn⟩ | ⟨b,off,c,ev,_⟩
   ·simp only [Value.slice.injEq] at ev;exact ⟨rfl,by rw [ev.2.2];exact hn ev.1.symm⟩
   simp at ev
  obtain ⟨rfl,rfl⟩:=hy;have hrun:=run_append_owned_none (P:=Tryz.prog) w base t ty e i0 sz h22 hi v xs.length (flat f xs) hown.1;exact ⟨v,w,hrun,by simpa using hown,World.grownBy.refl _ _,.inl rfl⟩
theorem xP (hT:TI t e z sz) {o:Oper} {a:Act} {K:Act→World→Prop} {Q:Exit→Act→World→Prop} {w:World} (s x:Operand)
  (ho:o.op=.call { callee:=.builtin .append,args:=#[s,x],argTypes:=#[t,t] })
  (base:Nat) (v:Value) (xs:List α) (hs:a.eval s=v) (hown:OS f sz e w base v xs) (u:Value) (ys:List α) (hx:a.eval x=u) (hr:RS f sz w u ys)
  (hlen:xs.length+ys.length≤1099511627776) (hbase:base≤w.heap.size)
  (h:∀ v' w',OS f sz e w' base v' (xs ++ ys)→w.grownBy w' v.ownBlock→(v'.ownBlock=v.ownBlock∨v'.ownBlock=some w.heap.size)→K (a.put o.dst v') w'):o.wp Tryz.prog a w K Q:=by
 obtain ⟨v',w',hrun,h2,h3,h5⟩:=Ld hT o.type w base v xs hown u ys hr hlen hbase;unfold Oper.wp execOp;simp only [ho,resolve,invoke,builtin,Sem.run_bind,Sem.run_pure,Result.andThen_ok,List.map_toArray,List.map_cons,List.map_nil,hs,hx,hrun];exact h v' w' h2 h3 h5
theorem aV (hT:TI t e z sz) {ops:Array Oper} {rest:List Oper} {o:Oper} {a:Act} {Q:Exit→Act→World→Prop} {w:World} (hgd:o.guard=none) (s x:Operand)
  (ho:o.op=.call { callee:=.builtin .append,args:=#[s,x],argTypes:=#[t,t] })
  (base:Nat) (v:Value) (xs:List α) (hs:a.eval s=v) (hown:OS f sz e w base v xs) (u:Value) (ys:List α) (hx:a.eval x=u) (hr:RS f sz w u ys)
  (hlen:xs.length+ys.length≤1099511627776) (hbase:base≤w.heap.size)
  (h:∀ v' w',OS f sz e w' base v' (xs ++ ys)→w.grownBy w' v.ownBlock→(v'.ownBlock=v.ownBlock∨v'.ownBlock=some w.heap.size)→wpList Tryz.prog ops Q rest (a.put o.dst v') w'):wpList Tryz.prog ops Q (o :: rest) a w:=
 wpList_plain hgd fun _ hK=>xP hT s x ho base v xs hs hown u ys hx hr hlen hbase fun v' w' h2 h3 h4=>hK _ _ (h v' w' h2 h3 h4)
theorem aU (hT:TI t e z sz) {ops:Array Oper} {o:Oper} {a:Act} {K:Act→World→Prop} {Q:Exit→Act→World→Prop} {X:Prop} {w:World} (hgd:o.guard=none) (s x:Operand)
  (ho:o.op=.call { callee:=.builtin .append,args:=#[s,x],argTypes:=#[t,t] })
  (base:Nat) (v:Value) (xs:List α) (hs:a.eval s=v) (hown:OS f sz e w base v xs) (u:Value) (ys:List α) (hx:a.eval x=u) (hr:RS f sz w u ys)
  (hlen:xs.length+ys.length≤1099511627776) (hbase:base≤w.heap.size)
  (h:∀ v' w',OS f sz e w' base v' (xs ++ ys)→w.grownBy w' v.ownBlock→(v'.ownBlock=v.ownBlock∨v'.ownBlock=some w.heap.size)→K (a.put o.dst v') w') :
  if Region.wanted o (yielded ops a.tmps)=true then Oper.wp Tryz.prog o a w K Q else X:=by
 have hw:Region.wanted o (yielded ops a.tmps)=true:=by simp [Region.wanted,hgd]
 rw [if_pos hw];exact xP hT s x ho base v xs hs hown u ys hx hr hlen hbase h
end
theorem Below.dN {α:Type} {f:α→List Value} {sz:Nat} {e:TypeId} {B:Nat} {a w w':World} {v:Value} {xs:List α} {base:Nat} (h:Below B a w) (ho:OS f sz e w base v xs) (hg:w.grownBy w' v.ownBlock) (hB:B≤base) (hs:B≤w.heap.size):Below B a w':=
 h.grown hg hs (fun k hk=>Nat.le_trans hB (ho.lt k hk).1)
theorem RS.one {α:Type} {f:α→List Value} {sz:Nat} (x:α) (cs:Array Value) (hcs:cs.toList=f x) (w:World) (e:TypeId):RS f sz (w.alloc (.cells cs e)) (.slice (some ⟨w.heap.size,0,none⟩) 1 1) [x]:=by
 refine ⟨by simp,.inr ⟨w.heap.size,0,1,rfl,Nat.le_refl _,by unfold maxLen;omega,by simp,fun k hk j u hu=>?_⟩⟩
 have hk0:k=0:=by simp at hk;exact hk
 subst hk0;simp only [Nat.zero_mul,Nat.add_zero,Nat.zero_add,List.getElem_cons_zero] at hu ⊢;rw [World.cell?,show (w.alloc (.cells cs e)).heap[w.heap.size]?=some (.cells cs e (0,0)) from heap_alloc_new w _];rw [←hcs] at hu;simpa using hu
theorem zk:∀ xs:List Int,flat iR xs=ints xs
 | []=>rfl
 | x :: xs=>by
  have:=zk xs
  unfold flat at this ⊢;rw [List.flatMap_cons,this];rfl
theorem OI.os {w:World} {base:Nat} {v:Value} {xs:List Int} (h:OI w base v xs):OS iR 1 3 w base v xs:=⟨by rw [zk];exact h.1,h.2⟩
theorem OS.oi {w:World} {base:Nat} {v:Value} {xs:List Int} (h:OS iR 1 3 w base v xs):OI w base v xs:=⟨by rw [←zk];exact h.1,h.2⟩
theorem lh (xs:List Int):dC xs=Kx.dQ xs:=by
 unfold dC Kx.dQ Kx.CG;rw [Bool.eq_iff_iff];simp [bK,Kx.bK]
def fU (l:List Nat):List Int:=l.map fun (n:Nat)=>(n:Int)
theorem aQ (l:List Nat):(fU l).length=l.length:=by simp [fU]
theorem NJ:fU []=[]:=rfl
theorem jv (l l':List Nat):fU (l ++ l')=fU l ++ fU l':=by simp [fU]
theorem nI (l:List Nat) (k:Nat) (h:k<(fU l).length) (h':k<l.length):(fU l)[k]=(l[k]:Int):=by simp [fU]
theorem mem_row {m:List (List Int)} (h:Kx.bW m=true) {f:Nat} (hf:f<12):m.length=12∧(Kx.row m f).length=4∧∀ x ∈ Kx.row m f,0≤x∧x≤9999:=
 ⟨(Kx.jC.1 h).1,((Kx.jC.1 h).2 f hf).1,((Kx.jC.1 h).2 f hf).2⟩
def F6 (xs:List Int) (x:Int):Bool:=xs.contains x
theorem yx (l:List Nat) (g:Nat):F6 (fU l) (g:Int)=l.contains g:=by
 unfold F6 fU;rw [Bool.eq_iff_iff,List.contains_iff_mem,List.contains_iff_mem,List.mem_map];constructor
 ·rintro ⟨x,hx,e⟩;have:x=g:=by omega
  rwa [this] at hx
 exact fun h=>⟨g,h,rfl⟩
theorem RM.word {w:World} {v:Value} {m:List (List Int)} (h:RM w v m) (hm:Kx.bW m=true) {f a:Nat} (hf:f<12) (ha:a<4) :
  ∃ b off cap b' off' cap',v=.slice (some ⟨b,off,none⟩) 12 cap∧w.cell? ⟨b,off+f,none⟩=some (.slice (some ⟨b',off',none⟩) 4 cap')∧w.cell? ⟨b',off'+a,none⟩=some (.int .i64 (Kx.word m f a)) ∧
   0≤Kx.word m f a∧Kx.word m f a≤9999:=by
 obtain ⟨h12,h4,hw⟩:=mem_row hm hf;obtain ⟨b,off,cap,u,rfl,_,hc,hr⟩:=h.at (k:=f) (by omega);obtain ⟨b',off',cap',rfl,_,hc'⟩:=hr.at (k:=a) (by omega);rw [h4] at hc;rw [h12];have e:Kx.word m f a=(Kx.row m f)[a]'(by omega):=by simp [Kx.word,show a<(Kx.row m f).length by omega]
 rw [e];exact ⟨b,off,cap,b',off',cap',rfl,hc,hc',hw _ (List.getElem_mem _)⟩
theorem RM.row {w:World} {v:Value} {m:List (List Int)} (h:RM w v m) (hm:Kx.bW m=true) {f:Nat} (hf:f<12) :
  ∃ b off cap u,v=.slice (some ⟨b,off,none⟩) 12 cap∧w.cell? ⟨b,off+f,none⟩=some u∧RI w u (Kx.row m f):=by
 obtain ⟨h12,_⟩:=mem_row hm hf;obtain ⟨b,off,cap,u,rfl,_,hc,hr⟩:=h.at (k:=f) (by omega);rw [h12];exact ⟨b,off,cap,u,rfl,hc,hr⟩
theorem nz (m:List (List Int)) (v:Value) (w:World) (h:RM w v m) :
  Calls Tryz.prog 73 #[v] w fun e w'=>e=.returned (.bool (Kx.bW m))∧w=w':=by
 obtain ⟨hl,a,cap,rfl,_,_⟩:=h.len;have H:=af h;clear h;go_enter Tryz.func73,Tryz.ntmps73;go_wp2_with fail;go_loop [3] (fun i=>∃ k:Nat,i=.int .i64 k∧k≤m.length∧Hid (∀ j,j<k→Kx.dQ (Kx.row m j)=true)) (fun i=>m.length - (intOf i).toNat)
 case atStart=>exact ⟨0,rfl,Nat.zero_le _,fun j hj=>absurd hj (Nat.not_lt_zero _)⟩
 case round =>
  obtain ⟨k,rfl,hk,hall⟩:=hrel
  by_cases hlt:k<m.length
  ·obtain ⟨b,off,cap',u,e,_,hc,hr⟩:=H.out.at hlt;simp only [Value.slice.injEq] at e;obtain ⟨rfl,_,rfl⟩:=e;have Hr:=af hr;clear hr
   cases hq:Kx.dQ (Kx.row m k) with
   | false =>
    have hF:Kx.bW m=false:=by
     cases hm:Kx.bW m
     ·rfl
     unfold Kx.bW at hm;simp only [Bool.and_eq_true,List.all_eq_true] at hm;rw [hm.1 _ (Kx.row_mem hlt)] at hq;cases hq
    have HF:=af hF;have Hq:=af ((lh (Kx.row m k)).trans hq);clear hF hq;go_wp2_with (go_at_call 126;refine (oJ _ _ _ Hr.out).mono ?_;rintro e w' ⟨rfl,rfl⟩;rw [Hq.out]);go_ret;exact ⟨ak HF.out.symm,rfl⟩
   | true =>
    have Hk:=af hq;have Hq:=af ((lh (Kx.row m k)).trans hq);clear hq;go_wp2_with (go_at_call 126;refine (oJ _ _ _ Hr.out).mono ?_;rintro e w' ⟨rfl,rfl⟩;rw [Hq.out]);go_round
    case rel =>
     refine ⟨k+1,by go_num,by omega,?_⟩;show ∀ j,j<k+1→_;intro j hj
     by_cases e:j=k
     ·subst e;exact Hk.out
     exact hall.out j (by omega)
    case measure=>simp [intOf];omega
  have hT:m.all Kx.dQ=true:=by
   rw [List.all_eq_true];intro x hx;obtain ⟨f,hf,rfl⟩:=Kx.mem_row hx;exact hall.out f (by omega)
  have HT:=af hT;clear hT;go_wp2_with fail;go_ret;refine ⟨ak ?_,rfl⟩;unfold Kx.bW;rw [HT.out,Bool.true_and];exact Bool.eq_iff_iff.2 (by simp;omega)
theorem P8 (m:List (List Int)) (f:Int) (v:Value) (w:World) (h:RM w v m) :
  Calls Tryz.prog 307 #[v,.int .i64 f] w fun e w'=>e=.returned (.bool (Kx.bW m&&Kx.bK f 0 11))∧w=w':=by
 have Hv:=af (nz m v w h);clear h
 cases hm:Kx.bW m
 ·rw [hm] at Hv;clear hm;go_enter Tryz.func307,Tryz.ntmps307;go_wp2_with (go_at_call 73;refine Hv.out.mono ?_;rintro e w' ⟨rfl,rfl⟩);go_ret;exact ⟨by simp,rfl⟩
 rw [hm] at Hv;clear hm;go_enter Tryz.func307,Tryz.ntmps307;go_wp2_with (first | (go_at_call 73;refine Hv.out.mono ?_;rintro e w' ⟨rfl,rfl⟩) | (go_at_call 187;refine (dI _ _).mono ?_;rintro e w' ⟨rfl,rfl⟩))
 go_ret;exact ⟨by simp,rfl⟩
def kM (r:(Int×Int×Bool)×Int):Value:=.tuple #[.agg #[.int .i64 r.1.1,.int .i64 r.1.2.1,.bool r.1.2.2],.int .i64 r.2]
theorem uy (m:List (List Int)) (root ad:Nat) (v:Value) (w:World) (h:RM w v m) (hm:Kx.bW m=true) (hr:root<12) (ha:ad<64) :
  Calls Tryz.prog 72 #[v,.int .i64 root,.int .i64 ad] w fun e w'=>e=.returned (kM (Kx.walk m root ad))∧Below w.heap.size w w':=by
 obtain ⟨q,hq⟩:∃ q,ad / 16=q:=⟨_,rfl⟩;obtain ⟨r,hr'⟩:∃ r,ad / 4 % 4=r:=⟨_,rfl⟩;have hal:=(Below.refl w.heap.size w).alloc aW (.cells #[.int .i64 0,.int .i64 0,.bool false] 66);have hb3:Hid (∀ c,Below w.heap.size w (w.alloc (.cells c 66))):=fun c=>(Below.refl w.heap.size w).alloc aW _
 obtain ⟨b,off,cap,b',off',cap',rfl,h1,h2,h3,h4⟩:=(h.below hal).word hm hr (a:=q) (by omega);have hq4:(q:Int)<4:=by omega
 have hr4:(r:Int)<4:=by omega
 have Me:(root:Int)<12:=by omega
 have eq:(ad:Int) / 16=(q:Int):=by omega
 have er:(ad:Int) / 4 % 4=(r:Int):=by omega
 cases he:Kx.entry (Kx.word m root q) with
 | none =>
  have hw:Kx.walk m root ad=((0,0,false),1):=by unfold Kx.walk;rw [hq,he]
  have He:=af he;have Hw:=af hw;clear he hw er hq hr' h hal;generalize Kx.word m root q=x at h2 h3 h4 He;go_enter Tryz.func72,Tryz.ntmps72;go_wp2_with fail;refine (bM _ _).mono ?_;rintro e w' ⟨rfl,rfl⟩;rw [G7 He.out];go_wp2_with fail;refine bodyPost_ret (v:=.tuple #[.agg #[.int .i64 0,.int .i64 0,.bool false],.int .i64 1]) (by simp [results,Tryz.results72,go_sem]) rfl ⟨?_,hb3.out _⟩;rw [Hw.out];rfl
 | some p =>
  obtain ⟨t,a⟩:=p;have ht:=Kx.dU he;obtain ⟨b1,FI,cap1,b2,mP,cap2,e1,g1,g2,g3,g4⟩:=(h.below hal).word hm ht (a:=r) (by omega);simp only [Value.slice.injEq,Option.some.injEq,Addr.mk.injEq] at e1;obtain ⟨⟨rfl,rfl,_⟩,_,rfl⟩:=e1;have UK:(t:Int)<12:=by omega
  cases he2:Kx.entry (Kx.word m t r) with
  | none =>
   have hw:Kx.walk m root ad=((0,0,false),2):=by unfold Kx.walk;rw [hq,he];simp only [hr',he2]
   have He:=af he;have Hw:=af hw;have KD:=af he2;clear he hw he2 hq hr' h hal;generalize Kx.word m root q=x at h2 h3 h4 He;generalize Kx.word m t r=y at g2 g3 g4 KD;go_enter Tryz.func72,Tryz.ntmps72;go_wp2_with fail;refine (bM _ _).mono ?_;rintro e w' ⟨rfl,rfl⟩;rw [C_ He.out];go_wp2_with fail;refine (bM _ _).mono ?_;rintro e w' ⟨rfl,rfl⟩;rw [G7 KD.out];go_wp2_with fail;refine bodyPost_ret (v:=.tuple #[.agg #[.int .i64 0,.int .i64 0,.bool false],.int .i64 2]) (by simp [results,Tryz.results72,go_sem]) rfl ⟨?_,hb3.out _⟩;rw [Hw.out];rfl
  | some p =>
   obtain ⟨f,c⟩:=p;have hw:Kx.walk m root ad=(((f:Int),((ad % 4:Nat):Int),a&&c),0):=by unfold Kx.walk;rw [hq,he];simp only [hr',he2]
   have He:=af he;have Hw:=af hw;have KD:=af he2;clear he hw he2 hq hr' h hal;generalize Kx.word m root q=x at h2 h3 h4 He;generalize Kx.word m t r=y at g2 g3 g4 KD;go_enter Tryz.func72,Tryz.ntmps72;go_wp2_with fail;refine (bM _ _).mono ?_;rintro e w' ⟨rfl,rfl⟩;rw [C_ He.out];go_wp2_with fail;refine (bM _ _).mono ?_;rintro e w' ⟨rfl,rfl⟩;rw [C_ KD.out]
   cases a
   ·go_wp2_with fail;refine bodyPost_ret (v:=.tuple #[.agg #[.int .i64 f,.int .i64 ((ad:Int) % 4),.bool false],.int .i64 0]) (by simp [results,Tryz.results72,go_sem]) rfl ⟨?_,hb3.out _⟩;rw [Hw.out];simp [kM]
   go_wp2_with fail;refine bodyPost_ret (v:=.tuple #[.agg #[.int .i64 f,.int .i64 ((ad:Int) % 4),.bool c],.int .i64 0]) (by simp [results,Tryz.results72,go_sem]) rfl ⟨?_,hb3.out _⟩;rw [Hw.out];simp [kM]
theorem oC (xs:List Int) (v:Value) (w:World) (h:RI w v xs):Calls Tryz.prog 193 #[v] w (mZ w (fU (Kx.ax xs))):=by
 obtain ⟨a,cap,rfl⟩:=h.val;have hl:=h.1;have H:=af h;clear h;go_enter Tryz.func193,Tryz.ntmps193;go_wp2_with fail;go_loopw [3,4] (fun out i wr=>∃ k:Nat,i=.int .i64 k∧k≤xs.length∧Hid (OI wr w.heap.size out (fU (Kx.ax (xs.take k))))∧Hid (Below w.heap.size w wr)) (fun _ i _=>xs.length - (intOf i).toNat)
 case atStart=>exact ⟨0,rfl,Nat.zero_le _,OI.d_ aW,fZ.alloc aW _⟩
 case round =>
  obtain ⟨k,rfl,hk,ho,hb⟩:=hrel
  by_cases hlt:k<xs.length
  ·obtain ⟨b,off,cap',e,_,hc⟩:=(H.out.below hb.out).at hlt;simp only [Value.slice.injEq] at e;obtain ⟨rfl,_,rfl⟩:=e;have htk:xs.take (k+1)=xs.take k ++ [xs[k]]:=by rw [List.take_succ_eq_append_getElem hlt]
   generalize xs[k]=x at hc htk;have hnt:Kx.ax (xs.take (k+1))=Kx.ax (xs.take k) ++ Kx.ax [x]:=by rw [htk];simp [Kx.ax]
   have hlen:(Kx.ax (xs.take k)).length≤k:=Nat.le_trans (by unfold Kx.ax;exact List.length_filterMap_le _ _) (List.length_take_le _ _);have Ht:=af hnt;have Hlen:=af hlen;clear htk hnt hlen
   cases he:Kx.entry x with
   | none =>
    have hx:Kx.ax [x]=[]:=by simp [Kx.ax,he]
    have He:=af he;have Hx:=af hx;clear he hx;go_wp2_with fail;refine (bM _ _).mono ?_;rintro e w' ⟨rfl,rfl⟩;rw [G7 He.out];go_wp2_with fail;go_roundw
    case rel=>exact ⟨k+1,by go_num,by omega,by show OI _ _ _ _;rw [Ht.out,Hx.out,List.append_nil];exact ho.out,hb.out⟩
    case measure=>simp [intOf];omega
   | some p =>
    obtain ⟨f,c⟩:=p;have hx:Kx.ax [x]=[f]:=by simp [Kx.ax,he]
    have He:=af he;have Hx:=af hx;clear he hx;have hsz:=af hb.out.size;have hxl:=af (show (fU (Kx.ax (xs.take k))).length+1≤1099511627776 by rw [aQ];have:=Hlen.out;omega);go_wp2_with fail;refine (bM _ _).mono ?_;rintro e w' ⟨rfl,rfl⟩;rw [C_ He.out];go_wp2_with (at_builtin;refine kW rfl _ _ rfl w.heap.size _ (fU (Kx.ax (xs.take k))) rfl (ho.out.alloc _) _ 1 1 [(f:Int)] rfl rfl (cell_one_new _ _ _) hxl.out (by simp;exact Nat.le_succ_of_le hsz.out) ?_;intro v' w3 ho3 hg3;have jJ:=af ho3;have ql:=af hg3;clear ho3 hg3);go_roundw
    case rel =>
     refine ⟨k+1,by go_num,by omega,?_,?_⟩
     ·show OI _ _ _ _;rw [Ht.out,Hx.out,jv];exact jJ.out
     exact Below.app (hb.out.alloc hb.out.size _) (ho.out.alloc _) ql.out aW (by simp;exact Nat.le_succ_of_le hsz.out)
    case measure=>simp [intOf];omega
  have:k=xs.length:=by omega
  subst this;go_wp2_with fail;go_ret;exact ⟨_,rfl,by have:=ho.out;rw [List.take_length] at this;exact this,hb.out⟩
theorem BH (xs:List Int) (x:Int) (v:Value) (w:World) (h:RI w v xs):Calls Tryz.prog 237 #[v,.int .i64 x] w fun e w'=>e=.returned (.bool (F6 xs x))∧w=w':=by
 obtain ⟨a,cap,rfl⟩:=h.val;have hl:=h.1;have H:=af h;clear h;go_enter Tryz.func237,Tryz.ntmps237;go_wp2_with fail;go_loop [5] (fun i=>∃ k:Nat,i=.int .i64 k∧k≤xs.length∧Hid (∀ j (hj:j<xs.length),j<k→xs[j]≠x)) (fun i=>xs.length - (intOf i).toNat)
 case atStart=>exact ⟨0,rfl,Nat.zero_le _,fun j _ hj=>absurd hj (Nat.not_lt_zero _)⟩
 case round =>
  obtain ⟨k,rfl,hk,hall⟩:=hrel
  by_cases hlt:k<xs.length
  ·obtain ⟨b,off,cap',e,_,hc⟩:=H.out.at hlt;simp only [Value.slice.injEq] at e;obtain ⟨rfl,_,rfl⟩:=e
   by_cases hx:xs[k]=x
   ·have HF:=af (show F6 xs x=true by unfold F6;rw [List.contains_iff_mem,←hx];exact List.getElem_mem hlt);rw [hx] at hc;clear hx;go_wp2_with fail;go_ret;exact ⟨ak HF.out.symm,rfl⟩
   have hxb:(xs[k]==x)=false:=by simpa using hx
   have Hx:=af hx;clear hx;generalize hy:xs[k]=y at hc hxb;have Hy:=af hy;clear hy;go_wp2_with fail;go_round
   case rel =>
    refine ⟨k+1,by go_num,by omega,?_⟩;show ∀ j (hj:j<xs.length),j<k+1→_;intro j hj hjk
    by_cases e:j=k
    ·subst e;exact Hx.out
    exact hall.out j hj (by omega)
   case measure=>simp [intOf];omega
  have HF:=af (show F6 xs x=false by
   unfold F6;rw [Bool.eq_false_iff,ne_eq,List.contains_iff_mem];intro hm;obtain ⟨j,hj,e⟩:=List.getElem_of_mem hm;exact hall.out j hj (by omega) e)
  go_wp2_with fail;go_ret;exact ⟨ak HF.out.symm,rfl⟩
theorem qA (p:Nat→Bool) (k:Nat):(List.range (k+1)).filter p=(List.range k).filter p ++ if p k then [k] else []:=by
 rw [List.range_succ,List.filter_append];congr 1
 cases h:p k <;> simp [h]
theorem tu (l:List Nat) (v:Value) (w:World) (h:RI w v (fU l)):Calls Tryz.prog 190 #[v] w (mZ w (fU (Kx.fE l))):=by
 obtain ⟨a,cap,rfl⟩:=h.val;have hl:=h.1;have H:=af h;clear h;go_enter Tryz.func190,Tryz.ntmps190;go_wp2_with fail;go_loopw [3,4] (fun out i wr=>∃ k:Nat,i=.int .i64 k∧k≤12∧Hid (OS iR 1 3 wr w.heap.size out (fU ((List.range k).filter fun f=>l.contains f)))∧Hid (Below w.heap.size w wr)) (fun _ i _=>12 - (intOf i).toNat)
 case atStart=>exact ⟨0,rfl,Nat.zero_le _,OS.d_ aW,fZ.alloc aW _⟩
 case round =>
  obtain ⟨k,rfl,hk,ho,hb⟩:=hrel
  by_cases hlt:k<12
  ·have hs:=congrArg fU (qA (fun f=>l.contains f) k);rw [jv] at hs;have hlen:(fU ((List.range k).filter fun f=>l.contains f)).length≤k:=by
    rw [aQ];exact Nat.le_trans (List.length_filter_le _ _) (by simp)
   have Hlen:=af hlen;clear hlen
   cases hq:l.contains k with
   | false =>
    rw [hq] at hs;simp only [Bool.false_eq_true,if_false,NJ,List.append_nil] at hs;have Hs:=af hs;have Hq:=af ((yx l k).trans hq);clear hs hq;go_wp2_with fail;refine (BH (fU l) _ _ _ (H.out.below hb.out)).mono ?_;rintro e w' ⟨rfl,rfl⟩;rw [Hq.out];go_wp2_with fail;go_roundw
    case rel=>exact ⟨k+1,by go_num,by omega,by show OS _ _ _ _ _ _ _;rw [Hs.out];exact ho.out,hb.out⟩
    case measure=>simp [intOf];omega
   | true =>
    rw [hq] at hs;simp only [if_true] at hs;have Hs:=af hs;have Hq:=af ((yx l k).trans hq);clear hs hq;have hsz:=af hb.out.size;have hsz2:=af (show w.heap.size≤(wr.alloc (.cells #[.int .i64 (k:Int)] 3)).heap.size by simp;exact Nat.le_succ_of_le hsz.out);have hR:=af (RS.one (f:=iR) (sz:=1) (k:Int) #[.int .i64 (k:Int)] rfl wr 3);have hL:=af (show (fU ((List.range k).filter fun f=>l.contains f)).length+[(k:Int)].length≤1099511627776 by have:=Hlen.out;simp at this ⊢;omega)
    generalize (fU ((List.range k).filter fun f=>l.contains f))=ys at ho hL Hs
    go_wp2_with fail;refine (BH (fU l) _ _ _ (H.out.below hb.out)).mono ?_;rintro e w' ⟨rfl,rfl⟩;rw [Hq.out];go_wp2_with (at_builtin;refine aV wK rfl _ _ rfl w.heap.size _ ys rfl (ho.out.alloc _) _ [(k:Int)] rfl hR.out hL.out hsz2.out ?_;intro v' w3 ho3 hg3 hn3;have jJ:=af ho3;have ql:=af hg3;clear ho3 hg3 hn3);go_roundw
    case rel =>
     refine ⟨k+1,by go_num,by omega,?_,?_⟩
     ·show OS _ _ _ _ _ _ _;rw [Hs.out];exact jJ.out
     exact Below.dN (hb.out.alloc hb.out.size _) (ho.out.alloc _) ql.out aW hsz2.out
    case measure=>simp [intOf];omega
  have:k=12:=by omega
  subst this;go_wp2_with fail;go_ret;exact ⟨_,rfl,ho.out.oi,hb.out⟩
theorem sF (m:List (List Int)) (root:Nat) (v:Value) (w:World) (h:RM w v m) (hm:Kx.bW m=true) (hr:root<12) :
  Calls Tryz.prog 189 #[v,.int .i64 root] w (mZ w (fU (Kx.tables m root))):=by
 obtain ⟨b,off,cap,u,rfl,hc,m_⟩:=h.row hm hr;have Me:(root:Int)<12:=by omega
 have Hr:=af m_;clear m_ h;go_enter Tryz.func189,Tryz.ntmps189;go_wp2_with fail;refine (oC _ _ _ Hr.out).mono ?_;rintro e w1 ⟨u1,rfl,ho,hb⟩;have Ho:=af ho;have Hb:=af hb;clear ho hb;go_wp2_with fail;refine (tu _ _ _ Ho.out.ri).mono ?_;rintro e w2 ⟨u2,rfl,ho,hb⟩;have l7:=af ho;have Hb2:=af hb;clear ho hb;go_wp2_with fail;go_ret;exact ⟨_,rfl,l7.out.mono Hb.out.size,Hb.out.trans (Hb2.out.mono Hb.out.size)⟩
def Sep (a b:Value):Prop:=a.ownBlock=none∨a.ownBlock≠b.ownBlock
theorem Sep.grow {α:Type} {f:α→List Value} {sz:Nat} {e:TypeId} {w:World} {base:Nat} {a v v':Value} {l:List α} (h:OS f sz e w base a l) (hn:Sep a v) (hv:v'.ownBlock=v.ownBlock∨v'.ownBlock=some w.heap.size):Sep a v':=by
 rcases hv with hv | hv
 ·unfold Sep;rw [hv];exact hn
 cases ha:a.ownBlock with
 | none=>exact .inl ha
 | some k =>
  refine .inr fun e=>?_
  have:=(h.lt k ha).2
  rw [ha,hv] at e;simp at e;omega
theorem Sep.later {α β:Type} {f:α→List Value} {f':β→List Value} {sz sz':Nat} {e e':TypeId} {w w':World} {base base':Nat} {a v:Value} {l:List α} {l':List β} (h:OS f sz e w base a l) (h':OS f' sz' e' w' base' v l') (hb:w.heap.size≤base'):Sep v a:=by
 cases hv:v.ownBlock with
 | none=>exact .inl hv
 | some k =>
  refine .inr fun e=>?_
  rw [hv] at e;have:=(h.lt k e.symm).2;have:=(h'.lt k hv).1;omega
theorem F7 (m:List (List Int)) (root:Nat) (v:Value) (w:World) (h:RM w v m) (hm:Kx.bW m=true) (hr:root<12) :
  Calls Tryz.prog 191 #[v,.int .i64 root] w (mZ w (fU (Kx.fO m root))):=by
 have hb0:=(Below.refl w.heap.size w).alloc aW (.cells #[] 3);have Hh:=af h;have Ht:=af (sF m root v _ (h.below hb0) hm hr);have H0:=af (OS.d_ (f:=iR) (sz:=1) (e:=3) (Nat.le_refl w.heap.size));have Hb0:=af hb0;obtain ⟨h12,_⟩:=mem_row hm hr;obtain ⟨_,a,cap,rfl,_,_⟩:=h.len;obtain ⟨ts,hts⟩:∃ ts,Kx.tables m root=ts:=⟨_,rfl⟩;rw [hts] at Ht;have Hts:=af (show Kx.fO m root=Kx.fE (ts.flatMap fun t=>Kx.ax (Kx.row m t)) by rw [←hts];rfl)
 have Js:=af (show (∀ t ∈ ts,t<12)∧ts.length≤12 by
  rw [←hts];exact ⟨fun t ht=>Kx.kE (Kx.lD.1 ht),Nat.le_trans (List.length_filter_le _ _) (by simp)⟩)
 have fJ:=af h12;clear hts h hb0 h12;go_enter Tryz.func191,Tryz.ntmps191;go_wp2_with fail;refine Ht.out.mono ?_;rintro e w1 ⟨u1,rfl,ho,hb⟩;have JG:=af (show Sep u1 (.slice (some ⟨w.heap.size,0,none⟩) 0 0) from Sep.later H0.out ho.os aW);have Zk:=af (H0.out.below hb);have Hb1:=af (Hb0.out.trans (hb.mono Hb0.out.size));have Ho:=af ho.os;clear ho hb H0 Hb0 Ht;obtain ⟨a1,c1,rfl,_,_⟩:=Ho.out.rs.val;obtain ⟨n,hn⟩:∃ n,(fU ts).length=n:=⟨_,rfl⟩;have Hn:=af hn;have Xv:n≤12:=by rw [←hn,aQ];exact Js.out.2
 rw [hn] at Ho JG ⊢;clear hn;go_wp2_with fail;go_loopw [5,7] (fun out i wr=>∃ k:Nat,i=.int .i64 k∧k≤n∧Hid (OS iR 1 3 wr w.heap.size out (fU ((ts.take k).flatMap fun t=>Kx.ax (Kx.row m t))))∧Hid (((ts.take k).flatMap fun t=>Kx.ax (Kx.row m t)).length≤4*k)∧Hid (∃ b,OS iR 1 3 wr b (.slice a1 n c1) (fU ts))∧Hid (Sep (.slice a1 n c1) out)∧Hid (Below w.heap.size w wr)) (fun _ i _=>n - (intOf i).toNat)
 case atStart=>exact ⟨0,rfl,Nat.zero_le _,Zk.out,by simp [Hid],⟨_,Ho.out⟩,JG.out,Hb1.out⟩
 case round =>
  clear Zk JG Hb1 Ho;obtain ⟨k,rfl,hk,ho,hlen,hts,hsep,hb⟩:=hrel
  by_cases hlt:k<n
  ·obtain ⟨bt,QE⟩:=hts.out;have hkt:k<ts.length:=by have:=Hn.out;rw [aQ] at this;omega
   have Uk:k<(fU ts).length:=by rw [aQ];exact hkt
   obtain ⟨b2,mP,cap2,e,_,hc⟩:=QE.rs.at Uk;have hc0:=hc 0 _ rfl;rw [Hn.out] at e;simp only [Value.slice.injEq] at e;obtain ⟨rfl,_,rfl⟩:=e;have htk:ts.take (k+1)=ts.take k ++ [ts[k]]:=by rw [List.take_succ_eq_append_getElem hkt]
   have QF:=Js.out.1 _ (List.getElem_mem hkt);rw [nI ts k Uk hkt,Nat.mul_one,Nat.add_zero] at hc0;generalize ts[k]=t at hc0 htk QF;obtain ⟨b3,TU,cap3,u3,e,hc3,hr3⟩:=(Hh.out.below hb.out).row hm QF;rw [←fJ.out] at e;simp only [Value.slice.injEq] at e;obtain ⟨rfl,_,rfl⟩:=e;have hw4:=(mem_row hm QF).2.1;have hfl:(ts.take (k+1)).flatMap (fun t=>Kx.ax (Kx.row m t))=(ts.take k).flatMap (fun t=>Kx.ax (Kx.row m t)) ++ Kx.ax (Kx.row m t):=by rw [htk];simp
   have hn4:(Kx.ax (Kx.row m t)).length≤4:=by rw [←hw4];unfold Kx.ax;exact List.length_filterMap_le _ _
   have Ub:=af hfl;have Zl:=af hn4;have Ci:=af hr3;have H3:=af QE;have UK:(t:Int)<(m.length:Int):=by rw [fJ.out];omega
   clear htk hfl hn4 hr3 hts QE hw4 hc;generalize (ts.take k).flatMap (fun t=>Kx.ax (Kx.row m t))=ys at ho hlen Ub
   go_wp2_with fail;refine (oC _ _ _ Ci.out).mono ?_;rintro e w2 ⟨u4,rfl,iV,hb4⟩;have kH:=af iV.os;have l7:=af (ho.out.below hb4);have Zm:=af (H3.out.below hb4);have Hb2:=af (hb.out.trans (hb4.mono hb.out.size));have uf:=af (Nat.le_trans hb.out.size hb4.size);have HL:=af (show (fU ys).length+(fU (Kx.ax (Kx.row m t))).length≤1099511627776 by rw [aQ,aQ];have:=hlen.out;have:=Zl.out;omega);clear iV hb4;go_wp2_with (at_builtin;refine aV wK rfl _ _ rfl w.heap.size _ (fU ys) rfl l7.out _ (fU (Kx.ax (Kx.row m t))) rfl kH.out.rs HL.out uf.out ?_;intro v' w3 ho3 hg3 hn3;have jJ:=af ho3;have ql:=af hg3;have Hn3:=af hn3;clear ho3 hg3 hn3);go_roundw
   case rel =>
    refine ⟨k+1,by go_num,by omega,?_,?_,⟨_,Zm.out.kept ql.out hsep.out⟩,Sep.grow Zm.out hsep.out Hn3.out,Below.dN Hb2.out l7.out ql.out aW uf.out⟩
    ·show OS _ _ _ _ _ _ _;rw [Ub.out,jv];exact jJ.out
    show _≤_;rw [Ub.out,List.length_append];have:=hlen.out;have:=Zl.out;omega
   case measure=>simp [intOf];omega
  have hkn:k=n:=by omega
  subst hkn;have htt:ts.take k=ts:=List.take_of_length_le (by have:=Hn.out;rw [aQ] at this;omega);have ho':=ho.out;rw [htt] at ho';have Ho:=af ho'.oi.ri;clear ho' htt;go_wp2_with fail;refine (tu _ _ _ Ho.out).mono ?_;rintro e w2 ⟨u2,rfl,ho2,hb2⟩;have l7:=af ho2;have Hb2:=af hb2;clear ho2 hb2;go_wp2_with fail;go_ret;refine ⟨_,rfl,?_,hb.out.trans (Hb2.out.mono hb.out.size)⟩;rw [Hts.out];exact l7.out.mono hb.out.size
theorem kZ (m:List (List Int)) (root:Int) (v:Value) (w:World) (h:RM w v m) (hm:Kx.bW m=true) (hr:root≤11) :
  Calls Tryz.prog 132 #[v,.int .i64 root] w (mZ w (fU (Kx.reach m root))):=by
 by_cases h0:root<0
 ·have hw:=af (show Kx.reach m root=[] by unfold Kx.reach;rw [if_pos h0]);obtain ⟨_,a,cap,rfl,_,_⟩:=h.len;go_enter Tryz.func132,Tryz.ntmps132;go_wp2_with fail;go_ret;refine ⟨_,rfl,?_,fZ.alloc aW _⟩;rw [hw.out];exact OI.d_ aW
 obtain ⟨r,rfl⟩:=Int.eq_ofNat_of_zero_le (show 0≤root by omega);have D_:r<12:=by omega
 have hw:=af (show Kx.reach m (r:Int)=Kx.fE (r :: (Kx.tables m r ++ Kx.fO m r)) by unfold Kx.reach;rw [if_neg h0];simp);obtain ⟨w0,hw0⟩:∃ w0,w.alloc (.cells #[.int .i64 (r:Int)] 3)=w0:=⟨_,rfl⟩;have hb0:Below w.heap.size w w0:=hw0 ▸ (Below.refl w.heap.size w).alloc aW _;have H0:=af (show OS iR 1 3 w0 w.heap.size (.slice (some ⟨w.heap.size,0,none⟩) 1 1) [(r:Int)] from hw0 ▸ OS.lit (l:=[(r:Int)]) aW _ rfl rfl (by simp));have Ht:=af (sF m r v w0 (h.below hb0) hm D_);have Hh:=af h;have Hb0:=af hb0;have Hl:=af (show (Kx.tables m r).length≤12∧(Kx.fO m r).length≤12 from ⟨Nat.le_trans (List.length_filter_le _ _) (by simp),Nat.le_trans (List.length_filter_le _ _) (by simp)⟩);clear h hb0;go_enter Tryz.func132,Tryz.ntmps132;go_wp2_with fail;refine Ht.out.mono ?_;rintro e w1 ⟨u1,rfl,ho,hb⟩
 have O_:=af ho.os;have H1:=af (H0.out.below hb);have Hb1:=af (Hb0.out.trans (hb.mono Hb0.out.size));have HL:=af (show [(r:Int)].length+(fU (Kx.tables m r)).length≤1099511627776 by rw [aQ];have:=Hl.out;simp;omega);clear ho hb H0 Hb0 hw0;go_wp2_with (at_builtin;refine aV wK rfl _ _ rfl w.heap.size _ [(r:Int)] rfl H1.out _ (fU (Kx.tables m r)) rfl O_.out.rs HL.out Hb1.out.size ?_;intro v' w3 ho3 hg3 hn3;have jJ:=af ho3;have Hb3:=af (Below.dN Hb1.out H1.out hg3 aW Hb1.out.size);clear ho3 hg3 hn3);refine (F7 m r v _ (Hh.out.below Hb3.out) hm D_).mono ?_;rintro e w4 ⟨u4,rfl,iV,hb4⟩;have kH:=af iV.os;have H4:=af (jJ.out.below hb4);have Hb4:=af (Hb3.out.trans (hb4.mono Hb3.out.size))
 have HL2:=af (show ([(r:Int)] ++ fU (Kx.tables m r)).length+(fU (Kx.fO m r)).length≤1099511627776 by rw [List.length_append,aQ,aQ];have:=Hl.out;simp;omega);clear iV hb4;go_wp2_with (at_builtin;refine aV wK rfl _ _ rfl w.heap.size _ ([(r:Int)] ++ fU (Kx.tables m r)) rfl H4.out _ (fU (Kx.fO m r)) rfl kH.out.rs HL2.out Hb4.out.size ?_;intro v5 w5 zK hg5 hn5;have OY:=af zK;have Hb5:=af (Below.dN Hb4.out H4.out hg5 aW Hb4.out.size);clear zK hg5 hn5);have H6:=af (show RI w5 v5 (fU (r :: (Kx.tables m r ++ Kx.fO m r))) by
  have:=OY.out.oi.ri
  rw [List.append_assoc,←jv] at this;exact this)
 refine (tu _ _ _ H6.out).mono ?_;rintro e w6 ⟨u6,rfl,yI,hb6⟩;have Ri:=af yI;have Hb6:=af hb6;clear yI hb6;go_wp2_with fail;go_ret;refine ⟨_,rfl,?_,Hb5.out.trans (Hb6.out.mono Hb5.out.size)⟩;rw [hw.out];exact Ri.out.mono Hb5.out.size
theorem toList_data (s:ByteArray):s.toList=s.data.toList:=Go.ByteArray.toList_eq s
theorem uJ (s:ByteArray):s.size=s.data.toList.length:=by show s.data.size=_;simp
theorem wW {a b:Kx.Str}:((b.extract 0 a.size).toList==a.toList)=Kx.pre a b:=by
 rw [toList_data,toList_data,Lib.extract_data];unfold Kx.pre;rw [Bool.eq_iff_iff,beq_iff_eq,List.isPrefixOf_iff_prefix,List.prefix_iff_eq_take];rw [←uJ];simp;exact eq_comm
theorem D7 {a b:Kx.Str} (h:¬ a.size≤b.size):Kx.pre a b=false:=by
 unfold Kx.pre;rw [Bool.eq_false_iff,ne_eq,List.isPrefixOf_iff_prefix];intro hp;have:=hp.length_le;rw [←uJ,←uJ] at this;omega
theorem mY (a b:Kx.Str) (w:World):Calls Tryz.prog 236 #[.string a,.string b] w fun e w'=>e=.returned (.bool (Kx.pre a b))∧w=w':=by
 by_cases h:a.size≤b.size
 ·have H:=af (wW (a:=a) (b:=b));go_enter Tryz.func236,Tryz.ntmps236;go_wp2_with fail;go_ret;exact ⟨ak H.out,rfl⟩
 have H:=af (D7 h);go_enter Tryz.func236,Tryz.ntmps236;go_wp2_with fail;go_ret;exact ⟨ak H.out.symm,rfl⟩
theorem mO (l:List Kx.Str) (g:Kx.Str) (v:Value) (w:World) (h:dK w v l):Calls Tryz.prog 188 #[v,.string g] w fun e w'=>e=.returned (.bool (Kx.may l g))∧w=w':=by
 obtain ⟨a,cap,rfl,_,_⟩:=RS.val h;have hl:=h.1;have H:=af h;clear h;go_enter Tryz.func188,Tryz.ntmps188;go_wp2_with fail;go_loop [5] (fun i=>∃ k:Nat,i=.int .i64 k∧k≤l.length∧Hid (∀ j (hj:j<l.length),j<k→Kx.pre l[j] g=false)) (fun i=>l.length - (intOf i).toNat)
 case atStart=>exact ⟨0,rfl,Nat.zero_le _,fun j _ hj=>absurd hj (Nat.not_lt_zero _)⟩
 case round =>
  obtain ⟨k,rfl,hk,hall⟩:=hrel
  by_cases hlt:k<l.length
  ·obtain ⟨b,off,cap',e,_,hc⟩:=dK.at H.out hlt;simp only [Value.slice.injEq] at e;obtain ⟨rfl,_,rfl⟩:=e
   cases hq:Kx.pre l[k] g with
   | true =>
    have HF:=af (show Kx.may l g=true by unfold Kx.may;rw [List.any_eq_true];exact ⟨_,List.getElem_mem hlt,hq⟩);have Hq:=af hq;clear hq;generalize l[k]=s at hc Hq;go_wp2_with fail;refine (mY _ _ _).mono ?_;rintro e w' ⟨rfl,rfl⟩;rw [Hq.out];go_wp2_with fail;go_ret;exact ⟨ak HF.out.symm,rfl⟩
   | false =>
    have Hk:=af hq;have Hq:=af hq;clear hq;generalize l[k]=s at hc Hq;go_wp2_with fail;refine (mY _ _ _).mono ?_;rintro e w' ⟨rfl,rfl⟩;rw [Hq.out];go_wp2_with fail;go_round
    case rel =>
     refine ⟨k+1,by go_num,by omega,?_⟩;show ∀ j (hj:j<l.length),j<k+1→_;intro j hj hjk
     by_cases e:j=k
     ·subst e;exact Hk.out
     exact hall.out j hj (by omega)
    case measure=>simp [intOf];omega
  have HF:=af (show Kx.may l g=false by
   unfold Kx.may;rw [Bool.eq_false_iff,ne_eq,List.any_eq_true];rintro ⟨s,hs,hp⟩;obtain ⟨j,hj,rfl⟩:=List.getElem_of_mem hs;rw [hall.out j hj (by omega)] at hp;cases hp)
  go_wp2_with fail;go_ret;exact ⟨ak HF.out.symm,rfl⟩
def letter (b:UInt8):Bool:=97≤b&&b≤99
theorem yP (b:UInt8):letter b=true↔97≤(b.toNat:Int)∧(b.toNat:Int)≤99:=by
 unfold letter;simp only [Bool.and_eq_true,decide_eq_true_eq,UInt8.le_iff_toNat_le,show (97:UInt8).toNat=97 from rfl,show (99:UInt8).toNat=99 from rfl];omega
theorem pK (s:Kx.Str):Kx.bT s=(s.data.toList.all letter&&decide (s.size≤4)):=rfl
theorem IY (s:ByteArray) {k:Nat} (h:k<s.size):s[k] ∈ s.data.toList:=by
 have h':k<s.data.size:=h;show s.data[k] ∈ s.data.toList;exact Array.getElem_mem_toList h'
theorem IZ (s:ByteArray) {b:UInt8} (h:b ∈ s.data.toList):∃ k,∃ h:k<s.size,s[k]=b:=by
 obtain ⟨k,hk,e⟩:=List.getElem_of_mem h;have hk':k<s.size:=by rw [uJ];exact hk
 refine ⟨k,hk',?_⟩;have h1:s[k]=s.data[k]'hk':=rfl;rw [h1];simpa using e
theorem bY (s:Kx.Str) (w:World) (hs:s.size≤9223372036854775807):Calls Tryz.prog 186 #[.string s] w fun e w'=>e=.returned (.bool (Kx.bT s))∧w=w':=by
 go_enter Tryz.func186,Tryz.ntmps186;go_wp2_with fail;go_loop [3] (fun i=>∃ k:Nat,i=.int .i64 k∧k≤s.size∧Hid (∀ j (hj:j<s.size),j<k→letter s[j]=true)) (fun i=>s.size - (intOf i).toNat)
 case atStart=>exact ⟨0,rfl,Nat.zero_le _,fun j _ hj=>absurd hj (Nat.not_lt_zero _)⟩
 case round =>
  obtain ⟨k,rfl,hk,hall⟩:=hrel
  by_cases hlt:k<s.size
  ·have Le:=af (show letter s[k]=false→Kx.bT s=false from fun h=>by
    rw [pK,Bool.and_eq_false_iff];left;rw [List.all_eq_false];exact ⟨_,IY s hlt,by rw [h];simp⟩)
   have Hi:=af (yP s[k])
   by_cases h1:(s[k].toNat:Int)<97
   ·have HF:=af (Le.out (by rw [Bool.eq_false_iff,ne_eq,Hi.out];omega));clear Le Hi;go_wp2_with fail;go_ret;exact ⟨ak HF.out.symm,rfl⟩
   by_cases h2:99<(s[k].toNat:Int)
   ·have HF:=af (Le.out (by rw [Bool.eq_false_iff,ne_eq,Hi.out];omega));clear Le Hi;go_wp2_with fail;go_ret;exact ⟨ak HF.out.symm,rfl⟩
   have Hk:=af (Hi.out.2 (by omega));clear Le Hi;go_wp2_with fail;go_round
   case rel =>
    refine ⟨k+1,by go_num,by omega,?_⟩;show ∀ j (hj:j<s.size),j<k+1→_;intro j hj hjk
    by_cases e:j=k
    ·subst e;exact Hk.out
    exact hall.out j hj (by omega)
   case measure=>simp [intOf];omega
  have HT:=af (show s.data.toList.all letter=true by
   rw [List.all_eq_true];intro b hb;obtain ⟨j,hj,rfl⟩:=IZ s hb;exact hall.out j hj (by omega))
  go_wp2_with fail;go_ret;refine ⟨ak ?_,rfl⟩;rw [pK,HT.out,Bool.true_and];exact Bool.eq_iff_iff.2 (by simp;omega)
def Qt (v:Value) (w:World) (e:Ending) (w':World):Prop:=e=.returned v∧∃ n,w'=w.drewN n
theorem Qt.below {v:Value} {w:World} {e:Ending} {w':World} (h:Qt v w e w'):e=.returned v∧Below w.heap.size w w':=by
 obtain ⟨h1,n,rfl⟩:=h;exact ⟨h1,⟨rfl,rfl,rfl,Nat.le_refl _,fun _ _=>rfl⟩⟩
theorem RS.drewN {α:Type} {f:α→List Value} {sz:Nat} {w:World} {v:Value} {l:List α} (h:RS f sz w v l) (n:Nat):RS f sz (w.drewN n) v l:=h
theorem pM:∀ (l:List Kx.Str) (k:Nat),(∀ j (hj:j+1<l.length),j+1<k→Kx.lt l[j] l[j+1]=true)→l.length≤k→Kx.dR l=true
 | [],_,_,_=>rfl
 | [_],_,_,_=>rfl
 | a :: b :: l,k,h,hk=>by
  simp only [Kx.dR,Bool.and_eq_true];refine ⟨h 0 (by simp) (by simp at hk;omega),pM (b :: l) (k - 1) (fun j hj hjk=>?_) (by simp at hk ⊢;omega)⟩;have:=h (j+1) (by simp at hj ⊢;omega) (by omega);simpa using this
theorem qL:∀ (l:List Kx.Str) (j:Nat) (hj:j+1<l.length),Kx.lt l[j] l[j+1]=false→Kx.dR l=false
 | a :: b :: l,0,_,h=>by simp only [Kx.dR,Bool.and_eq_false_iff];exact .inl (by simpa using h)
 | a :: b :: l,j+1,hj,h=>by
  simp only [Kx.dR,Bool.and_eq_false_iff];exact .inr (qL (b :: l) j (by simpa using hj) (by simpa using h))
theorem di (l:List Kx.Str) (v:Value) (w:World) (h:dK w v l) (hsz:∀ s ∈ l,s.size≤9223372036854775807):Calls Tryz.prog 130 #[v] w (Qt (.bool (Kx.aS l)) w):=by
 obtain ⟨a,cap,rfl,_,_⟩:=RS.val h;have hl:=h.1;have H:=af h;clear h;have uf:=af hsz;clear hsz;go_enter Tryz.func130,Tryz.ntmps130;go_wp2_with fail;go_loopw [3] (fun i wr=>∃ k:Nat,i=.int .i64 k∧k≤l.length∧Hid (∀ j (hj:j<l.length),j<k→Kx.bT l[j]=true)∧Hid (∀ j (hj:j+1<l.length),j+1<k→Kx.lt l[j] l[j+1]=true)∧Hid (∃ n,wr=w.drewN n)) (fun i _=>l.length - (intOf i).toNat)
 case atStart=>exact ⟨0,rfl,Nat.zero_le _,fun j _ hj=>absurd hj (Nat.not_lt_zero _),fun j _ hj=>absurd hj (Nat.not_lt_zero _),⟨0,rfl⟩⟩
 case round =>
  obtain ⟨k,rfl,hk,hall,hasc,hw⟩:=hrel;have Hr:=af (show dK wr (.slice a l.length cap) l by obtain ⟨n,e⟩:=hw.out;rw [e];exact RS.drewN H.out n);have Hw:=af (show ∀ n,∃ m,wr.drewN n=w.drewN m from fun n=>by obtain ⟨m,e⟩:=hw.out;exact ⟨m+n,by rw [e,World.drewN_drewN]⟩)
  by_cases hlt:k<l.length
  ·obtain ⟨b,off,cap',e,_,hc⟩:=dK.at Hr.out hlt;have D8:∀ hk0:0<k,wr.cell? ⟨b,off+(k - 1),none⟩=some (.string (l[k - 1]'(by omega))):=fun hk0=>by
    obtain ⟨b',off',cap'',e',_,hc'⟩:=dK.at Hr.out (k:=k - 1) (by omega);rw [e] at e';simp only [Value.slice.injEq,Option.some.injEq,Addr.mk.injEq] at e';obtain ⟨⟨rfl,rfl,_⟩,_⟩:=e';exact hc'
   have KA:=af D8;clear D8;simp only [Value.slice.injEq] at e;obtain ⟨rfl,_,rfl⟩:=e;have kQ:(k:Int)<(l.length:Int):=by omega
   have Hs:=af (uf.out _ (List.getElem_mem hlt))
   cases hq:Kx.bT l[k] with
   | false =>
    have HF:=af (show Kx.aS l=false by
     unfold Kx.aS;rw [Bool.and_eq_false_iff,Bool.and_eq_false_iff,List.all_eq_false];exact .inl (.inl ⟨_,List.getElem_mem hlt,by rw [hq];simp⟩))
    have Hq:=af hq;clear hq;generalize l[k]=s at hc Hq Hs;go_wp2_with fail;go_quiet ((go_at_call 186;exact Calls.quiet_of_same ((bY _ _ Hs.out).mono fun _ _ ⟨he,hw⟩=>⟨by rw [he,Hq.out],hw.symm⟩)))
    go_wp2_with fail;go_ret;exact ⟨ak HF.out.symm,Hw.out _⟩
   | true =>
    have Hk:=af hq;have Hq:=af hq;clear hq
    by_cases hk0:k=0
    ·have hg:decide (0<k)=false:=by simp;omega
     have oV:=af hk0;clear hk0;generalize l[k]=s at hc Hq Hs;go_wp2_with fail;go_quiet ((go_at_call 186;exact Calls.quiet_of_same ((bY _ _ Hs.out).mono fun _ _ ⟨he,hw⟩=>⟨by rw [he,Hq.out],hw.symm⟩)))
     go_wp2_with fail;go_roundw
     case rel =>
      refine ⟨k+1,by go_num,by omega,?_,?_,Hw.out _⟩
      ·show ∀ j (hj:j<l.length),j<k+1→_
       intro j hj hjk;have:=oV.out;obtain rfl:j=k:=by omega
       exact Hk.out
      show ∀ j (hj:j+1<l.length),j+1<k+1→_
      intro j hj hjk;have:=oV.out;omega
     case measure=>simp [intOf];omega
    have hp:=KA.out (by omega);have hg:decide (0<k)=true:=by simp;omega
    have eI:IntKind.i64.wrap ((k:Int) - 1)=((k - 1:Nat):Int):=by rw [IntWalk.i64_in _ (by omega)];omega
    have hk1:((k - 1:Nat):Int)<(l.length:Int):=by omega
    have KC:k - 1+1<l.length:=by omega
    have ek:k - 1+1=k:=by omega
    cases hq2:Kx.lt (l[k - 1]'(by omega)) l[k] with
    | false =>
     have HF:=af (show Kx.aS l=false by
      unfold Kx.aS;rw [Bool.and_eq_false_iff,Bool.and_eq_false_iff];exact .inl (.inr (qL l (k - 1) KC (by simp only [ek];exact hq2))))
     unfold Kx.lt at hq2;generalize l[k - 1]'(by omega)=s' at hp hq2;generalize l[k]=s at hc Hq Hs hq2;clear ek KC;go_wp2_with fail;go_quiet ((go_at_call 186;exact Calls.quiet_of_same ((bY _ _ Hs.out).mono fun _ _ ⟨he,hw⟩=>⟨by rw [he,Hq.out],hw.symm⟩)))
     go_wp2_with fail;go_ret;exact ⟨ak HF.out.symm,Hw.out _⟩
    | true =>
     have WZ:=af hq2;unfold Kx.lt at hq2;generalize l[k - 1]'(by omega)=s' at hp hq2;generalize l[k]=s at hc Hq Hs hq2;have Tz:=af ek;clear ek;go_wp2_with fail;go_quiet ((go_at_call 186;exact Calls.quiet_of_same ((bY _ _ Hs.out).mono fun _ _ ⟨he,hw⟩=>⟨by rw [he,Hq.out],hw.symm⟩)))
     go_wp2_with fail;go_roundw
     case rel =>
      refine ⟨k+1,by go_num,by omega,?_,?_,Hw.out _⟩
      ·show ∀ j (hj:j<l.length),j<k+1→_
       intro j hj hjk
       by_cases e:j=k
       ·subst e;exact Hk.out
       exact hall.out j hj (by omega)
      show ∀ j (hj:j+1<l.length),j+1<k+1→_
      intro j hj hjk
      by_cases e:j=k - 1
      ·subst e;have e2:=Tz.out;simp only [e2];exact WZ.out
      exact hasc.out j hj (by omega)
     case measure=>simp [intOf];omega
  have HT:=af (show Kx.aS l=decide (l.length≤6) by
   unfold Kx.aS;have h1:l.all Kx.bT=true:=by
    rw [List.all_eq_true];intro s hs;obtain ⟨j,hj,rfl⟩:=List.getElem_of_mem hs;exact hall.out j hj (by omega)
   rw [h1,pM l k hasc.out (by omega)];simp)
  go_wp2_with fail;go_ret;refine ⟨ak ?_,hw.out⟩;rw [HT.out];exact Bool.eq_iff_iff.2 (by simp;omega)
theorem Bc (x:Kx.aG) (w:World) (hs:x.guard.size≤9223372036854775807):Calls Tryz.prog 127 #[kN x] w fun e w'=>e=.returned (.bool (Kx.cZ x))∧Below w.heap.size w w':=by
 have hb:=af (show Below w.heap.size w (w.alloc (.cells #[.int .i64 x.kind,.string x.guard,.int .i64 x.refs] 108)) from fZ.alloc aW _);unfold kN
 by_cases h0:x.kind=0
 ·have hk:(x.kind==0)=true:=by simpa using h0
  have hv:=af (show Kx.cZ x=decide (x=Kx.aG.zero) by unfold Kx.cZ;rw [if_pos h0];rfl);have hz:=af (show x=Kx.aG.zero↔x.guard.toList=[]∧x.refs=0 by
   constructor
   ·intro e;rw [e];exact ⟨by decide +kernel,rfl⟩
   rintro ⟨e1,e2⟩;have:x.guard=ByteArray.empty:=Kx.toList_inj (by rw [e1];decide +kernel)
   cases x;simp_all [Kx.aG.zero])
  clear h0
  by_cases hg:x.guard.toList=[]
  ·by_cases hr:x.refs=0
   ·have hF:=af (show Kx.cZ x=true by rw [hv.out,decide_eq_true_eq,hz.out];exact ⟨hg,hr⟩);go_enter Tryz.func127,Tryz.ntmps127;go_wp2_with fail;go_ret;exact ⟨ak hF.out.symm,by simpa [hr] using hb.out⟩
   have hF:=af (show Kx.cZ x=false by rw [hv.out,decide_eq_false_iff_not,hz.out];exact fun h=>hr h.2);go_enter Tryz.func127,Tryz.ntmps127;go_wp2_with fail;go_ret;exact ⟨ak hF.out.symm,hb.out⟩
  have hF:=af (show Kx.cZ x=false by rw [hv.out,decide_eq_false_iff_not,hz.out];exact fun h=>hg h.1);go_enter Tryz.func127,Tryz.ntmps127;go_wp2_with fail;go_ret;exact ⟨ak hF.out.symm,hb.out⟩
 have hk:(x.kind==0)=false:=by simpa using h0
 have hv:=af (show Kx.cZ x=(Kx.bK x.kind 1 3&&Kx.bT x.guard&&Kx.bK x.refs 0 50) by unfold Kx.cZ;rw [if_neg h0]);clear h0;go_enter Tryz.func127,Tryz.ntmps127;go_wp2_with fail;refine (dJ _ _ _ _).mono ?_;rintro e w' ⟨rfl,rfl⟩
 cases h1:Kx.bK x.kind 1 3
 ·rw [h1] at hv;clear h1;go_wp2_with fail;go_ret;exact ⟨ak (by rw [hv.out];rfl),hb.out⟩
 rw [h1] at hv;clear h1;go_wp2_with fail;refine (bY _ _ hs).mono ?_;rintro e w' ⟨rfl,rfl⟩
 cases h1:Kx.bT x.guard
 ·rw [h1] at hv;clear h1;go_wp2_with fail;go_ret;exact ⟨ak (by rw [hv.out];rfl),hb.out⟩
 rw [h1] at hv;clear h1;go_wp2_with fail;refine (dJ _ _ _ _).mono ?_;rintro e w' ⟨rfl,rfl⟩;go_wp2_with fail;go_ret;exact ⟨ak (by rw [hv.out];rfl),hb.out⟩
theorem fF {P:Nat→Bool} {k:Nat} (h:∀ j,j<k→P j=true) (hk:P k=true):∀ j,j<k+1→P j=true:=fun j hj=>by
 by_cases e:j=k
 ·subst e;exact hk
 exact h j (by omega)
def jo (l:List Kx.aG):Prop:=∀ x ∈ l,x.guard.size≤9223372036854775807
def Dw (l:List Kx.Str):Prop:=∀ x ∈ l,x.size≤9223372036854775807
theorem jo.at {l:List Kx.aG} (h:jo l) {k:Nat} (hk:k<l.length):(Kx.inf l k).guard.size≤9223372036854775807:=h _ (Kx.ry hk)
theorem dX (l:List Kx.aG) (v:Value) (w:World) (h:bV w v l) (hs:jo l):Calls Tryz.prog 74 #[v] w fun e w'=>e=.returned (.bool (Kx.bC l))∧Below w.heap.size w w':=by
 obtain ⟨a,cap,rfl,_,_⟩:=RS.val h;have hl:=h.1;have H:=af h;have Hs:=af hs;clear h hs;have HT:=af (show (∀ j,j<l.length→Kx.cZ (Kx.inf l j)=true)→Kx.bC l=(l.length==12) from fun hall=>by
  unfold Kx.bC;rw [show l.all Kx.cZ=true by
   rw [List.all_eq_true];intro x hx;obtain ⟨f,hf,rfl⟩:=Kx.BZ hx;exact hall f hf,Bool.true_and]
 )
 have HB:=af (show ∀ k,k<l.length→Kx.cZ (Kx.inf l k)=false→Kx.bC l=false from fun k hk hq=>by
  unfold Kx.bC;rw [Bool.and_eq_false_iff,List.all_eq_false];exact .inl ⟨_,Kx.ry hk,by rw [hq];simp⟩
 )
 go_enter Tryz.func74,Tryz.ntmps74;go_wp2_with fail;go_loopw [3] (fun i wr=>∃ k:Nat,i=.int .i64 k∧k≤l.length∧Hid (∀ j,j<k→Kx.cZ (Kx.inf l j)=true)∧Hid (Below w.heap.size w wr)) (fun i _=>l.length - (intOf i).toNat)
 case atStart=>exact ⟨0,rfl,Nat.zero_le _,fun j hj=>absurd hj (Nat.not_lt_zero _),Below.refl _ _⟩
 case round =>
  obtain ⟨k,rfl,hk,hall,hb⟩:=hrel
  by_cases hlt:k<l.length
  ·have kQ:(k:Int)<((l.length:Nat):Int):=by omega
   obtain ⟨b,off,cap1,e,_,h1,h2,h3⟩:=bV.at (RS.below H.out hb.out) hlt;simp only [Value.slice.injEq] at e;obtain ⟨rfl,_,rfl⟩:=e;have PS:=af (Hs.out.at hlt)
   cases hq:Kx.cZ (Kx.inf l k) with
   | false =>
    have HF:=af (HB.out k hlt hq);have Hq:=af hq;clear hq;generalize Kx.inf l k=x at h1 h2 h3 PS Hq;go_wp2_with fail;refine (Bc x _ PS.out).mono ?_;rintro e w1 ⟨rfl,hb1⟩;rw [Hq.out];have Hb1:=af (hb.out.trans (hb1.mono hb.out.size));clear hb1;go_wp2_with fail;go_ret;exact ⟨ak HF.out.symm,Hb1.out⟩
   | true =>
    have Hn:=af (fF (P:=fun j=>Kx.cZ (Kx.inf l j)) hall.out hq)
    have Hq:=af hq;clear hq;generalize Kx.inf l k=x at h1 h2 h3 PS Hq;go_wp2_with fail;refine (Bc x _ PS.out).mono ?_;rintro e w1 ⟨rfl,hb1⟩;rw [Hq.out];have Hb1:=af (hb.out.trans (hb1.mono hb.out.size));clear hb1;go_wp2_with fail;go_roundw
    case rel=>exact ⟨k+1,by go_num,by omega,Hn.out,Hb1.out⟩
    case measure=>simp [intOf];omega
  have hkn:k=l.length:=by omega
  subst hkn;have HF:=af (HT.out hall.out);go_wp2_with fail;go_ret;exact ⟨ak (by rw [HF.out];exact Bool.eq_iff_iff.2 (by simp;omega)),hb.out⟩
theorem jw (l:List Kx.aG) (fs:List Nat) (r:List Kx.Str) (v u t:Value) (w:World) (h:bV w v l) (hf:RI w u (fU fs)) (hr:dK w t r) (Pg:∀ f ∈ fs,f<l.length):Calls Tryz.prog 131 #[v,u,t] w fun e w'=>e=.returned (.bool (Kx.allowed l fs r))∧Below w.heap.size w w':=by
 obtain ⟨a,cap,rfl,_,_⟩:=RS.val h;obtain ⟨a2,cap2,rfl⟩:=hf.val;have hl:=h.1;have hl2:=hf.1;have H:=af h;have Hf:=af hf;have Hr:=af hr;have fJ:=af Pg;clear h hf hr Pg;have Hn:=af (aQ fs);rw [aQ fs] at hl2 ⊢;have HT:=af (show (∀ j,j<fs.length→Kx.may r (Kx.inf l (fs.getD j 0)).guard=true)→Kx.allowed l fs r=true from fun hall=>by
  unfold Kx.allowed;rw [List.all_eq_true];intro f hf;obtain ⟨j,hj,rfl⟩:=List.getElem_of_mem hf;have:=hall j hj;rwa [List.getD_eq_getElem?_getD,List.getElem?_eq_getElem hj] at this
 )
 have HB:=af (show ∀ k,k<fs.length→Kx.may r (Kx.inf l (fs.getD k 0)).guard=false→Kx.allowed l fs r=false from fun k hk hq=>by
  unfold Kx.allowed;rw [List.all_eq_false];refine ⟨fs[k],List.getElem_mem hk,?_⟩;rw [List.getD_eq_getElem?_getD,List.getElem?_eq_getElem hk] at hq;rw [Option.getD_some] at hq;rw [hq];simp
 )
 go_enter Tryz.func131,Tryz.ntmps131;go_wp2_with fail;go_loopw [7] (fun i wr=>∃ k:Nat,i=.int .i64 k∧k≤fs.length∧Hid (∀ j,j<k→Kx.may r (Kx.inf l (fs.getD j 0)).guard=true)∧Hid (Below w.heap.size w wr)) (fun i _=>fs.length - (intOf i).toNat)
 case atStart=>exact ⟨0,rfl,Nat.zero_le _,fun j hj=>absurd hj (Nat.not_lt_zero _),Below.refl _ _⟩
 case round =>
  obtain ⟨k,rfl,hk,hall,hb⟩:=hrel
  by_cases hlt:k<fs.length
  ·have kQ:(k:Int)<((fs.length:Nat):Int):=by omega
   have hlt2:k<(fU fs).length:=by rw [Hn.out];exact hlt
   obtain ⟨b2,mP,cap3,e2,_,g1⟩:=(Hf.out.below hb.out).at hlt2;rw [Hn.out] at e2;simp only [Value.slice.injEq] at e2;obtain ⟨rfl,_,rfl⟩:=e2;rw [nI fs k hlt2 hlt] at g1;have hfk:fs.getD k 0<l.length:=by
    rw [List.getD_eq_getElem?_getD,List.getElem?_eq_getElem hlt];exact fJ.out _ (List.getElem_mem hlt)
   have Zn:fs[k]=fs.getD k 0:=by rw [List.getD_eq_getElem?_getD,List.getElem?_eq_getElem hlt];rfl
   rw [Zn] at g1;obtain ⟨b,off,cap1,e,_,h1,h2,h3⟩:=bV.at (RS.below H.out hb.out) hfk;simp only [Value.slice.injEq] at e;obtain ⟨rfl,_,rfl⟩:=e;have wJ:((fs.getD k 0:Nat):Int)<(l.length:Int):=by omega
   clear Zn hlt2
   cases hq:Kx.may r (Kx.inf l (fs.getD k 0)).guard with
   | false =>
    have HF:=af (HB.out k hlt hq);have Hq:=af hq;clear hq;generalize fs.getD k 0=f at g1 h1 h2 h3 wJ Hq hfk;generalize Kx.inf l f=x at h1 h2 h3 Hq;go_wp2_with fail;refine (mO r _ _ _ (RS.below Hr.out hb.out)).mono ?_;rintro e w1 ⟨rfl,rfl⟩;rw [Hq.out];have Hb1:=af hb.out;go_wp2_with fail;go_ret;exact ⟨ak HF.out.symm,Hb1.out⟩
   | true =>
    have Hn:=af (fF (P:=fun j=>Kx.may r (Kx.inf l (fs.getD j 0)).guard) hall.out hq)
    have Hq:=af hq;clear hq;generalize fs.getD k 0=f at g1 h1 h2 h3 wJ Hq hfk;generalize Kx.inf l f=x at h1 h2 h3 Hq;go_wp2_with fail;refine (mO r _ _ _ (RS.below Hr.out hb.out)).mono ?_;rintro e w1 ⟨rfl,rfl⟩;rw [Hq.out];have Hb1:=af hb.out;go_wp2_with fail;go_roundw
    case rel=>exact ⟨k+1,by go_num,by omega,Hn.out,Hb1.out⟩
    case measure=>simp [intOf];omega
  have hkn:k=fs.length:=by omega
  subst hkn;have HF:=af (HT.out hall.out);go_wp2_with fail;go_ret;exact ⟨ak (by rw [HF.out]),hb.out⟩
theorem gu (x:Int) (w:World):Calls Tryz.prog 133 #[.int .i64 x] w fun e w'=>e=.returned (.bool (Kx.aX x))∧w=w':=by
 by_cases h2:x=2
 ·subst h2;go_enter Tryz.func133,Tryz.ntmps133;go_wp2_with fail;go_ret;exact ⟨rfl,rfl⟩
 have hb2:(x==2)=false:=by simpa using h2
 by_cases h3:x=3
 ·subst h3;go_enter Tryz.func133,Tryz.ntmps133;go_wp2_with fail;go_ret;exact ⟨rfl,rfl⟩
 have hb3:(x==3)=false:=by simpa using h3
 have H:=af (show Kx.aX x=false by simp [Kx.aX,h2,h3]);clear h2 h3;go_enter Tryz.func133,Tryz.ntmps133;go_wp2_with fail;go_ret;exact ⟨ak H.out.symm,rfl⟩
theorem j_ (x:Int) (w:World):Calls Tryz.prog 94 #[.int .i64 x] w fun e w'=>e=.returned (.bool (Kx.aX x))∧w=w':=by
 by_cases h2:x=2
 ·subst h2;go_enter Tryz.func94,Tryz.ntmps94;go_wp2_with fail;go_ret;exact ⟨rfl,rfl⟩
 have hb2:(x==2)=false:=by simpa using h2
 by_cases h3:x=3
 ·subst h3;go_enter Tryz.func94,Tryz.ntmps94;go_wp2_with fail;go_ret;exact ⟨rfl,rfl⟩
 have hb3:(x==3)=false:=by simpa using h3
 have H:=af (show Kx.aX x=false by simp [Kx.aX,h2,h3]);clear h2 h3;go_enter Tryz.func94,Tryz.ntmps94;go_wp2_with fail;go_ret;exact ⟨ak H.out.symm,rfl⟩
theorem zl (l:List Kx.aG) (t:Nat) (x kind:Int) (r:List Kx.Str) (v u:Value) (w:World) (h:bV w v l) (h12:l.length=12) (hr:dK w u r) (hk:kind=2∨kind=3) :
  Calls Tryz.prog 192 #[v,.int .i64 t,.int .i64 x,.int .i64 kind,u] w fun e w'=>e=.returned (.bool (Kx.gK l t x kind r))∧w=w':=by
 cases he:Kx.entry x with
 | none =>
  have HF:=af (show Kx.gK l t x kind r=(x==0) by unfold Kx.gK;rw [he]);have He:=af he;clear he hk h h12 hr
  by_cases h0:x=0
  ·subst h0;go_enter Tryz.func192,Tryz.ntmps192;go_wp2_with fail;refine (bM _ _).mono ?_;rintro e w' ⟨rfl,rfl⟩;rw [G7 He.out];go_wp2_with fail;go_ret;exact ⟨ak (by rw [HF.out];rfl),rfl⟩
  have hb:(x==0)=false:=by simpa using h0
  rw [hb] at HF;clear h0;go_enter Tryz.func192,Tryz.ntmps192;go_wp2_with fail;refine (bM _ _).mono ?_;rintro e w' ⟨rfl,rfl⟩;rw [G7 He.out];go_wp2_with fail;go_ret;exact ⟨ak HF.out.symm,rfl⟩
 | some p =>
  obtain ⟨g,c⟩:=p;have hg:=Kx.dU he;have HF:=af (show Kx.gK l t x kind r=(g != t&&(Kx.inf l g).kind==kind - 1&&Kx.may r (Kx.inf l g).guard) by unfold Kx.gK;rw [he]);have He:=af he;clear he;obtain ⟨b,off,cap1,rfl,_,h1,h2,h3⟩:=bV.at h (k:=g) (by omega);have Vt:(g:Int)<(l.length:Int):=by omega
  have ek:kind - 1=1∨kind - 1=2:=by omega
  have Hr:=af hr;have eI:IntKind.i64.wrap (kind - 1)=kind - 1:=by rw [IntWalk.i64_in _ (by omega)]
  clear h hr h12;generalize Kx.inf l g=y at h1 h2 h3 HF
  by_cases ht:g=t
  ·subst ht;have HF2:=af (HF.out.trans (show _=false by simp));clear HF;go_enter Tryz.func192,Tryz.ntmps192;go_wp2_with fail;refine (bM _ _).mono ?_;rintro e w' ⟨rfl,rfl⟩;rw [C_ He.out];go_wp2_with fail;go_ret;exact ⟨ak HF2.out.symm,rfl⟩
  have htb:(g != t)=true:=by simpa using ht
  have UK:((g:Int) != (t:Int))=true:=by rw [bne_iff_ne];omega
  rw [htb] at HF;clear ht htb
  by_cases hky:y.kind=kind - 1
  ·have hkb:(y.kind==kind - 1)=true:=by simpa using hky
   rw [hkb] at HF;clear hky;go_enter Tryz.func192,Tryz.ntmps192;go_wp2_with fail;refine (bM _ _).mono ?_;rintro e w' ⟨rfl,rfl⟩;rw [C_ He.out];go_wp2_with fail;refine (mO r _ _ _ Hr.out).mono ?_;rintro e w' ⟨rfl,rfl⟩;go_wp2_with fail;go_ret;exact ⟨ak (by rw [HF.out];rfl),rfl⟩
  have hkb:(y.kind==kind - 1)=false:=by simpa using hky
  rw [hkb] at HF;clear hky;go_enter Tryz.func192,Tryz.ntmps192;go_wp2_with fail;refine (bM _ _).mono ?_;rintro e w' ⟨rfl,rfl⟩;rw [C_ He.out];go_wp2_with fail;go_ret;exact ⟨ak (by rw [HF.out];rfl),rfl⟩
theorem BQ (m:List (List Int)) (l:List Kx.aG) (f:Nat) (kind:Int) (r:List Kx.Str) (vm v u:Value) (w:World) (hm:RM w vm m) (hmo:Kx.bW m=true) (h:bV w v l) (h12:l.length=12) (hr:dK w u r) (hk:kind=2∨kind=3) (hf:f<12):Calls Tryz.prog 134 #[vm,v,.int .i64 f,.int .i64 kind,u] w fun e w'=>e=.returned (.bool (Kx.rowOk m l f kind r))∧Below w.heap.size w w':=by
 obtain ⟨a,cap,rfl,_,_⟩:=RS.val h;obtain ⟨_,a2,cap2,rfl,_,_⟩:=hm.len;have h4:=af (mem_row hmo hf).2.1;have kX:=af (mem_row hmo hf).1;have H:=af h;have Hm:=af hm;have Hr:=af hr;have fJ:=af h12;have Hk:=af hk;clear h hm hr hk h12;have HT:=af (show (∀ j,j<4→Kx.gK l f (Kx.word m f j) kind r=true)→Kx.rowOk m l f kind r=true from fun hall=>by
  unfold Kx.rowOk;rw [List.all_eq_true];intro x hx;obtain ⟨j,hj,rfl⟩:=Kx.Lh hx;exact hall j (by rw [h4.out] at hj;exact hj)
 )
 have HB:=af (show ∀ k,k<4→Kx.gK l f (Kx.word m f k) kind r=false→Kx.rowOk m l f kind r=false from fun k hk hq=>by
  unfold Kx.rowOk;rw [List.all_eq_false];exact ⟨_,Kx.getD_mem (by rw [h4.out];exact hk),by unfold Kx.word at hq;rw [hq];simp⟩
 )
 go_enter Tryz.func134,Tryz.ntmps134;go_wp2_with fail;go_loopw [11] (fun i wr=>∃ k:Nat,i=.int .i64 k∧k≤4∧Hid (∀ j,j<k→Kx.gK l f (Kx.word m f j) kind r=true)∧Hid (Below w.heap.size w wr)) (fun i _=>4 - (intOf i).toNat)
 case atStart=>exact ⟨0,rfl,Nat.zero_le _,fun j hj=>absurd hj (Nat.not_lt_zero _),Below.refl _ _⟩
 case round =>
  obtain ⟨k,rfl,hk,hall,hb⟩:=hrel
  by_cases hlt:k<4
  ·have kQ:(k:Int)<((4:Nat):Int):=by omega
   obtain ⟨b,off,cap3,b',off',cap',e,g1,g2,g3,g4⟩:=(Hm.out.below hb.out).word hmo hf hlt;rw [←kX.out] at e;simp only [Value.slice.injEq] at e;obtain ⟨rfl,_,rfl⟩:=e;have hfm:(f:Int)<(m.length:Int):=by rw [kX.out];omega
   have hk4:(k:Int)<4:=by omega
   cases hq:Kx.gK l f (Kx.word m f k) kind r with
   | false =>
    have HF:=af (HB.out k hlt hq);have Hq:=af hq;clear hq;generalize Kx.word m f k=x at g2 g3 g4 Hq;go_wp2_with fail;refine (zl l f x kind r _ _ _ (RS.below H.out hb.out) fJ.out (RS.below Hr.out hb.out) Hk.out).mono ?_;rintro e w1 ⟨rfl,rfl⟩;rw [Hq.out];have Hb1:=af hb.out;go_wp2_with fail;go_ret;exact ⟨ak HF.out.symm,Hb1.out⟩
   | true =>
    have Hn:=af (fF (P:=fun j=>Kx.gK l f (Kx.word m f j) kind r) hall.out hq)
    have Hq:=af hq;clear hq;generalize Kx.word m f k=x at g2 g3 g4 Hq;go_wp2_with fail;refine (zl l f x kind r _ _ _ (RS.below H.out hb.out) fJ.out (RS.below Hr.out hb.out) Hk.out).mono ?_;rintro e w1 ⟨rfl,rfl⟩;rw [Hq.out];have Hb1:=af hb.out;go_wp2_with fail;go_roundw
    case rel=>exact ⟨k+1,by go_num,by omega,Hn.out,Hb1.out⟩
    case measure=>simp [intOf];omega
  have hkn:k=4:=by omega
  subst hkn;have HF:=af (HT.out hall.out);go_wp2_with fail;go_ret;exact ⟨ak (by rw [HF.out]),hb.out⟩
theorem Below.bz {B:Nat} {a w:World} (h:Below B a w):Below B a w.drew:=⟨h.os,h.tape,h.output,h.size,h.block⟩
theorem grownBy_drew {a w:World} {r:Option Nat} (h:a.grownBy w r):a.grownBy w.drew r:=⟨h.os,h.tape,h.output,h.size,h.block⟩
def dL (F:Nat→Nat):List Int:=(List.range 12).map fun g=>(F g:Int)
theorem dH (F:Nat→Nat):(dL F).length=12:=by simp [dL]
theorem jP (F:Nat→Nat) (n:Nat) (h:n<(dL F).length):(dL F)[n]=(F n:Int):=by simp [dL]
theorem qY (F F':Nat→Nat) (n:Nat) (x:Int) (hx:x=(F' n:Int)) (h:∀ g,g≠n→F' g=F g):(dL F).set n x=dL F':=by
 refine List.ext_getElem (by simp [dL]) fun i h1 h2=>?_
 rw [List.getElem_set];split
 ·rename_i e;subst e;rw [jP,hx]
 rename_i e;rw [jP,jP,h i (Ne.symm e)]
theorem gU {F F':Nat→Nat} (h:∀ g,g<12→F g=F' g):dL F=dL F':=by
 unfold dL;exact List.map_congr_left fun g hg=>by rw [h g (by simpa using hg)]
def cnt (m:List (List Int)) (l:List Kx.aG) (f i g:Nat):Nat:=((List.range f).map (Kx.oW m l g)).sum+((Kx.ax (Kx.row m f)).take i).count g
theorem Ed (m:List (List Int)) (l:List Kx.aG) (g:Nat):cnt m l 0 0 g=0:=by simp [cnt]
theorem Ec (m:List (List Int)) (l:List Kx.aG) (f g:Nat) (ht:Kx.aX (Kx.inf l f).kind=true):cnt m l (f+1) 0 g=cnt m l f (Kx.ax (Kx.row m f)).length g:=by
 unfold cnt;rw [List.range_succ,List.map_append,List.sum_append,List.take_length];simp [Kx.oW,ht]
theorem Ee (m:List (List Int)) (l:List Kx.aG) (f g:Nat) (ht:Kx.aX (Kx.inf l f).kind=false):cnt m l (f+1) 0 g=cnt m l f 0 g:=by
 unfold cnt;rw [List.range_succ,List.map_append,List.sum_append];simp [Kx.oW,ht]
theorem Lj (m:List (List Int)) (l:List Kx.aG) (f i g:Nat) (hi:i<(Kx.ax (Kx.row m f)).length):cnt m l f (i+1) g=cnt m l f i g+if g=(Kx.ax (Kx.row m f))[i] then 1 else 0:=by
 unfold cnt;rw [List.take_succ_eq_append_getElem hi,List.count_append]
 by_cases h:g=(Kx.ax (Kx.row m f))[i]
 ·rw [if_pos h,h];simp;omega
 rw [if_neg h,List.count_singleton];have:((Kx.ax (Kx.row m f))[i]==g)=false:=by rw [beq_eq_false_iff_ne];exact Ne.symm h
 rw [this];simp
theorem cnt_le (m:List (List Int)) (l:List Kx.aG) (hm:∀ f,f<12→(Kx.row m f).length=4) (f i g:Nat) (hf:f≤12):cnt m l f i g≤4*f+i:=by
 unfold cnt;have h1:((List.range f).map (Kx.oW m l g)).sum≤f*4:=Kx.CB fun j hj=>by
  unfold Kx.oW;split
  ·exact Nat.le_trans (Kx.count_le _ _) (by rw [hm j (by omega)];omega)
  omega
 have h2:((Kx.ax (Kx.row m f)).take i).count g≤i:=Nat.le_trans List.count_le_length (List.length_take_le _ _);omega
theorem GG (m:List (List Int)) (l:List Kx.aG):dL (cnt m l 12 0)=Kx.counts m l:=by
 unfold dL Kx.counts;refine List.map_congr_left fun g hg=>?_
 rw [Kx.fV];unfold cnt;simp
theorem F8 (m:List (List Int)) (l:List Kx.aG) (vm v:Value) (w:World) (hm:RM w vm m) (hmo:Kx.bW m=true) (h:bV w v l) (h12:l.length=12) :
  Calls Tryz.prog 135 #[vm,v] w (mZ w (Kx.counts m l)):=by
 obtain ⟨a,cap,rfl,_,_⟩:=RS.val h;obtain ⟨_,a2,cap2,rfl,_,_⟩:=hm.len;have hrow4:=af (show ∀ f,f<12→(Kx.row m f).length=4 from fun f hf=>(mem_row hmo hf).2.1)
 have kX:=af (mem_row hmo (show 0<12 by omega)).1;have H:=af h;have Hm:=af hm;have fJ:=af h12;have Qy:=af (GG m l);have hmk:∀ w:World,(Instr.makeSlice 47 (.int .i64 12) (.int .i64 12)).run Tryz.prog w=.ok (.slice (some ⟨w.heap.size,0,none⟩) 12 12) (w.alloc (.cells #[.int .i64 0,.int .i64 0,.int .i64 0,.int .i64 0,.int .i64 0,.int .i64 0,.int .i64 0,.int .i64 0,.int .i64 0,.int .i64 0,.int .i64 0,.int .i64 0] 3)):=fun _=>by kernel_rfl
 have H0:=af (show OS iR 1 3 (w.alloc (.cells #[.int .i64 0,.int .i64 0,.int .i64 0,.int .i64 0,.int .i64 0,.int .i64 0,.int .i64 0,.int .i64 0,.int .i64 0,.int .i64 0,.int .i64 0,.int .i64 0] 3)) w.heap.size (.slice (some ⟨w.heap.size,0,none⟩) 12 12) (dL (cnt m l 0 0)) by
  have e:dL (cnt m l 0 0)=[0,0,0,0,0,0,0,0,0,0,0,0]:=by
   rw [gU (F':=fun _=>0) (fun g _=>Ed m l g)];rfl
  rw [e];exact OS.lit (l:=[0,0,0,0,0,0,0,0,0,0,0,0]) aW _ rfl rfl (by simp))
 clear h hm h12;go_enter Tryz.func135,Tryz.ntmps135;go_wp2_with fail;clear hmk;go_loopw [6,7,8] (fun i _ _ wr=>∃ f:Nat,i=.int .i64 f∧f≤12∧Hid (OS iR 1 3 wr w.heap.size (.slice (some ⟨w.heap.size,0,none⟩) 12 12) (dL (cnt m l f 0)))∧Hid (Below w.heap.size w wr)) (fun i _ _ _=>12 - (intOf i).toNat)
 case atStart=>exact ⟨0,rfl,Nat.zero_le _,H0.out,fZ.alloc aW _⟩
 case round =>
  clear H0;obtain ⟨f,rfl,hf,ho,hb⟩:=hrel
  by_cases hlt:f<12
  ·obtain ⟨b1,FI,cap1,u,e,hc,m_⟩:=(Hm.out.below hb.out).row hmo hlt;rw [←kX.out] at e;simp only [Value.slice.injEq] at e;obtain ⟨rfl,_,rfl⟩:=e;have hfm:(f:Int)<(m.length:Int):=by rw [kX.out];omega
   have Hr:=af m_;clear m_;go_wp2_with fail;refine (oC _ _ _ Hr.out).mono ?_;rintro e w1 ⟨u1,rfl,iV,hb4⟩;obtain ⟨ns,hns⟩:∃ ns,Kx.ax (Kx.row m f)=ns:=⟨_,rfl⟩;rw [hns] at iV;have Ul:=af (show ∀ x ∈ ns,x<12 by rw [←hns];exact fun x hx=>Kx.kE hx);have Um:=af (show ns.length≤4 by rw [←hns,←hrow4.out f hlt];unfold Kx.ax;exact List.length_filterMap_le _ _);have Qs:=af hns;have O_:=af (ho.out.below hb4);have Hb1:=af (hb.out.trans (hb4.mono hb.out.size));have OG:=af iV.os;have Un:=af (show Sep u1 (.slice (some ⟨w.heap.size,0,none⟩) 12 12) from Sep.later ho.out iV.os aW);obtain ⟨a3,cap3,rfl,_,_⟩:=OG.out.rs.val;obtain ⟨n,hn⟩:∃ n,(fU ns).length=n:=⟨_,rfl⟩;have Hn:=af hn;rw [hn] at OG Un ⊢;clear hns hb4 iV hn hc;go_wp2_with fail
   go_loopw [8] (fun i wq=>∃ j:Nat,i=.int .i64 j∧j≤n∧Hid (Kx.aX (Kx.inf l f).kind=false→j=0)∧Hid (OS iR 1 3 wq w.heap.size (.slice (some ⟨w.heap.size,0,none⟩) 12 12) (dL (cnt m l f j)))∧Hid (∃ b,OS iR 1 3 wq b (.slice a3 n cap3) (fU ns))∧Hid (Below w.heap.size w wq)) (fun i _=>n - (intOf i).toNat)
   case atStart=>exact ⟨0,rfl,Nat.zero_le _,fun _=>rfl,O_.out,⟨_,OG.out⟩,Hb1.out⟩
   case round =>
    clear O_ Hb1 OG ho hb Hr;obtain ⟨j,rfl,hj,hj0,ho,hnn,hb⟩:=hrel;obtain ⟨b5,XB,cap5,e,_,h1,h2,h3⟩:=bV.at (RS.below H.out hb.out) (k:=f) (by rw [fJ.out];exact hlt);simp only [Value.slice.injEq] at e;obtain ⟨rfl,_,rfl⟩:=e;have hfl:(f:Int)<(l.length:Int):=by rw [fJ.out];omega
    cases ht:Kx.aX (Kx.inf l f).kind with
    | false =>
     have XK:=hj0.out ht;subst XK;have GH:=af (show dL (cnt m l (f+1) 0)=dL (cnt m l f 0) from gU fun g _=>Ee m l f g ht)
     have Ht:=af ht;clear ht hj0;generalize Kx.inf l f=y at h1 h2 h3 Ht
     by_cases hn0:n=0
     ·have hb0:decide (0<n)=false:=by simp;omega
      clear hn0;go_wp2_with fail;go_roundw
      case rel=>exact ⟨f+1,by go_num,by omega,by show OS _ _ _ _ _ _ _;rw [GH.out];exact ho.out,hb.out⟩
      case measure=>simp [intOf];omega
     have hb0:decide (0<n)=true:=by simp;omega
     clear hn0;go_wp2_with fail;refine (gu _ _).mono ?_;rintro e w' ⟨rfl,rfl⟩;rw [Ht.out];go_wp2_with fail;go_roundw
     case rel=>exact ⟨f+1,by go_num,by omega,by show OS _ _ _ _ _ _ _;rw [GH.out];exact ho.out,hb.out⟩
     case measure=>simp [intOf];omega
    | true =>
     by_cases hjn:j<n
     ·obtain ⟨bb,QG⟩:=hnn.out;have hjl:j<ns.length:=by have:=Hn.out;rw [aQ] at this;omega
      have hj':j<(fU ns).length:=by rw [aQ];exact hjl
      obtain ⟨b3,TU,cap4,e,_,hc3⟩:=QG.rs.at hj';have hcx:=hc3 0 _ rfl;rw [Hn.out] at e;simp only [Value.slice.injEq] at e;obtain ⟨rfl,_,rfl⟩:=e;rw [nI ns j hj' hjl,Nat.mul_one,Nat.add_zero] at hcx;have sD:=Ul.out _ (List.getElem_mem hjl);have hstep:=af (show ∀ g,cnt m l f (j+1) g=cnt m l f j g+if g=ns[j] then 1 else 0 from fun g=>by
       have hns:=Qs.out;subst hns;exact Lj m l f j g hjl)
      have hle:=cnt_le m l hrow4.out f j ns[j] hf;have Hj4:=Um.out;generalize ns[j]=x at hcx sD hstep hle;obtain ⟨g,cap6,e,_,hcg,hfg⟩:=ho.out.oi.at (k:=x) (by rw [dH];exact sD);simp only [Value.slice.injEq,Option.some.injEq,Addr.mk.injEq] at e;obtain ⟨⟨rfl,_,_⟩,yc,rfl⟩:=e;clear yc;rw [jP] at hcg;have hset:=af (qY (cnt m l f j) (cnt m l f (j+1)) x ((cnt m l f j x:Int)+1) (by rw [hstep.out,if_pos rfl];omega) (fun g hg=>by rw [hstep.out,if_neg hg];rfl));have hst:=ho.out.oi.stored (dH _) x ((cnt m l f j x:Int)+1);rw [hset.out] at hst;have uh:=af hst.1;have JD:=af hst.2;have Hnn:=af QG;have Oa:(x:Int)<12:=by omega
      have MO:(cnt m l f j x:Int)≤1000:=by omega
      have Q5:(j:Int)<(n:Int):=by omega
      have hn4:(n:Int)≤4:=by have:=Hn.out;rw [aQ] at this;omega
      have abj:=af hb.out.size;have Ht:=af ht;clear hst hset hstep hle hc3 QG hnn Hj4 hj' hjl ht;generalize cnt m l f j x=q at hcg uh JD MO;generalize Kx.inf l f=y at h1 h2 h3 Ht hj0;go_wp2_with fail;refine (gu _ _).mono ?_;rintro e w' ⟨rfl,rfl⟩;rw [Ht.out];go_wp2_with fail;go_region
      all_goals
       go_wp2_with fail;go_roundw
       case rel =>
        refine ⟨j+1,by go_num,by omega,(fun h=>by cases h),uh.out.os,⟨bb,Hnn.out.kept (grownBy_drew JD.out) ?_⟩,Below.bz (hb.out.setCell (p:=⟨w.heap.size,x,none⟩) aW _)⟩;exact Un.out
       case measure=>simp [intOf];omega
     have XL:j=n:=by omega
     subst XL;have DW:=af (show dL (cnt m l (f+1) 0)=dL (cnt m l f j) from gU fun g _=>by
      rw [Ec m l f g ht,Qs.out];have:=Hn.out;rw [aQ] at this;rw [this])
     clear ht hj0;generalize Kx.inf l f=y at h1 h2 h3;go_wp2_with fail;go_roundw
     case rel=>exact ⟨f+1,by go_num,by omega,by show OS _ _ _ _ _ _ _;rw [DW.out];exact ho.out,hb.out⟩
     case measure=>simp [intOf];omega
  have:f=12:=by omega
  subst this;go_wp2_with fail;go_ret;exact ⟨_,rfl,by rw [←Qy.out];exact ho.out.oi,hb.out⟩
def kK (w:World) (b:Nat) (v0 v1 v2 v3:Value):Prop:=
 w.cell? ⟨b,0,none⟩=some v0∧w.cell? ⟨b,1,none⟩=some v1∧w.cell? ⟨b,2,none⟩=some v2∧w.cell? ⟨b,3,none⟩=some v3∧b<w.heap.size
theorem kK.new (w:World) (v0 v1 v2 v3:Value) (e:TypeId):kK (w.alloc (.cells #[v0,v1,v2,v3] e)) w.heap.size v0 v1 v2 v3:=by
 have h:(w.alloc (.cells #[v0,v1,v2,v3] e)).heap[w.heap.size]?=some (.cells #[v0,v1,v2,v3] e (0,0)):=heap_alloc_new w _;exact ⟨cell_of_row _ _ 0 _ _ _ h,cell_of_row _ _ 1 _ _ _ h,cell_of_row _ _ 2 _ _ _ h,cell_of_row _ _ 3 _ _ _ h,by simp⟩
theorem kK.below {w w':World} {b:Nat} {v0 v1 v2 v3:Value} (h:kK w b v0 v1 v2 v3) (hb:Below w.heap.size w w'):kK w' b v0 v1 v2 v3:=
 ⟨(hb.cell (p:=⟨b,0,none⟩) h.2.2.2.2).trans h.1,(hb.cell (p:=⟨b,1,none⟩) h.2.2.2.2).trans h.2.1,(hb.cell (p:=⟨b,2,none⟩) h.2.2.2.2).trans h.2.2.1,(hb.cell (p:=⟨b,3,none⟩) h.2.2.2.2).trans h.2.2.2.1,Nat.lt_of_lt_of_le h.2.2.2.2 hb.size⟩
theorem Below.lit {a w:World} (h:Below a.heap.size a w) (o:Obj):Below a.heap.size a (w.alloc o):=h.alloc h.size o
theorem DJ (k:Kx.Kernel) (vm vi ve vc:Value) (w:World) (h:RK w vm vi ve vc k) (hmo:Kx.bW k.mem=true) (jI:k.ag.length=12) :
  Calls Tryz.prog 77 #[.agg #[vm,vi,ve,vc]] w fun e w'=>e=.returned (.bool (Kx.mD k))∧Below w.heap.size w w':=by
 obtain ⟨w0,hw0⟩:∃ w0,w.alloc (.cells #[vm,vi,ve,vc] 36)=w0:=⟨_,rfl⟩;have dB:=af (show Below w.heap.size w w0 from hw0 ▸ (Below.refl w.heap.size w).alloc aW _);have jF:=af (show kK w0 w.heap.size vm vi ve vc from hw0 ▸ kK.new w vm vi ve vc _);have HK:=af (h.below dB.out);obtain ⟨ai,ci,rfl,_,_⟩:=RS.val h.i;have nM:=af jI;clear h jI;go_enter Tryz.func77,Tryz.ntmps77;go_wp2_with fail;clear hw0;go_loopw [3] (fun i wr=>∃ f:Nat,i=.int .i64 f∧f≤12∧Hid (∀ j,j<f→(!Kx.aX (Kx.inf k.ag j).kind||Kx.rowOk k.mem k.ag j (Kx.inf k.ag j).kind [ByteArray.empty])=true)∧Hid (Below w0.heap.size w0 wr)) (fun i _=>12 - (intOf i).toNat)
 case atStart=>exact ⟨0,rfl,Nat.zero_le _,fun j hj=>absurd hj (Nat.not_lt_zero _),Below.refl _ _⟩
 case round =>
  obtain ⟨f,rfl,hf,hall,hb⟩:=hrel
  by_cases hlt:f<12
  ·obtain ⟨k0,k1,k2,k3,hbl⟩:=jF.out.below hb.out;obtain ⟨b,off,cap,e,hbb,h1,h2,h3⟩:=bV.at (RS.below HK.out.i hb.out) (k:=f) (by rw [nM.out];exact hlt);simp only [Value.slice.injEq] at e;obtain ⟨rfl,_,rfl⟩:=e;have hfl:(f:Int)<(k.ag.length:Int):=by rw [nM.out];omega
   clear k2 k3 h2 h3
   cases ht:Kx.aX (Kx.inf k.ag f).kind with
   | false =>
    have Hn:=af (fF (P:=fun j=>!Kx.aX (Kx.inf k.ag j).kind||Kx.rowOk k.mem k.ag j (Kx.inf k.ag j).kind [ByteArray.empty]) hall.out (by simp only [ht];rfl))
    have Ht:=af ht;clear ht;generalize Kx.inf k.ag f=y at h1 Ht;go_wp2_with fail;go_quiet ((go_at_call 133;exact Calls.quiet_of_same ((gu _ _).mono fun _ _ ⟨he,hw⟩=>⟨by rw [he,Ht.out],hw.symm⟩)))
    go_wp2_with fail;go_roundw
    case rel=>exact ⟨f+1,by go_num,by omega,Hn.out,⟨hb.out.os,hb.out.tape,hb.out.output,hb.out.size,hb.out.block⟩⟩
    case measure=>simp [intOf];omega
   | true =>
    have hkd:=af (Kx.dF.1 ht);have ND:=af hbl;have S_:=af hbb;have ik:=af (show ∀ wz,Below wr.heap.size wr wz→(wz.cell? ⟨w.heap.size,0,none⟩=some vm∧wz.cell? ⟨w.heap.size,1,none⟩=some (.slice (some ⟨b,off,none⟩) k.ag.length ci)∧wz.cell? ⟨b,off+f*3,none⟩=some (.int .i64 (Kx.inf k.ag f).kind)) from fun wz hz =>
     ⟨(hz.cell (p:=⟨w.heap.size,0,none⟩) hbl).trans k0,(hz.cell (p:=⟨w.heap.size,1,none⟩) hbl).trans k1,(hz.cell (p:=⟨b,off+f*3,none⟩) hbb).trans h1⟩)
    cases hq:Kx.rowOk k.mem k.ag f (Kx.inf k.ag f).kind [ByteArray.empty] with
    | false =>
     have HF:=af (show Kx.mD k=false by
      unfold Kx.mD;rw [List.all_eq_false];exact ⟨f,by simpa using hlt,by rw [ht,hq];simp⟩)
     have Hq:=af hq;have Ht:=af ht;clear ht hq hbl hbb;generalize Kx.inf k.ag f=y at h1 Ht Hq ik hkd;obtain ⟨W1,hW1⟩:∃ W1,(wr.alloc (.cells #[.string ByteArray.empty] 9)).drew=W1:=⟨_,rfl⟩;have B1:=af (show Below wr.heap.size wr W1 from hW1 ▸ Below.bz (dm));have M1:=af (HK.out.m.below (hb.out.trans (B1.out.mono hb.out.size)));have I1:=af (RS.below HK.out.i (hb.out.trans (B1.out.mono hb.out.size)));have S1:=af (show dK W1 (.slice (some ⟨wr.heap.size,0,none⟩) 1 1) [ByteArray.empty] from hW1 ▸ RS.one (f:=df) (sz:=1) ByteArray.empty #[.string ByteArray.empty] rfl wr 9);have hW1':(wr.alloc (.cells #[.string ⟨#[]⟩] 9)).drew=W1:=hW1;have XM:=ik.out W1 B1.out;clear hW1;go_wp2_with fail;go_region_held3 (fun wz=>wz.cell? ⟨w.heap.size,0,none⟩=some vm∧wz.cell? ⟨w.heap.size,1,none⟩=some (.slice (some ⟨b,off,none⟩) k.ag.length ci)∧wz.cell? ⟨b,off+f*3,none⟩=some (.int .i64 y.kind))
      (first | assumption | go_keep)
      (first
       | (go_at_call 133;refine (gu _ _).mono ?_;rintro e w' ⟨rfl,rfl⟩;rw [Ht.out])
       | (go_at_call 134;refine (BQ k.mem k.ag f y.kind [ByteArray.empty] _ _ _ _ M1.out hmo I1.out nM.out S1.out hkd.out hlt).mono ?_;rintro e w2 ⟨rfl,hb2⟩;rw [Hq.out];have hb3:=B1.out.trans (hb2.mono B1.out.size);have hc3:=ik.out w2 hb3))
     have Hb1:=af (hb.out.trans (hb3.mono hb.out.size));clear hb2 hb3 hc3 hW1' XM;go_wp2_with fail;go_ret;exact ⟨ak HF.out.symm,dB.out.trans (Hb1.out.mono dB.out.size)⟩
    | true =>
     have Hn:=af (fF (P:=fun j=>!Kx.aX (Kx.inf k.ag j).kind||Kx.rowOk k.mem k.ag j (Kx.inf k.ag j).kind [ByteArray.empty]) hall.out (by simp only [hq];simp))
     have Hq:=af hq;have Ht:=af ht;clear ht hq hbl hbb;generalize Kx.inf k.ag f=y at h1 Ht Hq ik hkd;obtain ⟨W1,hW1⟩:∃ W1,(wr.alloc (.cells #[.string ByteArray.empty] 9)).drew=W1:=⟨_,rfl⟩;have B1:=af (show Below wr.heap.size wr W1 from hW1 ▸ Below.bz (dm));have M1:=af (HK.out.m.below (hb.out.trans (B1.out.mono hb.out.size)));have I1:=af (RS.below HK.out.i (hb.out.trans (B1.out.mono hb.out.size)));have S1:=af (show dK W1 (.slice (some ⟨wr.heap.size,0,none⟩) 1 1) [ByteArray.empty] from hW1 ▸ RS.one (f:=df) (sz:=1) ByteArray.empty #[.string ByteArray.empty] rfl wr 9);have hW1':(wr.alloc (.cells #[.string ⟨#[]⟩] 9)).drew=W1:=hW1;have XM:=ik.out W1 B1.out;clear hW1;go_wp2_with fail;go_region_held3 (fun wz=>wz.cell? ⟨w.heap.size,0,none⟩=some vm∧wz.cell? ⟨w.heap.size,1,none⟩=some (.slice (some ⟨b,off,none⟩) k.ag.length ci)∧wz.cell? ⟨b,off+f*3,none⟩=some (.int .i64 y.kind))
      (first | assumption | go_keep)
      (first
       | (go_at_call 133;refine (gu _ _).mono ?_;rintro e w' ⟨rfl,rfl⟩;rw [Ht.out])
       | (go_at_call 134;refine (BQ k.mem k.ag f y.kind [ByteArray.empty] _ _ _ _ M1.out hmo I1.out nM.out S1.out hkd.out hlt).mono ?_;rintro e w2 ⟨rfl,hb2⟩;rw [Hq.out];have hb3:=B1.out.trans (hb2.mono B1.out.size);have hc3:=ik.out w2 hb3))
     have Hb1:=af (hb.out.trans (hb3.mono hb.out.size));clear hb2 hb3 hc3 hW1' XM;go_wp2_with fail;go_roundw
     case rel=>exact ⟨f+1,by go_num,by omega,Hn.out,Hb1.out⟩
     case measure=>simp [intOf];omega
  have:f=12:=by omega
  subst this;have HF:=af (show Kx.mD k=true by unfold Kx.mD;rw [List.all_eq_true];exact fun f hf=>hall.out f (by simpa using hf))
  go_wp2_with fail;go_ret;exact ⟨ak HF.out.symm,dB.out.trans (hb.out.mono dB.out.size)⟩
def lT (k:Kx.Kernel) (e g:Nat):Nat:=Kx.gI k.mem k.ag g+Kx.eF (k.ah.take e) g
theorem I4 (k:Kx.Kernel):dL (lT k 0)=Kx.counts k.mem k.ag:=by
 unfold dL Kx.counts;refine List.map_congr_left fun g _=>?_
 simp [lT,Kx.eF]
theorem I5 (k:Kx.Kernel) (e g:Nat) (h:e<k.ah.length):lT k (e+1) g=lT k e g+if (Kx.au k.ah e).root=(g:Int) then 1 else 0:=by
 unfold lT Kx.eF;rw [List.take_succ_eq_append_getElem h,List.countP_append];have:k.ah[e]=Kx.au k.ah e:=by simp [Kx.au,h]
 rw [this]
 by_cases hg:(Kx.au k.ah e).root=(g:Int)
 ·simp [hg];omega
 simp [hg]
theorem NK (k:Kx.Kernel) (hm:Kx.bW k.mem=true) (e g:Nat):lT k e g≤48+e:=by
 unfold lT;have h1:Kx.gI k.mem k.ag g≤48:=by
  have:=cnt_le k.mem k.ag (fun f hf=>(mem_row hm hf).2.1) 12 0 g aW
  have e:Kx.gI k.mem k.ag g=cnt k.mem k.ag 12 0 g:=by rw [Kx.fV];simp [cnt]
  omega
 have h2:Kx.eF (k.ah.take e) g≤e:=Nat.le_trans List.countP_le_length (List.length_take_le _ _);omega
theorem HY (k:Kx.Kernel) (vm vi ve vc:Value) (w:World) (h:RK w vm vi ve vc k) (hmo:Kx.bW k.mem=true) (jI:k.ag.length=12) (hen:k.ah.length≤1000) (hro:∀ e,e<k.ah.length→(Kx.au k.ah e).root≤11) :
  Calls Tryz.prog 78 #[.agg #[vm,vi,ve,vc]] w fun e w'=>e=.returned (.bool (Kx.mF k))∧Below w.heap.size w w':=by
 obtain ⟨w0,hw0⟩:∃ w0,w.alloc (.cells #[vm,vi,ve,vc] 36)=w0:=⟨_,rfl⟩;have dB:=af (show Below w.heap.size w w0 from hw0 ▸ (Below.refl w.heap.size w).alloc aW _);have jF:=af (show kK w0 w.heap.size vm vi ve vc from hw0 ▸ kK.new w vm vi ve vc _);have HK:=af (h.below dB.out);obtain ⟨ai,ci,rfl,_,_⟩:=RS.val h.i;obtain ⟨_,ae,ce,rfl,_,_⟩:=h.e.len;obtain ⟨ne,hne⟩:∃ ne,k.ah.length=ne:=⟨_,rfl⟩;have nM:=af jI;have mW:=af hro;have xQ:=af hne;rw [hne] at jF HK hen hw0 ⊢;clear h jI hro hne;obtain ⟨k0,k1,k2,k3,hbl⟩:=jF.out;have ND:=af hbl;go_enter Tryz.func78,Tryz.ntmps78;go_wp2_with fail;clear hw0;refine (F8 k.mem k.ag _ _ _ HK.out.m hmo HK.out.i nM.out).mono ?_;rintro e w1 ⟨u1,rfl,ho,hb⟩;have Hb1:=af hb;rw [←I4] at ho;have Ho:=af ho;obtain ⟨gc,cc,rfl,hgc,_,_⟩:=ho.at (k:=0) (by rw [dH];omega);rw [dH] at Ho ⊢;have Hgc:=af hgc
 clear ho hb hgc k0 k1 k2 k3 hbl;go_wp2_with fail;go_loopw [4] (fun i wr=>∃ e:Nat,i=.int .i64 e∧e≤ne∧Hid (OI wr w0.heap.size (.slice (some ⟨gc,0,none⟩) 12 cc) (dL (lT k e)))∧Hid (Below w0.heap.size w0 wr)) (fun i _=>ne - (intOf i).toNat)
 case atStart=>exact ⟨0,rfl,Nat.zero_le _,Ho.out,Hb1.out⟩
 case round =>
  clear Ho Hb1;obtain ⟨e,rfl,he,ho,hb⟩:=hrel;obtain ⟨k0,k1,k2,k3,hbl⟩:=jF.out.below hb.out
  by_cases hlt:e<ne
  ·have hlt':e<k.ah.length:=by rw [xQ.out];exact hlt
   obtain ⟨b,off,cap,u,ev,hbb,h1,h2,_⟩:=(HK.out.e.below hb.out).at hlt';rw [xQ.out] at ev;simp only [Value.slice.injEq] at ev;obtain ⟨rfl,_,rfl⟩:=ev;have hel:(e:Int)<(ne:Int):=by omega
   have hstep:=af (I5 k e · hlt');have lL:=mW.out e hlt';have hle:=af (NK k hmo e);generalize (Kx.au k.ah e).root=r at h2 hstep lL
   by_cases hr0:0≤r
   ·obtain ⟨x,rfl⟩:=Int.eq_ofNat_of_zero_le hr0;have sD:x<12:=by omega
    obtain ⟨g,cap6,ev,_,hcg,hfg⟩:=ho.out.at (k:=x) (by rw [dH];exact sD);simp only [Value.slice.injEq,Option.some.injEq,Addr.mk.injEq] at ev;obtain ⟨⟨rfl,_,_⟩,yc,rfl⟩:=ev;clear yc;rw [jP] at hcg;have hset:=af (qY (lT k e) (lT k (e+1)) x ((lT k e x:Int)+1) (by rw [hstep.out,if_pos rfl];omega) (fun g hg=>by rw [hstep.out,if_neg (by omega)];rfl))
    have hst:=ho.out.stored (dH _) x ((lT k e x:Int)+1);rw [hset.out] at hst;have uh:=af hst.1;have Oa:(x:Int)<12:=by omega
    have MO:(lT k e x:Int)≤2000:=by have:=hle.out x;omega
    clear hst hset lL hle hstep;generalize lT k e x=q at hcg uh MO;go_wp2_with fail;go_region
    all_goals
     go_wp2_with fail;go_roundw
     case rel=>exact ⟨e+1,by go_num,by omega,uh.out.drewN 1,Below.bz (hb.out.setCell (p:=⟨gc,x,none⟩) Hgc.out _)⟩
     case measure=>simp [intOf];omega
   have hst:=af (show dL (lT k (e+1))=dL (lT k e) from gU fun g _=>by rw [hstep.out,if_neg (by omega)];rfl)
   clear lL hle hstep;go_wp2_with fail;go_roundw
   case rel=>exact ⟨e+1,by go_num,by omega,by show OI _ _ _ _;rw [hst.out];exact ho.out,hb.out⟩
   case measure=>simp [intOf];omega
  have hen':e=ne:=by omega
  subst hen';have hall:=af (show ∀ g,lT k e g=Kx.gI k.mem k.ag g+Kx.eF k.ah g from fun g=>by unfold lT;rw [←xQ.out,List.take_length]);go_wp2_with fail;clear k0 k1 k2 k3 hbl;go_loopw [5] (fun i wq=>∃ f:Nat,i=.int .i64 f∧f≤12∧Hid (∀ j,j<f→(Kx.inf k.ag j).refs=(lT k e j:Int))∧Hid (OI wq w0.heap.size (.slice (some ⟨gc,0,none⟩) 12 cc) (dL (lT k e)))∧Hid (Below w0.heap.size w0 wq)) (fun i _=>12 - (intOf i).toNat)
  case atStart=>exact ⟨0,rfl,Nat.zero_le _,fun j hj=>absurd hj (Nat.not_lt_zero _),ho.out,hb.out⟩
  case round =>
   clear ho hb;obtain ⟨f,rfl,hf,hq,ho,hb⟩:=hrel
   by_cases hlt2:f<12
   ·obtain ⟨k0,k1,k2,k3,hbl⟩:=jF.out.below hb.out;obtain ⟨b,off,cap,ev,hbb,h1,h2,h3⟩:=bV.at (RS.below HK.out.i hb.out) (k:=f) (by rw [nM.out];exact hlt2);simp only [Value.slice.injEq] at ev;obtain ⟨rfl,_,rfl⟩:=ev;have hfl:(f:Int)<(k.ag.length:Int):=by rw [nM.out];omega
    have dG:(f:Int)<12:=by omega
    obtain ⟨g,cap6,ev,_,hcg,hfg⟩:=ho.out.at (k:=f) (by rw [dH];exact hlt2);simp only [Value.slice.injEq,Option.some.injEq,Addr.mk.injEq] at ev;obtain ⟨⟨rfl,_,_⟩,yc,rfl⟩:=ev;clear yc;rw [jP] at hcg
    by_cases heq:(Kx.inf k.ag f).refs=(lT k e f:Int)
    ·have hnb:((Kx.inf k.ag f).refs != (lT k e f:Int))=false:=by simpa using heq
     have Hn:=af (show ∀ j,j<f+1→(Kx.inf k.ag j).refs=(lT k e j:Int) from fun j hj=>by
      by_cases e:j=f
      ·subst e;exact heq
      exact hq.out j (by omega))
     clear heq;generalize (Kx.inf k.ag f).refs=x at h3 hnb;generalize lT k e f=y at hcg hnb;go_wp2_with fail;go_quiet (fail);go_wp2_with fail;go_roundw
     case rel=>exact ⟨f+1,by go_num,by omega,Hn.out,ho.out.drewN _,⟨hb.out.os,hb.out.tape,hb.out.output,hb.out.size,hb.out.block⟩⟩
     case measure=>simp [intOf];omega
    have hnb:((Kx.inf k.ag f).refs != (lT k e f:Int))=true:=by simpa using heq
    have HF:=af (show Kx.mF k=false by
     unfold Kx.mF;rw [List.all_eq_false];exact ⟨f,by simpa using hlt2,by rw [←hall.out];simpa using heq⟩)
    clear heq;generalize (Kx.inf k.ag f).refs=x at h3 hnb;generalize lT k e f=y at hcg hnb;go_wp2_with fail;go_quiet (fail);go_wp2_with fail;go_ret;exact ⟨ak HF.out.symm,dB.out.trans (Below.mono (w:=w0) ⟨hb.out.os,hb.out.tape,hb.out.output,hb.out.size,hb.out.block⟩ dB.out.size)⟩
   have:f=12:=by omega
   subst this;have HF:=af (show Kx.mF k=true by
    unfold Kx.mF;rw [List.all_eq_true];intro g hg;have:=hq.out g (by simpa using hg);rw [hall.out] at this;simpa using this)
   go_wp2_with fail;go_ret;exact ⟨ak HF.out.symm,dB.out.trans (hb.out.mono dB.out.size)⟩
end Go.Proofs.YtliebkfligagnaaGreatDoor
