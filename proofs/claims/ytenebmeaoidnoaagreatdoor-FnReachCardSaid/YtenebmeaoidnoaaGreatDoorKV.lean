/- KBase, KW1, KW2, KApp, KW3, KW4, KW5, KW6, KW6b, KW7, KW8, KW9, KW10, joined. -/
import Derived.Test.YtenebmeaoidnoaaGreatDoorWalkA
import Derived.Test.YtenebmeaoidnoaaGreatDoorKK
import Derived.Test.YtenebmeaoidnoaaGreatDoorKY
import Derived.Maps.AppendAt
import Derived.Deep.RegionHeld3
import Derived.Deep.AppendLies
import Derived.Lib.Strings
import Derived.RegionTactic
import Derived.ChangeAlike
namespace Go.Proofs.YtenebmeaoidnoaaGreatDoor
open Go.RowKit
/-- The slice value v reads as l in w; an element takes the cells f of it. -/
def RS {α:Type} (f:α→List Value) (sz:Nat) (w:World) (v:Value) (l:List α):Prop:=
  l.length≤1099511627776∧((l=[]∧∃ a cap,v=.slice a 0 cap∧cap≤maxLen∧(a=none→cap=0)) ∨
    ∃ b off cap,v=.slice (some ⟨b,off,none⟩) l.length cap∧l.length≤cap∧cap≤maxLen∧b<w.heap.size∧∀ k (h:k<l.length) j u,(f l[k])[j]?=some u→w.cell? ⟨b,off+k*sz+j,none⟩=some u)
section
variable {α:Type} {f:α→List Value} {sz:Nat} {w w':World} {v:Value} {l:List α}
theorem RS.val (h:RS f sz w v l):∃ a cap,v=.slice a l.length cap∧l.length≤cap∧cap≤maxLen:=by
  rcases h.2 with ⟨rfl,a,cap,rfl,hc,_⟩ | ⟨b,off,cap,rfl,h1,h2,_⟩
  · exact ⟨a,cap,rfl,Nat.zero_le _,hc⟩
  · exact ⟨_,cap,rfl,h1,h2⟩
theorem RS.at (h:RS f sz w v l) {k:Nat} (hk:k<l.length) :
    ∃ b off cap,v=.slice (some ⟨b,off,none⟩) l.length cap∧b<w.heap.size∧∀ j u,(f l[k])[j]?=some u→w.cell? ⟨b,off+k*sz+j,none⟩=some u:=by
  rcases h.2 with ⟨rfl,a,cap,rfl,_⟩ | ⟨b,off,cap,rfl,_,_,hb,hc⟩
  · simp at hk
  · exact ⟨b,off,cap,rfl,hb,hc k hk⟩
theorem RS.below (h:RS f sz w v l) (hb:Below w.heap.size w w'):RS f sz w' v l:=by
  refine ⟨h.1,?_⟩;rcases h.2 with ⟨rfl,a,cap,rfl,hn⟩ | ⟨b,off,cap,rfl,h1,h2,hlt,hc⟩
  · exact .inl ⟨rfl,a,cap,rfl,hn⟩
  · exact .inr ⟨b,off,cap,rfl,h1,h2,Nat.lt_of_lt_of_le hlt hb.size,fun k hk j u hu=>(hb.cell (p:=⟨b,off+k*sz+j,none⟩) hlt).trans (hc k hk j u hu)⟩
theorem RS.len (h:RS f sz w v l) {a:Option Addr} {n cap:Nat} (hv:v=.slice a n cap):n=l.length∧n≤cap∧cap≤maxLen:=by
  obtain ⟨a',cap',e,h1,h2⟩:=h.val;rw [hv] at e;simp only [Value.slice.injEq] at e;obtain ⟨_,rfl,rfl⟩:=e;exact ⟨rfl,h1,h2⟩
end
/-- below, seen from an elder world -/
theorem Below.up {B:Nat} {w w':World} (h:Below B w w') (hb:B=w.heap.size):Below w.heap.size w w':=hb ▸ h
def intC (x:Int):List Value:=[.int .i64 x]
def strC (s:Kx.Str):List Value:=[.string s]
def valC (v:Value):List Value:=[v]
def infoC (x:Kx.Info):List Value:=[.int .i64 x.kind,.string x.guard,.int .i64 x.refs]
def envC (x:Value×Int):List Value:=[x.1,.int .i64 x.2]
def cachedC (x:Kx.Cached):List Value:=[.int .i64 x.env,.int .i64 x.page,.int .i64 x.frame,.bool x.write]
def pageC (x:Kx.Page):List Value:=[.int .i64 x.wh,.int .i64 x.at_,.bool x.used]
def callC (x:Kx.Call):List Value:=[.int .i64 x.kind,.int .i64 x.env,.int .i64 x.a,.int .i64 x.b,.int .i64 x.c,.string x.name]
def RStr:=RS strC 1
def RInfo:=RS infoC 3
def RCached:=RS cachedC 4
def RPage:=RS pageC 3
def RCall:=RS callC 6
/-- a slice of slices of integers -/
def RM (w:World) (v:Value) (m:List (List Int)):Prop:=∃ vs:List Value,vs.length=m.length∧RS valC 1 w v vs∧∀ i (h:i<vs.length) (h':i<m.length),RI w vs[i] m[i]
/-- environments -/
def REnv (w:World) (v:Value) (es:List Kx.Env):Prop:=∃ ps:List (Value×Int),ps.length=es.length∧RS envC 2 w v ps∧∀ i (h:i<ps.length) (h':i<es.length),ps[i].2=es[i].root∧RStr w ps[i].1 es[i].rights
structure RK (w:World) (vm vi ve vc:Value) (k:Kx.Kernel):Prop where
  m:RM w vm k.mem
  i:RInfo w vi k.infos
  e:REnv w ve k.envs
  c:RCached w vc k.cache
theorem RI.rs {w:World} {v:Value} {xs:List Int} (h:RS intC 1 w v xs):RI w v xs:=by
  refine ⟨h.1,?_⟩;rcases h.2 with ⟨rfl,a,cap,rfl,_,hn⟩ | ⟨b,off,cap,rfl,_,_,hlt,hc⟩
  · exact .inl ⟨rfl,a,cap,rfl,hn⟩
  · exact .inr ⟨b,off,cap,rfl,hlt,fun i hi=>by have:=hc i hi 0 _ rfl;simpa using this⟩
theorem RM.below {w w':World} {v:Value} {m:List (List Int)} (h:RM w v m) (hb:Below w.heap.size w w'):RM w' v m:=by
  obtain ⟨vs,hl,hs,hr⟩:=h;exact ⟨vs,hl,hs.below hb,fun i h h'=>(hr i h h').below hb⟩
theorem REnv.below {w w':World} {v:Value} {m:List Kx.Env} (h:REnv w v m) (hb:Below w.heap.size w w'):REnv w' v m:=by
  obtain ⟨vs,hl,hs,hr⟩:=h;exact ⟨vs,hl,hs.below hb,fun i h h'=>⟨(hr i h h').1,RS.below (hr i h h').2 hb⟩⟩
theorem RK.below {w w':World} {vm vi ve vc:Value} {k:Kx.Kernel} (h:RK w vm vi ve vc k) (hb:Below w.heap.size w w'):RK w' vm vi ve vc k:=
  ⟨h.m.below hb,RS.below h.i hb,h.e.below hb,RS.below h.c hb⟩
theorem RM.len {w:World} {v:Value} {m:List (List Int)} (h:RM w v m):m.length≤1099511627776∧∃ a cap,v=.slice a m.length cap∧m.length≤cap∧cap≤maxLen:=by
  obtain ⟨vs,hl,hs,_⟩:=h;have:=hs.val;rw [hl] at this;exact ⟨by rw [←hl];exact hs.1,this⟩
theorem RM.at {w:World} {v:Value} {m:List (List Int)} (h:RM w v m) {k:Nat} (hk:k<m.length) :
    ∃ b off cap u,v=.slice (some ⟨b,off,none⟩) m.length cap∧b<w.heap.size∧w.cell? ⟨b,off+k,none⟩=some u∧RI w u (Kx.row m k):=by
  obtain ⟨vs,hl,hs,hr⟩:=h;have hk':k<vs.length:=by omega
  obtain ⟨b,off,cap,e,hb,hc⟩:=hs.at hk';rw [hl] at e;refine ⟨b,off,cap,vs[k],e,hb,by have:=hc 0 _ rfl;simpa using this,?_⟩;have:=hr k hk' hk;simpa [Kx.row,hk] using this
theorem REnv.len {w:World} {v:Value} {m:List Kx.Env} (h:REnv w v m):m.length≤1099511627776∧∃ a cap,v=.slice a m.length cap∧m.length≤cap∧cap≤maxLen:=by
  obtain ⟨vs,hl,hs,_⟩:=h;have:=hs.val;rw [hl] at this;exact ⟨by rw [←hl];exact hs.1,this⟩
theorem REnv.at {w:World} {v:Value} {m:List Kx.Env} (h:REnv w v m) {k:Nat} (hk:k<m.length) :
    ∃ b off cap u,v=.slice (some ⟨b,off,none⟩) m.length cap∧b<w.heap.size∧w.cell? ⟨b,off+k*2,none⟩=some u∧w.cell? ⟨b,off+k*2+1,none⟩=some (.int .i64 (Kx.envAt m k).root)∧RStr w u (Kx.envAt m k).rights:=by
  obtain ⟨vs,hl,hs,hr⟩:=h;have hk':k<vs.length:=by omega
  obtain ⟨b,off,cap,e,hb,hc⟩:=hs.at hk';rw [hl] at e;have h1:=hr k hk' hk;have e2:Kx.envAt m k=m[k]:=by simp [Kx.envAt,hk]
  rw [e2];exact ⟨b,off,cap,vs[k].1,e,hb,hc 0 _ rfl,by rw [←h1.1];exact hc 1 _ rfl,h1.2⟩
theorem RInfo.at {w:World} {v:Value} {m:List Kx.Info} (h:RInfo w v m) {k:Nat} (hk:k<m.length) :
    ∃ b off cap,v=.slice (some ⟨b,off,none⟩) m.length cap∧b<w.heap.size∧w.cell? ⟨b,off+k*3,none⟩=some (.int .i64 (Kx.inf m k).kind)∧w.cell? ⟨b,off+k*3+1,none⟩=some (.string (Kx.inf m k).guard)∧w.cell? ⟨b,off+k*3+2,none⟩=some (.int .i64 (Kx.inf m k).refs):=by
  obtain ⟨b,off,cap,e,hb,hc⟩:=RS.at h hk;have e2:Kx.inf m k=m[k]:=by simp [Kx.inf,hk]
  rw [e2];exact ⟨b,off,cap,e,hb,hc 0 _ rfl,hc 1 _ rfl,hc 2 _ rfl⟩
theorem RCached.at {w:World} {v:Value} {m:List Kx.Cached} (h:RCached w v m) {k:Nat} (hk:k<m.length) :
    ∃ b off cap,v=.slice (some ⟨b,off,none⟩) m.length cap∧b<w.heap.size∧w.cell? ⟨b,off+k*4,none⟩=some (.int .i64 (m.getD k Kx.Cached.zero).env)∧w.cell? ⟨b,off+k*4+1,none⟩=some (.int .i64 (m.getD k Kx.Cached.zero).page) ∧
      w.cell? ⟨b,off+k*4+2,none⟩=some (.int .i64 (m.getD k Kx.Cached.zero).frame)∧w.cell? ⟨b,off+k*4+3,none⟩=some (.bool (m.getD k Kx.Cached.zero).write):=by
  obtain ⟨b,off,cap,e,hb,hc⟩:=RS.at h hk;have e2:m.getD k Kx.Cached.zero=m[k]:=by simp [hk]
  rw [e2];exact ⟨b,off,cap,e,hb,hc 0 _ rfl,hc 1 _ rfl,hc 2 _ rfl,hc 3 _ rfl⟩
theorem RPage.at {w:World} {v:Value} {m:List Kx.Page} (h:RPage w v m) {k:Nat} (hk:k<m.length) :
    ∃ b off cap,v=.slice (some ⟨b,off,none⟩) m.length cap∧b<w.heap.size∧w.cell? ⟨b,off+k*3,none⟩=some (.int .i64 (Kx.pageAt m k).wh)∧w.cell? ⟨b,off+k*3+1,none⟩=some (.int .i64 (Kx.pageAt m k).at_)∧w.cell? ⟨b,off+k*3+2,none⟩=some (.bool (Kx.pageAt m k).used):=by
  obtain ⟨b,off,cap,e,hb,hc⟩:=RS.at h hk;have e2:Kx.pageAt m k=m[k]:=by simp [Kx.pageAt,hk]
  rw [e2];exact ⟨b,off,cap,e,hb,hc 0 _ rfl,hc 1 _ rfl,hc 2 _ rfl⟩
theorem RStr.at {w:World} {v:Value} {m:List Kx.Str} (h:RStr w v m) {k:Nat} (hk:k<m.length) :
    ∃ b off cap,v=.slice (some ⟨b,off,none⟩) m.length cap∧b<w.heap.size∧w.cell? ⟨b,off+k,none⟩=some (.string m[k]):=by
  obtain ⟨b,off,cap,e,hb,hc⟩:=RS.at h hk;exact ⟨b,off,cap,e,hb,by have:=hc 0 _ rfl;simpa using this⟩
/-- what EntryGet hands back -/
def egF (w:Int):Int:=match Kx.entry w with | some (f,_)=>(f:Int) | none=>0
def egW (w:Int):Bool:=match Kx.entry w with | some (_,b)=>b | none=>false
def egK (w:Int):Bool:=(Kx.entry w).isSome
theorem eg_some {w:Int} {f:Nat} {b:Bool} (h:Kx.entry w=some (f,b)):egF w=f∧egW w=b∧egK w=true:=by simp [egF,egW,egK,h]
theorem eg_none {w:Int} (h:Kx.entry w=none):egF w=0∧egW w=false∧egK w=false:=by simp [egF,egW,egK,h]
theorem entry_good {w:Int} (h0:0<w) (h1:w % 2=1) (h2:w<48):Kx.entry w=some ((w / 4).toNat,w % 4==3):=by unfold Kx.entry;rw [if_pos ⟨h0,h1,h2⟩]
theorem entry_bad {w:Int} (h:¬ (0<w∧w % 2=1∧w<48)):Kx.entry w=none:=by unfold Kx.entry;rw [if_neg h]
theorem eg_good {w:Int} (h0:0<w) (h1:w % 2=1) (h2:w<48):egF w=w / 4∧egW w=(w % 4==3)∧egK w=true:=by
  have:=eg_some (entry_good h0 h1 h2)
  refine ⟨?_,this.2.1,this.2.2⟩;rw [this.1];omega
theorem kind_good {w:Int} (h0:0<w) (h1:w % 2=1) (h2:w<48):Kx.entryKind w=1:=by
  unfold Kx.entryKind;rw [if_neg (by omega),entry_good h0 h1 h2];rfl
theorem kind_bad {w:Int} (h:¬ (0<w∧w % 2=1∧w<48)) (h0:w≠0):Kx.entryKind w=2:=by
  unfold Kx.entryKind;rw [if_neg h0,entry_bad h];rfl
set_option maxHeartbeats 1000000 in
theorem specEntryKind_c (x:Int) (w:World):Calls Tryz.prog 138 #[.int .i64 x] w fun e w'=>e=.returned (.int .i64 (Kx.entryKind x))∧w=w':=by
  by_cases h0:x=0
  · subst h0;go_enter Tryz.func138,Tryz.ntmps138;go_wp2_with fail;go_ret;exact ⟨rfl,rfl⟩
  · have hz:(x==0)=false:=by simpa using h0
    by_cases hp:0<x
    · by_cases hm:x % 2=1
      · have hmb:(x % 2==1)=true:=by simpa using hm
        by_cases hl:x<48
        · have hk:=hI_ (kind_good hp hm hl);clear hm h0;go_enter Tryz.func138,Tryz.ntmps138;go_wp2_with fail;go_ret;exact ⟨ret_int hk.out.symm,rfl⟩
        · have hk:=hI_ (kind_bad (w:=x) (by omega) h0);clear hm h0;go_enter Tryz.func138,Tryz.ntmps138;go_wp2_with fail;go_ret;exact ⟨ret_int hk.out.symm,rfl⟩
      · have hmb:(x % 2==1)=false:=by simpa using hm
        have hk:=hI_ (kind_bad (w:=x) (by omega) h0);clear hm h0;go_enter Tryz.func138,Tryz.ntmps138;go_wp2_with fail;go_ret;exact ⟨ret_int hk.out.symm,rfl⟩
    · have hk:=hI_ (kind_bad (w:=x) (by omega) h0);clear h0;go_enter Tryz.func138,Tryz.ntmps138;go_wp2_with fail;go_ret;exact ⟨ret_int hk.out.symm,rfl⟩
/-- three results -/
def Eg (x:Int):Ending:=.returned (.tuple #[.int .i64 (egF x),.bool (egW x),.bool (egK x)])
theorem EgS {x:Int} {f:Nat} {b:Bool} (h:Kx.entry x=some (f,b)):Eg x=.returned (.tuple #[.int .i64 (f:Int),.bool b,.bool true]):=by
  unfold Eg;rw [(eg_some h).1,(eg_some h).2.1,(eg_some h).2.2]
theorem EgN {x:Int} (h:Kx.entry x=none):Eg x=.returned (.tuple #[.int .i64 0,.bool false,.bool false]):=by
  unfold Eg;rw [(eg_none h).1,(eg_none h).2.1,(eg_none h).2.2]
theorem ret3 {k:IntKind} {a a':Int} {b b' c c':Bool} (h1:a=a') (h2:b=b') (h3:c=c'):Ending.returned (.tuple #[.int k a,.bool b,.bool c])=.returned (.tuple #[.int k a',.bool b',.bool c']):=by rw [h1,h2,h3]
set_option maxHeartbeats 1000000 in
theorem specEntryGet_c (x:Int) (w:World):Calls Tryz.prog 99 #[.int .i64 x] w fun e w'=>e=Eg x∧w=w':=by
  by_cases hg:0<x∧x % 2=1∧x<48
  · have hk:=hI_ (kind_good hg.1 hg.2.1 hg.2.2);have he:=hI_ (eg_good hg.1 hg.2.1 hg.2.2);have h1:=hg.1;have h2:=hg.2.2;clear hg;go_enter Tryz.func99,Tryz.ntmps99;go_wp2_with fail;refine (specEntryKind_c _ _).mono ?_;rintro e w' ⟨rfl,rfl⟩;rw [hk.out];go_wp2_with fail;go_ret3;exact ⟨ret3 he.out.1.symm he.out.2.1.symm he.out.2.2.symm,rfl⟩
  · have he:=hI_ (eg_none (entry_bad hg));have hk:Kx.entryKind x=0∨Kx.entryKind x=2:=by
      by_cases h0:x=0
      · left;rw [h0];rfl
      · right;exact kind_bad hg h0
    have Hk:=hI_ hk;clear hg hk;go_enter Tryz.func99,Tryz.ntmps99;go_wp2_with fail;refine (specEntryKind_c _ _).mono ?_;rintro e w' ⟨rfl,rfl⟩;rcases Hk.out with hk | hk <;> rw [hk] <;> clear hk
    all_goals
      go_wp2_with fail;go_ret3;exact ⟨ret3 he.out.1.symm he.out.2.1.symm he.out.2.2.symm,rfl⟩
theorem l6InK_c (n lo hi:Int) (w:World):Calls Tryz.prog 90 #[.int .i64 n,.int .i64 lo,.int .i64 hi] w fun e w'=>e=.returned (.bool (Kx.inR n lo hi))∧w=w':=l6In_c n lo hi w
theorem l1Frame_c (x:Int) (w:World):Calls Tryz.prog 125 #[.int .i64 x] w fun e w'=>e=.returned (.bool (Kx.inR x 0 11))∧w=w':=by
  go_enter Tryz.func125,Tryz.ntmps125;go_wp2_with fail;refine (l6InK_c _ _ _ _).mono ?_;rintro e w' ⟨rfl,rfl⟩;go_wp2_with fail;go_ret;exact ⟨rfl,rfl⟩
theorem l1Address_c (x:Int) (w:World):Calls Tryz.prog 58 #[.int .i64 x] w fun e w'=>e=.returned (.bool (Kx.inR x 0 63))∧w=w':=by
  go_enter Tryz.func58,Tryz.ntmps58;go_wp2_with fail;refine (l6InK_c _ _ _ _).mono ?_;rintro e w' ⟨rfl,rfl⟩;go_wp2_with fail;go_ret;exact ⟨rfl,rfl⟩
theorem l4Env_c (x:Int) (w:World):Calls Tryz.prog 57 #[.int .i64 x] w fun e w'=>e=.returned (.bool (Kx.inR x 0 2))∧w=w':=by
  go_enter Tryz.func57,Tryz.ntmps57;go_wp2_with fail;refine (l6InK_c _ _ _ _).mono ?_;rintro e w' ⟨rfl,rfl⟩;go_wp2_with fail;go_ret;exact ⟨rfl,rfl⟩
theorem withinK_c (n lo hi:Int) (w:World):Calls Tryz.prog 78 #[.int .i64 n,.int .i64 lo,.int .i64 hi] w fun e w'=>e=.returned (.bool (Kx.inR n lo hi))∧w=w':=within_c n lo hi w
theorem isFrame_c (x:Int) (w:World):Calls Tryz.prog 38 #[.int .i64 x] w fun e w'=>e=.returned (.bool (Kx.inR x 0 11))∧w=w':=by
  go_enter Tryz.func38,Tryz.ntmps38;go_wp2_with fail;refine (withinK_c _ _ _ _).mono ?_;rintro e w' ⟨rfl,rfl⟩;go_wp2_with fail;go_ret;exact ⟨rfl,rfl⟩
theorem isAddress_c (x:Int) (w:World):Calls Tryz.prog 51 #[.int .i64 x] w fun e w'=>e=.returned (.bool (Kx.inR x 0 63))∧w=w':=by
  go_enter Tryz.func51,Tryz.ntmps51;go_wp2_with fail;refine (withinK_c _ _ _ _).mono ?_;rintro e w' ⟨rfl,rfl⟩;go_wp2_with fail;go_ret;exact ⟨rfl,rfl⟩
theorem isPlaceK_c (x:Int) (w:World):Calls Tryz.prog 62 #[.int .i64 x] w fun e w'=>e=.returned (.bool (Kx.inR x 0 3))∧w=w':=by
  go_enter Tryz.func62,Tryz.ntmps62;go_wp2_with fail;refine (withinK_c _ _ _ _).mono ?_;rintro e w' ⟨rfl,rfl⟩;go_wp2_with fail;go_ret;exact ⟨rfl,rfl⟩
theorem isPageK_c (x:Int) (w:World):Calls Tryz.prog 118 #[.int .i64 x] w fun e w'=>e=.returned (.bool (Kx.inR x 0 15))∧w=w':=by
  go_enter Tryz.func118,Tryz.ntmps118;go_wp2_with fail;refine (withinK_c _ _ _ _).mono ?_;rintro e w' ⟨rfl,rfl⟩;go_wp2_with fail;go_ret;exact ⟨rfl,rfl⟩
theorem isEnv_c (x:Int) (w:World):Calls Tryz.prog 52 #[.int .i64 x] w fun e w'=>e=.returned (.bool (Kx.inR x 0 2))∧w=w':=by
  go_enter Tryz.func52,Tryz.ntmps52;go_wp2_with fail;refine (withinK_c _ _ _ _).mono ?_;rintro e w' ⟨rfl,rfl⟩;go_wp2_with fail;go_ret;exact ⟨rfl,rfl⟩
set_option maxHeartbeats 1000000 in
theorem implEntryGet_c (x:Int) (w:World) (hx:x≤9223372036854775807):Calls Tryz.prog 77 #[.int .i64 x] w fun e w'=>e=Eg x∧w=w':=by
  by_cases hn:x<0
  · have he:=hI_ (eg_none (entry_bad (w:=x) (by omega)));go_enter Tryz.func77,Tryz.ntmps77;go_wp2_with fail;go_ret3;exact ⟨ret3 he.out.1.symm he.out.2.1.symm he.out.2.2.symm,rfl⟩
  · have h0:0≤x:=by omega
    by_cases hm:x % 2=0
    · have hmb:(x % 2==0)=true:=by simpa using hm
      have he:=hI_ (eg_none (entry_bad (w:=x) (by omega)));clear hm;go_enter Tryz.func77,Tryz.ntmps77;go_wp2_with fail;go_ret3;exact ⟨ret3 he.out.1.symm he.out.2.1.symm he.out.2.2.symm,rfl⟩
    · have hmb:(x % 2==0)=false:=by simpa using hm
      by_cases hl:x<48
      · have he:=hI_ (eg_good (w:=x) (by omega) (by omega) hl);have hi:=hI_ (Kx.inR_true.2 (show 0≤x / 4∧x / 4≤11 by omega));clear hm;go_enter Tryz.func77,Tryz.ntmps77;go_wp2_with fail;refine (isFrame_c _ _).mono ?_;rintro e w' ⟨rfl,rfl⟩;rw [hi.out];go_wp2_with fail;go_ret3;exact ⟨ret3 he.out.1.symm he.out.2.1.symm he.out.2.2.symm,rfl⟩
      · have he:=hI_ (eg_none (entry_bad (w:=x) (by omega)));have hi:=hI_ (Kx.inR_false.2 (show x / 4<0∨11<x / 4 by omega));clear hm;go_enter Tryz.func77,Tryz.ntmps77;go_wp2_with fail;refine (isFrame_c _ _).mono ?_;rintro e w' ⟨rfl,rfl⟩;rw [hi.out];go_wp2_with fail;go_ret3;exact ⟨ret3 he.out.1.symm he.out.2.1.symm he.out.2.2.symm,rfl⟩
/-- the first k below n that p holds of, or -1 -/
def FirstAt (n:Nat) (p:Nat→Bool) (r:Int):Prop:=(∃ k:Nat,k<n∧p k=true∧(∀ j,j<k→p j=false)∧r=k)∨((∀ j,j<n→p j=false)∧r=-1)
theorem FirstAt.any {n:Nat} {p:Nat→Bool} {r:Int} (h:FirstAt n p r):decide (0≤r)=(List.range n).any p:=by
  rw [Bool.eq_iff_iff,decide_eq_true_eq,List.any_eq_true];rcases h with ⟨k,hk,hp,_,rfl⟩ | ⟨hn,rfl⟩
  · exact ⟨fun _=>⟨k,by simpa using hk,hp⟩,fun _=>by omega⟩
  · constructor
    · intro h;omega
    · rintro ⟨k,hk,hp⟩;rw [hn k (by simpa using hk)] at hp;cases hp
/-- A predicate as a function value: at the k-th argument it says p k, and turns nothing that was there. -/
def PredK (g:Nat) (lb:Array Value) (n:Nat) (arg:Nat→Value) (p:Nat→Bool) (w:World):Prop:=
  (∀ args W,(callFunc g args).run Tryz.prog W=.ok (.enter g args) W) ∧
  ∀ k W,k<n→Below w.heap.size w W→Calls Tryz.prog g (#[arg k] ++ lb) W fun e w'=>e=.returned (.bool (p k))∧Below W.heap.size W w'
def FoundAt (n:Nat) (p:Nat→Bool) (w:World) (e:Ending) (w':World):Prop:=∃ r,e=.returned (.int .i64 r)∧FirstAt n p r∧Below w.heap.size w w'
def infoV (x:Kx.Info):Value:=.agg #[.int .i64 x.kind,.string x.guard,.int .i64 x.refs]
def cachedV (x:Kx.Cached):Value:=.agg #[.int .i64 x.env,.int .i64 x.page,.int .i64 x.frame,.bool x.write]
theorem RStr.at2 {w:World} {v:Value} {m:List Kx.Str} (h:RStr w v m) {k:Nat} (hk:k<m.length) :
    ∃ b off cap,v=.slice (some ⟨b,off,none⟩) m.length cap∧b<w.heap.size∧w.cell? ⟨b,off+k,none⟩=some (.string (m.getD k ByteArray.empty)):=by
  obtain ⟨b,off,cap,e,hb,hc⟩:=h.at hk;exact ⟨b,off,cap,e,hb,by rw [hc];simp [hk]⟩
theorem RVal.at2 {w:World} {v:Value} {m:List Value} (h:RS valC 1 w v m) {k:Nat} (hk:k<m.length) :
    ∃ b off cap,v=.slice (some ⟨b,off,none⟩) m.length cap∧b<w.heap.size∧w.cell? ⟨b,off+k,none⟩=some (m.getD k undef):=by
  obtain ⟨b,off,cap,e,hb,hc⟩:=h.at hk;exact ⟨b,off,cap,e,hb,by have:=hc 0 _ rfl;rw [Nat.mul_one,Nat.add_zero] at this;rw [this];simp [hk]⟩
set_option maxHeartbeats 400000 in
theorem IndexInfo_c (g:Nat) (lb:Array Value) (p:Nat→Bool) (l:List Kx.Info) (v:Value) (w:World) (h:RInfo w v l) (hp:PredK g lb l.length (fun k=>infoV (Kx.inf l k)) p w) :
    Calls Tryz.prog 117 #[v,.func (.func g) #[] lb] w (FoundAt l.length p w):=by
  obtain ⟨a,cap,rfl,_,_⟩:=RS.val h;obtain ⟨eg,hg⟩:=hp;have hl:=h.1;have H:=hI_ h;clear h;have Hg:=hI_ hg;clear hg;go_enter Tryz.func117,Tryz.ntmps117;go_wp2_with fail;go_loopw [8] (fun i wr=>∃ k:Nat,i=.int .i64 k∧k≤l.length∧Hid (∀ j,j<k→p j=false)∧Hid (Below w.heap.size w wr)) (fun i _=>l.length - (intOf i).toNat)
  case atStart=>exact ⟨0,rfl,Nat.zero_le _,fun j hj=>absurd hj (Nat.not_lt_zero _),Below.refl _ _⟩
  case round =>
    obtain ⟨k,rfl,hk,hn,hb⟩:=hrel
    by_cases hlt:k<l.length
    · obtain ⟨b,off,cap1,e,_,h1,h2,h3⟩:=RInfo.at (RS.below H.out hb.out) hlt;simp only [Value.slice.injEq] at e;obtain ⟨rfl,_,rfl⟩:=e;have hlI:(k:Int)<(l.length:Int):=by omega
      have hcall:=hI_ (Hg.out k wr hlt hb.out);unfold infoV at hcall;generalize Kx.inf l k=x at h1 h2 h3 hcall
      cases hq:p k with
      | true =>
        rw [hq] at hcall;have Hq:=hI_ hq;clear hq;go_wp2_with (go_at_fn g;refine hcall.out.mono ?_;rintro e w' ⟨rfl,hb'⟩;have Hb':=hI_ hb';clear hb');go_ret;exact ⟨_,rfl,.inl ⟨k,hlt,Hq.out,hn.out,rfl⟩,hb.out.trans (Hb'.out.mono hb.out.size)⟩
      | false =>
        rw [hq] at hcall;have Hq:=hI_ hq;clear hq;go_wp2_with (go_at_fn g;refine hcall.out.mono ?_;rintro e w' ⟨rfl,hb'⟩;have Hb':=hI_ hb';clear hb');go_roundw
        case rel =>
          refine ⟨k+1,by go_num,by omega,?_,hb.out.trans (Hb'.out.mono hb.out.size)⟩;show ∀ j,j<k+1→p j=false;intro j hj
          by_cases e:j=k
          · subst e;exact Hq.out
          · exact hn.out j (by omega)
        case measure=>simp [intOf];omega
    · have:k=l.length:=by omega
      subst this;go_wp2_with fail;go_ret;exact ⟨_,rfl,.inr ⟨hn.out,rfl⟩,hb.out⟩
theorem ContainsInfo_c (g:Nat) (lb:Array Value) (p:Nat→Bool) (l:List Kx.Info) (v:Value) (w:World) (h:RInfo w v l) (hp:PredK g lb l.length (fun k=>infoV (Kx.inf l k)) p w) :
    Calls Tryz.prog 72 #[v,.func (.func g) #[] lb] w fun e w'=>e=.returned (.bool ((List.range l.length).any p))∧Below w.heap.size w w':=by
  have Hc:=hI_ (IndexInfo_c g lb p l v w h hp);clear h hp;go_enter Tryz.func72,Tryz.ntmps72;go_wp2_with (go_at_call 117;refine Hc.out.mono ?_;rintro e w' ⟨r,rfl,hf,hb'⟩;have Hb':=hI_ hb';have Hf:=hI_ hf;clear hb' hf);go_ret;exact ⟨ret_bool Hf.out.any,Hb'.out⟩
set_option maxHeartbeats 400000 in
theorem IndexCached_c (g:Nat) (lb:Array Value) (p:Nat→Bool) (l:List Kx.Cached) (v:Value) (w:World) (h:RCached w v l) (hp:PredK g lb l.length (fun k=>cachedV (l.getD k Kx.Cached.zero)) p w) :
    Calls Tryz.prog 119 #[v,.func (.func g) #[] lb] w (FoundAt l.length p w):=by
  obtain ⟨a,cap,rfl,_,_⟩:=RS.val h;obtain ⟨eg,hg⟩:=hp;have hl:=h.1;have H:=hI_ h;clear h;have Hg:=hI_ hg;clear hg;go_enter Tryz.func119,Tryz.ntmps119;go_wp2_with fail;go_loopw [8] (fun i wr=>∃ k:Nat,i=.int .i64 k∧k≤l.length∧Hid (∀ j,j<k→p j=false)∧Hid (Below w.heap.size w wr)) (fun i _=>l.length - (intOf i).toNat)
  case atStart=>exact ⟨0,rfl,Nat.zero_le _,fun j hj=>absurd hj (Nat.not_lt_zero _),Below.refl _ _⟩
  case round =>
    obtain ⟨k,rfl,hk,hn,hb⟩:=hrel
    by_cases hlt:k<l.length
    · obtain ⟨b,off,cap1,e,_,h1,h2,h3,h4⟩:=RCached.at (RS.below H.out hb.out) hlt;simp only [Value.slice.injEq] at e;obtain ⟨rfl,_,rfl⟩:=e;have hlI:(k:Int)<(l.length:Int):=by omega
      have hcall:=hI_ (Hg.out k wr hlt hb.out);unfold cachedV at hcall;generalize l.getD k Kx.Cached.zero=x at h1 h2 h3 h4 hcall
      cases hq:p k with
      | true =>
        rw [hq] at hcall;have Hq:=hI_ hq;clear hq;go_wp2_with (go_at_fn g;refine hcall.out.mono ?_;rintro e w' ⟨rfl,hb'⟩;have Hb':=hI_ hb';clear hb');go_ret;exact ⟨_,rfl,.inl ⟨k,hlt,Hq.out,hn.out,rfl⟩,hb.out.trans (Hb'.out.mono hb.out.size)⟩
      | false =>
        rw [hq] at hcall;have Hq:=hI_ hq;clear hq;go_wp2_with (go_at_fn g;refine hcall.out.mono ?_;rintro e w' ⟨rfl,hb'⟩;have Hb':=hI_ hb';clear hb');go_roundw
        case rel =>
          refine ⟨k+1,by go_num,by omega,?_,hb.out.trans (Hb'.out.mono hb.out.size)⟩;show ∀ j,j<k+1→p j=false;intro j hj
          by_cases e:j=k
          · subst e;exact Hq.out
          · exact hn.out j (by omega)
        case measure=>simp [intOf];omega
    · have:k=l.length:=by omega
      subst this;go_wp2_with fail;go_ret;exact ⟨_,rfl,.inr ⟨hn.out,rfl⟩,hb.out⟩
set_option maxHeartbeats 400000 in
theorem IndexStr_c (g:Nat) (lb:Array Value) (p:Nat→Bool) (l:List Kx.Str) (v:Value) (w:World) (h:RStr w v l) (hp:PredK g lb l.length (fun k=>.string (l.getD k ByteArray.empty)) p w) :
    Calls Tryz.prog 136 #[v,.func (.func g) #[] lb] w (FoundAt l.length p w):=by
  obtain ⟨a,cap,rfl,_,_⟩:=RS.val h;obtain ⟨eg,hg⟩:=hp;have hl:=h.1;have H:=hI_ h;clear h;have Hg:=hI_ hg;clear hg;go_enter Tryz.func136,Tryz.ntmps136;go_wp2_with fail;go_loopw [8] (fun i wr=>∃ k:Nat,i=.int .i64 k∧k≤l.length∧Hid (∀ j,j<k→p j=false)∧Hid (Below w.heap.size w wr)) (fun i _=>l.length - (intOf i).toNat)
  case atStart=>exact ⟨0,rfl,Nat.zero_le _,fun j hj=>absurd hj (Nat.not_lt_zero _),Below.refl _ _⟩
  case round =>
    obtain ⟨k,rfl,hk,hn,hb⟩:=hrel
    by_cases hlt:k<l.length
    · obtain ⟨b,off,cap1,e,_,h1⟩:=RStr.at2 (RS.below H.out hb.out) hlt;simp only [Value.slice.injEq] at e;obtain ⟨rfl,_,rfl⟩:=e;have hlI:(k:Int)<(l.length:Int):=by omega
      have hcall:=hI_ (Hg.out k wr hlt hb.out);generalize l.getD k ByteArray.empty=x at h1 hcall
      cases hq:p k with
      | true =>
        rw [hq] at hcall;have Hq:=hI_ hq;clear hq;go_wp2_with (go_at_fn g;refine hcall.out.mono ?_;rintro e w' ⟨rfl,hb'⟩;have Hb':=hI_ hb';clear hb');go_ret;exact ⟨_,rfl,.inl ⟨k,hlt,Hq.out,hn.out,rfl⟩,hb.out.trans (Hb'.out.mono hb.out.size)⟩
      | false =>
        rw [hq] at hcall;have Hq:=hI_ hq;clear hq;go_wp2_with (go_at_fn g;refine hcall.out.mono ?_;rintro e w' ⟨rfl,hb'⟩;have Hb':=hI_ hb';clear hb');go_roundw
        case rel =>
          refine ⟨k+1,by go_num,by omega,?_,hb.out.trans (Hb'.out.mono hb.out.size)⟩;show ∀ j,j<k+1→p j=false;intro j hj
          by_cases e:j=k
          · subst e;exact Hq.out
          · exact hn.out j (by omega)
        case measure=>simp [intOf];omega
    · have:k=l.length:=by omega
      subst this;go_wp2_with fail;go_ret;exact ⟨_,rfl,.inr ⟨hn.out,rfl⟩,hb.out⟩
theorem ContainsStr_c (g:Nat) (lb:Array Value) (p:Nat→Bool) (l:List Kx.Str) (v:Value) (w:World) (h:RStr w v l) (hp:PredK g lb l.length (fun k=>.string (l.getD k ByteArray.empty)) p w) :
    Calls Tryz.prog 96 #[v,.func (.func g) #[] lb] w fun e w'=>e=.returned (.bool ((List.range l.length).any p))∧Below w.heap.size w w':=by
  have Hc:=hI_ (IndexStr_c g lb p l v w h hp);clear h hp;go_enter Tryz.func96,Tryz.ntmps96;go_wp2_with (go_at_call 136;refine Hc.out.mono ?_;rintro e w' ⟨r,rfl,hf,hb'⟩;have Hb':=hI_ hb';have Hf:=hI_ hf;clear hb' hf);go_ret;exact ⟨ret_bool Hf.out.any,Hb'.out⟩
set_option maxHeartbeats 400000 in
theorem IndexVal_c (g:Nat) (lb:Array Value) (p:Nat→Bool) (l:List Value) (v:Value) (w:World) (h:RS valC 1 w v l) (hp:PredK g lb l.length (fun k=>l.getD k undef) p w) :
    Calls Tryz.prog 114 #[v,.func (.func g) #[] lb] w (FoundAt l.length p w):=by
  obtain ⟨a,cap,rfl,_,_⟩:=RS.val h;obtain ⟨eg,hg⟩:=hp;have hl:=h.1;have H:=hI_ h;clear h;have Hg:=hI_ hg;clear hg;go_enter Tryz.func114,Tryz.ntmps114;go_wp2_with fail;go_loopw [8] (fun i wr=>∃ k:Nat,i=.int .i64 k∧k≤l.length∧Hid (∀ j,j<k→p j=false)∧Hid (Below w.heap.size w wr)) (fun i _=>l.length - (intOf i).toNat)
  case atStart=>exact ⟨0,rfl,Nat.zero_le _,fun j hj=>absurd hj (Nat.not_lt_zero _),Below.refl _ _⟩
  case round =>
    obtain ⟨k,rfl,hk,hn,hb⟩:=hrel
    by_cases hlt:k<l.length
    · obtain ⟨b,off,cap1,e,_,h1⟩:=RVal.at2 (RS.below H.out hb.out) hlt;simp only [Value.slice.injEq] at e;obtain ⟨rfl,_,rfl⟩:=e;have hlI:(k:Int)<(l.length:Int):=by omega
      have hcall:=hI_ (Hg.out k wr hlt hb.out);generalize l.getD k undef=x at h1 hcall
      cases hq:p k with
      | true =>
        rw [hq] at hcall;have Hq:=hI_ hq;clear hq;go_wp2_with (go_at_fn g;refine hcall.out.mono ?_;rintro e w' ⟨rfl,hb'⟩;have Hb':=hI_ hb';clear hb');go_ret;exact ⟨_,rfl,.inl ⟨k,hlt,Hq.out,hn.out,rfl⟩,hb.out.trans (Hb'.out.mono hb.out.size)⟩
      | false =>
        rw [hq] at hcall;have Hq:=hI_ hq;clear hq;go_wp2_with (go_at_fn g;refine hcall.out.mono ?_;rintro e w' ⟨rfl,hb'⟩;have Hb':=hI_ hb';clear hb');go_roundw
        case rel =>
          refine ⟨k+1,by go_num,by omega,?_,hb.out.trans (Hb'.out.mono hb.out.size)⟩;show ∀ j,j<k+1→p j=false;intro j hj
          by_cases e:j=k
          · subst e;exact Hq.out
          · exact hn.out j (by omega)
        case measure=>simp [intOf];omega
    · have:k=l.length:=by omega
      subst this;go_wp2_with fail;go_ret;exact ⟨_,rfl,.inr ⟨hn.out,rfl⟩,hb.out⟩
theorem ContainsVal_c (g:Nat) (lb:Array Value) (p:Nat→Bool) (l:List Value) (v:Value) (w:World) (h:RS valC 1 w v l) (hp:PredK g lb l.length (fun k=>l.getD k undef) p w) :
    Calls Tryz.prog 69 #[v,.func (.func g) #[] lb] w fun e w'=>e=.returned (.bool ((List.range l.length).any p))∧Below w.heap.size w w':=by
  have Hc:=hI_ (IndexVal_c g lb p l v w h hp);clear h hp;go_enter Tryz.func69,Tryz.ntmps69;go_wp2_with (go_at_call 114;refine Hc.out.mono ?_;rintro e w' ⟨r,rfl,hf,hb'⟩;have Hb':=hI_ hb';have Hf:=hI_ hf;clear hb' hf);go_ret;exact ⟨ret_bool Hf.out.any,Hb'.out⟩
/-- the shape of an element: its cells' number -/
class Elt {α:Type} (f:α→List Value) (sz:outParam Nat):Prop where
  len:∀ x,(f x).length=sz
  pos:0<sz
  one:∀ x,∀ u ∈ f x,u.oneCell'=true
instance:Elt intC 1:=⟨fun _=>rfl,by decide,fun x u hu=>by simp [intC] at hu;subst hu;rfl⟩
instance:Elt strC 1:=⟨fun _=>rfl,by decide,fun x u hu=>by simp [strC] at hu;subst hu;rfl⟩
instance:Elt infoC 3:=⟨fun _=>rfl,by decide,fun x u hu=>by simp [infoC] at hu;rcases hu with rfl | rfl | rfl <;> rfl⟩
instance:Elt cachedC 4:=⟨fun _=>rfl,by decide,fun x u hu=>by simp [cachedC] at hu;rcases hu with rfl | rfl | rfl | rfl <;> rfl⟩
instance:Elt pageC 3:=⟨fun _=>rfl,by decide,fun x u hu=>by simp [pageC] at hu;rcases hu with rfl | rfl | rfl <;> rfl⟩
instance:Elt callC 6:=⟨fun _=>rfl,by decide,fun x u hu=>by simp [callC] at hu;rcases hu with rfl | rfl | rfl | rfl | rfl | rfl <;> rfl⟩
/-- the cells of a list -/
def flat {α:Type} (f:α→List Value) (l:List α):List Value:=l.flatMap f
theorem flat_length {α:Type} {f:α→List Value} {sz:Nat} (hf:∀ x,(f x).length=sz):∀ l:List α,(flat f l).length=l.length*sz
  | []=>by simp [flat]
  | x :: l=>by
    have:=flat_length hf l
    unfold flat at this ⊢;rw [List.flatMap_cons,List.length_append,hf,this,List.length_cons,Nat.succ_mul];omega
theorem flat_append {α:Type} (f:α→List Value) (l l':List α):flat f (l ++ l')=flat f l ++ flat f l':=by simp [flat]
theorem flat_get {α:Type} {f:α→List Value} {sz:Nat} (hf:∀ x,(f x).length=sz):∀ (l:List α) (k j:Nat) (h:k<l.length),j<sz→(flat f l)[k*sz+j]?=(f l[k])[j]?
  | [],_,_,h,_=>by simp at h
  | x :: l,0,j,_,hj=>by
    unfold flat;rw [List.flatMap_cons,List.getElem?_append_left (by rw [hf];omega)];simp
  | x :: l,k+1,j,h,hj=>by
    have:=flat_get hf l k j (by simpa using h) hj
    unfold flat at this ⊢;rw [List.flatMap_cons,List.getElem?_append_right (by rw [hf,Nat.succ_mul];omega),hf];have e:(k+1)*sz+j - sz=k*sz+j:=by rw [Nat.succ_mul];omega
    rw [e,this];simp
theorem flat_inv {α:Type} {f:α→List Value} {sz:Nat} (hf:∀ x,(f x).length=sz) (hs:0<sz) (l:List α) (i:Nat) (u:Value) (h:(flat f l)[i]?=some u):∃ k,∃ (hk:k<l.length),∃ j,j<sz∧i=k*sz+j∧(f l[k])[j]?=some u:=by
  have hi:i<l.length*sz:=by rw [←flat_length hf l];exact (List.getElem?_eq_some_iff.1 h).1
  have hk:i / sz<l.length:=by
    rw [Nat.mul_comm] at hi;exact Nat.div_lt_of_lt_mul hi
  have e:i=i / sz*sz+i % sz:=by rw [Nat.mul_comm];exact (Nat.div_add_mod i sz).symm
  refine ⟨i / sz,hk,i % sz,Nat.mod_lt _ hs,e,?_⟩;rw [←flat_get hf l _ _ hk (Nat.mod_lt _ hs),←e];exact h
/-- v is a slice in memory of the call's own, from block base on; it reads as l. -/
def OS {α:Type} (f:α→List Value) (sz:Nat) (e:TypeId) (w:World) (base:Nat) (v:Value) (l:List α):Prop:=w.ownsRow base e sz v l.length (flat f l)∧l.length≤1099511627776
section
variable {α:Type} {f:α→List Value} {sz:Nat} {e:TypeId} {w w':World} {base:Nat} {v:Value} {l:List α}
theorem OS.rs [E:Elt f sz] (h:OS f sz e w base v l):RS f sz w v l:=by
  refine ⟨h.2,?_⟩;rcases h.1.2 with ⟨rfl,hn⟩ | ⟨g,cap,cur,rfl,hb,hg,hnc,hcm,hcs,htake⟩
  · exact .inl ⟨List.eq_nil_of_length_eq_zero hn,none,0,by rw [hn] at *,by simp,fun _=>rfl⟩
  · refine .inr ⟨g,0,cap,rfl,hnc,hcm,(Array.getElem?_eq_some_iff.1 hg).1,fun k hk j u hu=>?_⟩
    have hj:j<sz:=by rw [←E.len l[k]];exact (List.getElem?_eq_some_iff.1 hu).1
    have:=h.1.cells (g:=g) rfl (k*sz+j) u (by rw [flat_get E.len l k j hk hj];exact hu)
    rw [Addr.add_lit] at this;rw [Nat.zero_add] at this ⊢;exact this
theorem OS.below (h:OS f sz e w base v l) (hb:Below w.heap.size w w'):OS f sz e w' base v l:=by
  refine ⟨⟨h.1.1,?_⟩,h.2⟩;rcases h.1.2 with hn | ⟨g,cap,cur,rfl,hbg,hg,r⟩
  · exact .inl hn
  · exact .inr ⟨g,cap,cur,rfl,hbg,by rw [hb.block g (Array.getElem?_eq_some_iff.1 hg).1];exact hg,r⟩
theorem OS.kept {row:Option Nat} (h:OS f sz e w base v l) (hg:w.grownBy w' row) (hne:v.ownBlock=none∨v.ownBlock≠row):OS f sz e w' base v l:=⟨h.1.kept hg hne,h.2⟩
theorem OS.lt (h:OS f sz e w base v l):∀ k,v.ownBlock=some k→base≤k∧k<w.heap.size:=h.1.lt
theorem OS.alloc (h:OS f sz e w base v l) (o:Obj):OS f sz e (w.alloc o) base v l:=⟨h.1.alloc o,h.2⟩
theorem OS.drewN (h:OS f sz e w base v l) (n:Nat):OS f sz e (w.drewN n) base v l:=⟨h.1,h.2⟩
theorem OS.mono {base':Nat} (h:OS f sz e w base v l) (hb:base'≤base):OS f sz e w base' v l:=by
  refine ⟨⟨h.1.1,?_⟩,h.2⟩;rcases h.1.2 with ⟨rfl,hn⟩ | ⟨g,cap,cur,rfl,hbg,r⟩
  · exact .inl ⟨rfl,hn⟩
  · exact .inr ⟨g,cap,cur,rfl,Nat.le_trans hb hbg,r⟩
theorem OS.nil (w:World) (base:Nat):OS f sz e w base (.slice none 0 0) []:=⟨World.ownsRow_nil _ _ _ _,by simp⟩
theorem OS.lit0 (hb:base≤w.heap.size):OS f sz e (w.alloc (.cells #[] e)) base (.slice (some ⟨w.heap.size,0,none⟩) 0 0) []:=
  ⟨⟨by simp [flat],.inr ⟨w.heap.size,0,#[],rfl,hb,heap_alloc_new w _,Nat.le_refl _,by simp,by simp,by simp [flat]⟩⟩,by simp⟩
/-- a literal of elements -/
theorem OS.lit (hb:base≤w.heap.size) (cs:Array Value) (hcs:cs.toList=flat f l) (hsz:cs.size=l.length*sz) (hl:l.length≤1048576) :
    OS f sz e (w.alloc (.cells cs e)) base (.slice (some ⟨w.heap.size,0,none⟩) l.length l.length) l:=
  ⟨⟨by rw [←hcs];simpa using hsz,.inr ⟨w.heap.size,l.length,cs,rfl,hb,heap_alloc_new w _,Nat.le_refl _,by unfold maxLen;omega,hsz,by rw [hcs,List.take_of_length_le];rw [←hcs];simpa using Nat.le_of_eq hsz⟩⟩,by omega⟩
theorem OS.kind (h:OS f sz e w base v l) {g:Nat} (hg:v.ownBlock=some g):∃ cs,w.heap[g]?=some (.cells cs e (0,0)):=by
  rcases h.1.2 with ⟨rfl,hn⟩ | ⟨g',cap,cur,rfl,_,hh,_⟩
  · simp [Value.ownBlock] at hg
  · simp [Value.ownBlock] at hg
    subst hg;exact ⟨cur,hh⟩
/-- slices of different elements lie in different blocks -/
theorem OS.apart {β:Type} {f':β→List Value} {sz':Nat} {e':TypeId} {base':Nat} {v':Value} {l':List β} (h:OS f sz e w base v l) (h':OS f' sz' e' w base' v' l') (hne:e≠e'):v.ownBlock=none∨v.ownBlock≠v'.ownBlock:=by
  cases hv:v.ownBlock with
  | none=>exact .inl rfl
  | some g =>
    refine .inr fun he=>?_
    obtain ⟨cs,h1⟩:=h.kind hv;obtain ⟨cs',h2⟩:=h'.kind he.symm;rw [h1] at h2;simp only [Option.some.injEq,Obj.cells.injEq] at h2;exact hne h2.2.1
end
/-- facts on an element type -/
def TI (t e:TypeId) (z:Value) (sz:Nat):Prop:=∃ (i:TypeInfo) (b:Nat),Tryz.prog.underlying t=some (.slice e)∧Tryz.prog.info? e=some i∧i.zero=some z∧i.size=sz∧i.bytes=b∧b≤64∧z.cells.size=sz
theorem TI.mk {t e:TypeId} {z:Value} {sz b:Nat} (h:Tryz.prog.underlying t=some (.slice e)) (hi:(Tryz.prog.info? e).map (fun i=>(i.zero,i.size,i.bytes))=some (some z,sz,b)) (hb:b≤64) (hz:z.cells.size=sz):TI t e z sz:=by
  obtain ⟨i0,hi,hz0,hz1,hz2⟩:=info_parts hi;exact ⟨i0,b,h,hi,hz0,hz1,hz2,hb,hz⟩
theorem tiInt:TI 42 3 (.int .i64 0) 1:=TI.mk Tryz.underlying42 (b:=8) (by kernel_rfl) (by decide) rfl
section
variable {α:Type} {f:α→List Value} {sz:Nat} [E:Elt f sz] {t e:TypeId} {z:Value}
theorem RS.srcFlat {w:World} {a:Addr} {n cap:Nat} {l:List α} (h:RS f sz w (.slice (some a) n cap) l):∀ i u,(flat f l)[i]?=some u→w.cell? (a.add i)=some u:=by
  intro i u hu;obtain ⟨k,hk,j,hj,rfl,hu2⟩:=flat_inv E.len E.pos l i u hu;obtain ⟨b,off,cap',ev,_,hc⟩:=h.at hk;simp only [Value.slice.injEq,Option.some.injEq] at ev;obtain ⟨rfl,_,_⟩:=ev;rw [Addr.add_lit,←Nat.add_assoc];exact hc j u hu2
theorem run_appS (hT:TI t e z sz) (ty:TypeId) (w:World) (base:Nat) (v:Value) (xs:List α) (hown:OS f sz e w base v xs) (u:Value) (ys:List α) (hr:RS f sz w u ys)
    (hlen:xs.length+ys.length≤1099511627776) (hbase:base≤w.heap.size) :
    ∃ v' w',(Builtin.append_ #[t,t] ty #[v,u]).run Tryz.prog w=.ok v' w'∧OS f sz e w' base v' (xs ++ ys)∧w.grownBy w' v.ownBlock∧(v'.ownBlock=v.ownBlock∨v'.ownBlock=some w.heap.size):=by
  obtain ⟨i0,b,h22,hi,hz0,hz1,hz2,hb,hzc⟩:=hT;obtain ⟨ad,cap,rfl,_,_⟩:=hr.val
  cases ad with
  | some ad =>
    obtain ⟨v',w',hrun,h2,h3,_,h5⟩:=run_append_own_at (P:=Tryz.prog) (w:=w) base t ty e i0 z sz b h22 hi hz0 hz1 hz2 hzc E.pos v xs.length (flat f xs) hown.1 ad ys.length cap (flat f ys) (flat_length E.len ys) hr.srcFlat
      (fun u hu=>by
        obtain ⟨x,_,hx⟩:=List.mem_flatMap.1 hu;exact E.one x u hx) (by unfold maxLen;omega) (Nat.le_trans (Nat.mul_le_mul hlen hb) (by decide)) hbase
    exact ⟨v',w',hrun,⟨by rw [List.length_append,flat_append];exact h2,by simpa using hlen⟩,h3,h5⟩
  | none =>
    have hy:ys=[]∧cap=0:=by
      rcases hr.2 with ⟨rfl,a,c,ev,_,hn⟩ | ⟨b,off,c,ev,_⟩
      · simp only [Value.slice.injEq] at ev;exact ⟨rfl,by rw [ev.2.2];exact hn ev.1.symm⟩
      · simp at ev
    obtain ⟨rfl,rfl⟩:=hy;have hrun:=run_append_owned_none (P:=Tryz.prog) w base t ty e i0 sz h22 hi v xs.length (flat f xs) hown.1;exact ⟨v,w,hrun,by simpa using hown,World.grownBy.refl _ _,.inl rfl⟩
theorem wp_appS (hT:TI t e z sz) {o:Oper} {a:Act} {K:Act→World→Prop} {Q:Exit→Act→World→Prop} {w:World} (s x:Operand)
    (ho:o.op=.call { callee:=.builtin .append,args:=#[s,x],argTypes:=#[t,t] })
    (base:Nat) (v:Value) (xs:List α) (hs:a.eval s=v) (hown:OS f sz e w base v xs) (u:Value) (ys:List α) (hx:a.eval x=u) (hr:RS f sz w u ys)
    (hlen:xs.length+ys.length≤1099511627776) (hbase:base≤w.heap.size)
    (h:∀ v' w',OS f sz e w' base v' (xs ++ ys)→w.grownBy w' v.ownBlock→(v'.ownBlock=v.ownBlock∨v'.ownBlock=some w.heap.size)→K (a.put o.dst v') w'):o.wp Tryz.prog a w K Q:=by
  obtain ⟨v',w',hrun,h2,h3,h5⟩:=run_appS hT o.type w base v xs hown u ys hr hlen hbase;unfold Oper.wp execOp;simp only [ho,resolve,invoke,builtin,Sem.run_bind,Sem.run_pure,Result.andThen_ok,List.map_toArray,List.map_cons,List.map_nil,hs,hx,hrun];exact h v' w' h2 h3 h5
theorem wpList_appS (hT:TI t e z sz) {ops:Array Oper} {rest:List Oper} {o:Oper} {a:Act} {Q:Exit→Act→World→Prop} {w:World} (hgd:o.guard=none) (s x:Operand)
    (ho:o.op=.call { callee:=.builtin .append,args:=#[s,x],argTypes:=#[t,t] })
    (base:Nat) (v:Value) (xs:List α) (hs:a.eval s=v) (hown:OS f sz e w base v xs) (u:Value) (ys:List α) (hx:a.eval x=u) (hr:RS f sz w u ys)
    (hlen:xs.length+ys.length≤1099511627776) (hbase:base≤w.heap.size)
    (h:∀ v' w',OS f sz e w' base v' (xs ++ ys)→w.grownBy w' v.ownBlock→(v'.ownBlock=v.ownBlock∨v'.ownBlock=some w.heap.size)→wpList Tryz.prog ops Q rest (a.put o.dst v') w'):wpList Tryz.prog ops Q (o :: rest) a w:=
  wpList_plain hgd fun _ hK=>wp_appS hT s x ho base v xs hs hown u ys hx hr hlen hbase fun v' w' h2 h3 h4=>hK _ _ (h v' w' h2 h3 h4)
theorem step_appS (hT:TI t e z sz) {ops:Array Oper} {o:Oper} {a:Act} {K:Act→World→Prop} {Q:Exit→Act→World→Prop} {X:Prop} {w:World} (hgd:o.guard=none) (s x:Operand)
    (ho:o.op=.call { callee:=.builtin .append,args:=#[s,x],argTypes:=#[t,t] })
    (base:Nat) (v:Value) (xs:List α) (hs:a.eval s=v) (hown:OS f sz e w base v xs) (u:Value) (ys:List α) (hx:a.eval x=u) (hr:RS f sz w u ys)
    (hlen:xs.length+ys.length≤1099511627776) (hbase:base≤w.heap.size)
    (h:∀ v' w',OS f sz e w' base v' (xs ++ ys)→w.grownBy w' v.ownBlock→(v'.ownBlock=v.ownBlock∨v'.ownBlock=some w.heap.size)→K (a.put o.dst v') w') :
    if Region.wanted o (yielded ops a.tmps)=true then Oper.wp Tryz.prog o a w K Q else X:=by
  have hw:Region.wanted o (yielded ops a.tmps)=true:=by simp [Region.wanted,hgd]
  rw [if_pos hw];exact wp_appS hT s x ho base v xs hs hown u ys hx hr hlen hbase h
end
/-- what lies below stays behind an append onto a row of the call's own -/
theorem Below.appS {α:Type} {f:α→List Value} {sz:Nat} {e:TypeId} {B:Nat} {a w w':World} {v:Value} {xs:List α} {base:Nat} (h:Below B a w) (ho:OS f sz e w base v xs) (hg:w.grownBy w' v.ownBlock) (hB:B≤base) (hs:B≤w.heap.size):Below B a w':=
  h.grown hg hs (fun k hk=>Nat.le_trans hB (ho.lt k hk).1)
/-- one new element in a block of its own reads as a list of one -/
theorem RS.one {α:Type} {f:α→List Value} {sz:Nat} (x:α) (cs:Array Value) (hcs:cs.toList=f x) (w:World) (e:TypeId):RS f sz (w.alloc (.cells cs e)) (.slice (some ⟨w.heap.size,0,none⟩) 1 1) [x]:=by
  refine ⟨by simp,.inr ⟨w.heap.size,0,1,rfl,Nat.le_refl _,by unfold maxLen;omega,by simp,fun k hk j u hu=>?_⟩⟩
  have hk0:k=0:=by simp at hk;exact hk
  subst hk0;simp only [Nat.zero_mul,Nat.add_zero,Nat.zero_add,List.getElem_cons_zero] at hu ⊢;rw [World.cell?,show (w.alloc (.cells cs e)).heap[w.heap.size]?=some (.cells cs e (0,0)) from heap_alloc_new w _];rw [←hcs] at hu;simpa using hu
theorem flat_int:∀ xs:List Int,flat intC xs=ints xs
  | []=>rfl
  | x :: xs=>by
    have:=flat_int xs
    unfold flat at this ⊢;rw [List.flatMap_cons,this];rfl
theorem OI.os {w:World} {base:Nat} {v:Value} {xs:List Int} (h:OI w base v xs):OS intC 1 3 w base v xs:=⟨by rw [flat_int];exact h.1,h.2⟩
theorem OS.oi {w:World} {base:Nat} {v:Value} {xs:List Int} (h:OS intC 1 3 w base v xs):OI w base v xs:=⟨by rw [←flat_int];exact h.1,h.2⟩
theorem wordsOk_eq (xs:List Int):pageOk xs=Kx.wordsOk xs:=by
  unfold pageOk Kx.wordsOk Kx.wordOk;rw [Bool.eq_iff_iff];simp [inR,Kx.inR]
def ofN (l:List Nat):List Int:=l.map fun (n:Nat)=>(n:Int)
theorem ofN_length (l:List Nat):(ofN l).length=l.length:=by simp [ofN]
theorem ofN_nil:ofN []=[]:=rfl
theorem ofN_append (l l':List Nat):ofN (l ++ l')=ofN l ++ ofN l':=by simp [ofN]
theorem ofN_getElem (l:List Nat) (k:Nat) (h:k<(ofN l).length) (h':k<l.length):(ofN l)[k]=(l[k]:Int):=by simp [ofN]
theorem mem_row {m:List (List Int)} (h:Kx.memOk m=true) {f:Nat} (hf:f<12):m.length=12∧(Kx.row m f).length=4∧∀ x ∈ Kx.row m f,0≤x∧x≤9999:=
  ⟨(Kx.memOk_iff.1 h).1,((Kx.memOk_iff.1 h).2 f hf).1,((Kx.memOk_iff.1 h).2 f hf).2⟩
def hasI (xs:List Int) (x:Int):Bool:=xs.contains x
theorem hasI_ofN (l:List Nat) (g:Nat):hasI (ofN l) (g:Int)=l.contains g:=by
  unfold hasI ofN;rw [Bool.eq_iff_iff,List.contains_iff_mem,List.contains_iff_mem,List.mem_map];constructor
  · rintro ⟨x,hx,e⟩;have:x=g:=by omega
    rwa [this] at hx
  · exact fun h=>⟨g,h,rfl⟩
/-- a word of a valid memory -/
theorem RM.word {w:World} {v:Value} {m:List (List Int)} (h:RM w v m) (hm:Kx.memOk m=true) {f a:Nat} (hf:f<12) (ha:a<4) :
    ∃ b off cap b' off' cap',v=.slice (some ⟨b,off,none⟩) 12 cap∧w.cell? ⟨b,off+f,none⟩=some (.slice (some ⟨b',off',none⟩) 4 cap')∧w.cell? ⟨b',off'+a,none⟩=some (.int .i64 (Kx.word m f a)) ∧
      0≤Kx.word m f a∧Kx.word m f a≤9999:=by
  obtain ⟨h12,h4,hw⟩:=mem_row hm hf;obtain ⟨b,off,cap,u,rfl,_,hc,hr⟩:=h.at (k:=f) (by omega);obtain ⟨b',off',cap',rfl,_,hc'⟩:=hr.at (k:=a) (by omega);rw [h4] at hc;rw [h12];have e:Kx.word m f a=(Kx.row m f)[a]'(by omega):=by simp [Kx.word,show a<(Kx.row m f).length by omega]
  rw [e];exact ⟨b,off,cap,b',off',cap',rfl,hc,hc',hw _ (List.getElem_mem _)⟩
/-- a row of a valid memory -/
theorem RM.row {w:World} {v:Value} {m:List (List Int)} (h:RM w v m) (hm:Kx.memOk m=true) {f:Nat} (hf:f<12) :
    ∃ b off cap u,v=.slice (some ⟨b,off,none⟩) 12 cap∧w.cell? ⟨b,off+f,none⟩=some u∧RI w u (Kx.row m f):=by
  obtain ⟨h12,_⟩:=mem_row hm hf;obtain ⟨b,off,cap,u,rfl,_,hc,hr⟩:=h.at (k:=f) (by omega);rw [h12];exact ⟨b,off,cap,u,rfl,hc,hr⟩
set_option maxHeartbeats 400000 in
theorem specMemoryValid_c (m:List (List Int)) (v:Value) (w:World) (h:RM w v m) :
    Calls Tryz.prog 44 #[v] w fun e w'=>e=.returned (.bool (Kx.memOk m))∧w=w':=by
  obtain ⟨hl,a,cap,rfl,_,_⟩:=h.len;have H:=hI_ h;clear h;go_enter Tryz.func44,Tryz.ntmps44;go_wp2_with fail;go_loop [3] (fun i=>∃ k:Nat,i=.int .i64 k∧k≤m.length∧Hid (∀ j,j<k→Kx.wordsOk (Kx.row m j)=true)) (fun i=>m.length - (intOf i).toNat)
  case atStart=>exact ⟨0,rfl,Nat.zero_le _,fun j hj=>absurd hj (Nat.not_lt_zero _)⟩
  case round =>
    obtain ⟨k,rfl,hk,hall⟩:=hrel
    by_cases hlt:k<m.length
    · obtain ⟨b,off,cap',u,e,_,hc,hr⟩:=H.out.at hlt;simp only [Value.slice.injEq] at e;obtain ⟨rfl,_,rfl⟩:=e;have Hr:=hI_ hr;clear hr
      cases hq:Kx.wordsOk (Kx.row m k) with
      | false =>
        have hF:Kx.memOk m=false:=by
          cases hm:Kx.memOk m
          · rfl
          · unfold Kx.memOk at hm;simp only [Bool.and_eq_true,List.all_eq_true] at hm;rw [hm.1 _ (Kx.row_mem hlt)] at hq;cases hq
        have HF:=hI_ hF;have Hq:=hI_ ((wordsOk_eq (Kx.row m k)).trans hq);clear hF hq;go_wp2_with (go_at_call 85;refine (l2Words_c _ _ _ Hr.out).mono ?_;rintro e w' ⟨rfl,rfl⟩;rw [Hq.out]);go_ret;exact ⟨ret_bool HF.out.symm,rfl⟩
      | true =>
        have Hk:=hI_ hq;have Hq:=hI_ ((wordsOk_eq (Kx.row m k)).trans hq);clear hq;go_wp2_with (go_at_call 85;refine (l2Words_c _ _ _ Hr.out).mono ?_;rintro e w' ⟨rfl,rfl⟩;rw [Hq.out]);go_round
        case rel =>
          refine ⟨k+1,by go_num,by omega,?_⟩;show ∀ j,j<k+1→_;intro j hj
          by_cases e:j=k
          · subst e;exact Hk.out
          · exact hall.out j (by omega)
        case measure=>simp [intOf];omega
    · have hT:m.all Kx.wordsOk=true:=by
        rw [List.all_eq_true];intro x hx;obtain ⟨f,hf,rfl⟩:=Kx.mem_row hx;exact hall.out f (by omega)
      have HT:=hI_ hT;clear hT;go_wp2_with fail;go_ret;refine ⟨ret_bool ?_,rfl⟩;unfold Kx.memOk;rw [HT.out,Bool.true_and];exact Bool.eq_iff_iff.2 (by simp;omega)
set_option maxHeartbeats 400000 in
theorem l2Ok_c (m:List (List Int)) (f:Int) (v:Value) (w:World) (h:RM w v m) :
    Calls Tryz.prog 219 #[v,.int .i64 f] w fun e w'=>e=.returned (.bool (Kx.memOk m&&Kx.inR f 0 11))∧w=w':=by
  have Hv:=hI_ (specMemoryValid_c m v w h);clear h
  cases hm:Kx.memOk m
  · rw [hm] at Hv;clear hm;go_enter Tryz.func219,Tryz.ntmps219;go_wp2_with (go_at_call 44;refine Hv.out.mono ?_;rintro e w' ⟨rfl,rfl⟩);go_ret;exact ⟨by simp,rfl⟩
  · rw [hm] at Hv;clear hm;go_enter Tryz.func219,Tryz.ntmps219;go_wp2_with (first | (go_at_call 44;refine Hv.out.mono ?_;rintro e w' ⟨rfl,rfl⟩) | (go_at_call 125;refine (l1Frame_c _ _).mono ?_;rintro e w' ⟨rfl,rfl⟩))
    go_ret;exact ⟨by simp,rfl⟩
def walkV (r:(Int×Int×Bool)×Int):Value:=.tuple #[.agg #[.int .i64 r.1.1,.int .i64 r.1.2.1,.bool r.1.2.2],.int .i64 r.2]
set_option maxHeartbeats 1000000 in
theorem l3Walk_c (m:List (List Int)) (root ad:Nat) (v:Value) (w:World) (h:RM w v m) (hm:Kx.memOk m=true) (hr:root<12) (ha:ad<64) :
    Calls Tryz.prog 59 #[v,.int .i64 root,.int .i64 ad] w fun e w'=>e=.returned (walkV (Kx.walk m root ad))∧Below w.heap.size w w':=by
  obtain ⟨q,hq⟩:∃ q,ad / 16=q:=⟨_,rfl⟩;obtain ⟨r,hr'⟩:∃ r,ad / 4 % 4=r:=⟨_,rfl⟩;have hal:=(Below.refl w.heap.size w).alloc nR_ (.cells #[.int .i64 0,.int .i64 0,.bool false] 35);have hb3:Hid (∀ c,Below w.heap.size w (w.alloc (.cells c 35))):=fun c=>(Below.refl w.heap.size w).alloc nR_ _
  obtain ⟨b,off,cap,b',off',cap',rfl,h1,h2,h3,h4⟩:=(h.below hal).word hm hr (a:=q) (by omega);have hq4:(q:Int)<4:=by omega
  have hr4:(r:Int)<4:=by omega
  have hrI:(root:Int)<12:=by omega
  have eq:(ad:Int) / 16=(q:Int):=by omega
  have er:(ad:Int) / 4 % 4=(r:Int):=by omega
  cases he:Kx.entry (Kx.word m root q) with
  | none =>
    have hw:Kx.walk m root ad=((0,0,false),1):=by unfold Kx.walk;rw [hq,he]
    have He:=hI_ he;have Hw:=hI_ hw;clear he hw er hq hr' h hal;generalize Kx.word m root q=x at h2 h3 h4 He;go_enter Tryz.func59,Tryz.ntmps59;go_wp2_with fail;refine (specEntryGet_c _ _).mono ?_;rintro e w' ⟨rfl,rfl⟩;rw [EgN He.out];go_wp2_with fail;refine bodyPost_ret (v:=.tuple #[.agg #[.int .i64 0,.int .i64 0,.bool false],.int .i64 1]) (by simp [results,Tryz.results59,go_sem]) rfl ⟨?_,hb3.out _⟩;rw [Hw.out];rfl
  | some p =>
    obtain ⟨t,a⟩:=p;have ht:=Kx.entry_lt he;obtain ⟨b1,off1,cap1,b2,off2,cap2,e1,g1,g2,g3,g4⟩:=(h.below hal).word hm ht (a:=r) (by omega);simp only [Value.slice.injEq,Option.some.injEq,Addr.mk.injEq] at e1;obtain ⟨⟨rfl,rfl,_⟩,_,rfl⟩:=e1;have htI:(t:Int)<12:=by omega
    cases he2:Kx.entry (Kx.word m t r) with
    | none =>
      have hw:Kx.walk m root ad=((0,0,false),2):=by unfold Kx.walk;rw [hq,he];simp only [hr',he2]
      have He:=hI_ he;have Hw:=hI_ hw;have He2:=hI_ he2;clear he hw he2 hq hr' h hal;generalize Kx.word m root q=x at h2 h3 h4 He;generalize Kx.word m t r=y at g2 g3 g4 He2;go_enter Tryz.func59,Tryz.ntmps59;go_wp2_with fail;refine (specEntryGet_c _ _).mono ?_;rintro e w' ⟨rfl,rfl⟩;rw [EgS He.out];go_wp2_with fail;refine (specEntryGet_c _ _).mono ?_;rintro e w' ⟨rfl,rfl⟩;rw [EgN He2.out];go_wp2_with fail;refine bodyPost_ret (v:=.tuple #[.agg #[.int .i64 0,.int .i64 0,.bool false],.int .i64 2]) (by simp [results,Tryz.results59,go_sem]) rfl ⟨?_,hb3.out _⟩;rw [Hw.out];rfl
    | some p =>
      obtain ⟨f,c⟩:=p;have hw:Kx.walk m root ad=(((f:Int),((ad % 4:Nat):Int),a&&c),0):=by unfold Kx.walk;rw [hq,he];simp only [hr',he2]
      have He:=hI_ he;have Hw:=hI_ hw;have He2:=hI_ he2;clear he hw he2 hq hr' h hal;generalize Kx.word m root q=x at h2 h3 h4 He;generalize Kx.word m t r=y at g2 g3 g4 He2;go_enter Tryz.func59,Tryz.ntmps59;go_wp2_with fail;refine (specEntryGet_c _ _).mono ?_;rintro e w' ⟨rfl,rfl⟩;rw [EgS He.out];go_wp2_with fail;refine (specEntryGet_c _ _).mono ?_;rintro e w' ⟨rfl,rfl⟩;rw [EgS He2.out]
      cases a
      · go_wp2_with fail;refine bodyPost_ret (v:=.tuple #[.agg #[.int .i64 f,.int .i64 ((ad:Int) % 4),.bool false],.int .i64 0]) (by simp [results,Tryz.results59,go_sem]) rfl ⟨?_,hb3.out _⟩;rw [Hw.out];simp [walkV]
      · go_wp2_with fail;refine bodyPost_ret (v:=.tuple #[.agg #[.int .i64 f,.int .i64 ((ad:Int) % 4),.bool c],.int .i64 0]) (by simp [results,Tryz.results59,go_sem]) rfl ⟨?_,hb3.out _⟩;rw [Hw.out];simp [walkV]
set_option maxHeartbeats 1000000 in
theorem l3Named_c (xs:List Int) (v:Value) (w:World) (h:RI w v xs):Calls Tryz.prog 128 #[v] w (MadeI w (ofN (Kx.namedW xs))):=by
  obtain ⟨a,cap,rfl⟩:=h.val;have hl:=h.1;have H:=hI_ h;clear h;go_enter Tryz.func128,Tryz.ntmps128;go_wp2_with fail;go_loopw [3,4] (fun out i wr=>∃ k:Nat,i=.int .i64 k∧k≤xs.length∧Hid (OI wr w.heap.size out (ofN (Kx.namedW (xs.take k))))∧Hid (Below w.heap.size w wr)) (fun _ i _=>xs.length - (intOf i).toNat)
  case atStart=>exact ⟨0,rfl,Nat.zero_le _,OI.lit0 nR_,bR_.alloc nR_ _⟩
  case round =>
    obtain ⟨k,rfl,hk,ho,hb⟩:=hrel
    by_cases hlt:k<xs.length
    · obtain ⟨b,off,cap',e,_,hc⟩:=(H.out.below hb.out).at hlt;simp only [Value.slice.injEq] at e;obtain ⟨rfl,_,rfl⟩:=e;have htk:xs.take (k+1)=xs.take k ++ [xs[k]]:=by rw [List.take_succ_eq_append_getElem hlt]
      generalize xs[k]=x at hc htk;have hnt:Kx.namedW (xs.take (k+1))=Kx.namedW (xs.take k) ++ Kx.namedW [x]:=by rw [htk];simp [Kx.namedW]
      have hlen:(Kx.namedW (xs.take k)).length≤k:=Nat.le_trans (by unfold Kx.namedW;exact List.length_filterMap_le _ _) (List.length_take_le _ _);have Ht:=hI_ hnt;have Hlen:=hI_ hlen;clear htk hnt hlen
      cases he:Kx.entry x with
      | none =>
        have hx:Kx.namedW [x]=[]:=by simp [Kx.namedW,he]
        have He:=hI_ he;have Hx:=hI_ hx;clear he hx;go_wp2_with fail;refine (specEntryGet_c _ _).mono ?_;rintro e w' ⟨rfl,rfl⟩;rw [EgN He.out];go_wp2_with fail;go_roundw
        case rel=>exact ⟨k+1,by go_num,by omega,by show OI _ _ _ _;rw [Ht.out,Hx.out,List.append_nil];exact ho.out,hb.out⟩
        case measure=>simp [intOf];omega
      | some p =>
        obtain ⟨f,c⟩:=p;have hx:Kx.namedW [x]=[f]:=by simp [Kx.namedW,he]
        have He:=hI_ he;have Hx:=hI_ hx;clear he hx;have hsz:=hI_ hb.out.size;have hxl:=hI_ (show (ofN (Kx.namedW (xs.take k))).length+1≤1099511627776 by rw [ofN_length];have:=Hlen.out;omega);go_wp2_with fail;refine (specEntryGet_c _ _).mono ?_;rintro e w' ⟨rfl,rfl⟩;rw [EgS He.out];go_wp2_with (at_builtin;refine wpList_app rfl _ _ rfl w.heap.size _ (ofN (Kx.namedW (xs.take k))) rfl (ho.out.alloc _) _ 1 1 [(f:Int)] rfl rfl (cell_one_new _ _ _) hxl.out (by simp;exact Nat.le_succ_of_le hsz.out) ?_;intro v' w3 ho3 hg3;have Ho3:=hI_ ho3;have Hg3:=hI_ hg3;clear ho3 hg3);go_roundw
        case rel =>
          refine ⟨k+1,by go_num,by omega,?_,?_⟩
          · show OI _ _ _ _;rw [Ht.out,Hx.out,ofN_append];exact Ho3.out
          · exact Below.app (hb.out.alloc hb.out.size _) (ho.out.alloc _) Hg3.out nR_ (by simp;exact Nat.le_succ_of_le hsz.out)
        case measure=>simp [intOf];omega
    · have:k=xs.length:=by omega
      subst this;go_wp2_with fail;go_ret;exact ⟨_,rfl,by have:=ho.out;rw [List.take_length] at this;exact this,hb.out⟩
set_option maxHeartbeats 400000 in
theorem l3Has_c (xs:List Int) (x:Int) (v:Value) (w:World) (h:RI w v xs):Calls Tryz.prog 139 #[v,.int .i64 x] w fun e w'=>e=.returned (.bool (hasI xs x))∧w=w':=by
  obtain ⟨a,cap,rfl⟩:=h.val;have hl:=h.1;have H:=hI_ h;clear h;go_enter Tryz.func139,Tryz.ntmps139;go_wp2_with fail;go_loop [5] (fun i=>∃ k:Nat,i=.int .i64 k∧k≤xs.length∧Hid (∀ j (hj:j<xs.length),j<k→xs[j]≠x)) (fun i=>xs.length - (intOf i).toNat)
  case atStart=>exact ⟨0,rfl,Nat.zero_le _,fun j _ hj=>absurd hj (Nat.not_lt_zero _)⟩
  case round =>
    obtain ⟨k,rfl,hk,hall⟩:=hrel
    by_cases hlt:k<xs.length
    · obtain ⟨b,off,cap',e,_,hc⟩:=H.out.at hlt;simp only [Value.slice.injEq] at e;obtain ⟨rfl,_,rfl⟩:=e
      by_cases hx:xs[k]=x
      · have HF:=hI_ (show hasI xs x=true by unfold hasI;rw [List.contains_iff_mem,←hx];exact List.getElem_mem hlt);rw [hx] at hc;clear hx;go_wp2_with fail;go_ret;exact ⟨ret_bool HF.out.symm,rfl⟩
      · have hxb:(xs[k]==x)=false:=by simpa using hx
        have Hx:=hI_ hx;clear hx;generalize hy:xs[k]=y at hc hxb;have Hy:=hI_ hy;clear hy;go_wp2_with fail;go_round
        case rel =>
          refine ⟨k+1,by go_num,by omega,?_⟩;show ∀ j (hj:j<xs.length),j<k+1→_;intro j hj hjk
          by_cases e:j=k
          · subst e;exact Hx.out
          · exact hall.out j hj (by omega)
        case measure=>simp [intOf];omega
    · have HF:=hI_ (show hasI xs x=false by
        unfold hasI;rw [Bool.eq_false_iff,ne_eq,List.contains_iff_mem];intro hm;obtain ⟨j,hj,e⟩:=List.getElem_of_mem hm;exact hall.out j hj (by omega) e)
      go_wp2_with fail;go_ret;exact ⟨ret_bool HF.out.symm,rfl⟩
theorem filter_lt_succ (p:Nat→Bool) (k:Nat):(List.range (k+1)).filter p=(List.range k).filter p ++ if p k then [k] else []:=by
  rw [List.range_succ,List.filter_append];congr 1
  cases h:p k <;> simp [h]
set_option maxHeartbeats 1000000 in
theorem l3Sorted_c (l:List Nat) (v:Value) (w:World) (h:RI w v (ofN l)):Calls Tryz.prog 101 #[v] w (MadeI w (ofN (Kx.sortedF l))):=by
  obtain ⟨a,cap,rfl⟩:=h.val;have hl:=h.1;have H:=hI_ h;clear h;go_enter Tryz.func101,Tryz.ntmps101;go_wp2_with fail;go_loopw [3,4] (fun out i wr=>∃ k:Nat,i=.int .i64 k∧k≤12∧Hid (OS intC 1 3 wr w.heap.size out (ofN ((List.range k).filter fun f=>l.contains f)))∧Hid (Below w.heap.size w wr)) (fun _ i _=>12 - (intOf i).toNat)
  case atStart=>exact ⟨0,rfl,Nat.zero_le _,OS.lit0 nR_,bR_.alloc nR_ _⟩
  case round =>
    obtain ⟨k,rfl,hk,ho,hb⟩:=hrel
    by_cases hlt:k<12
    · have hs:=congrArg ofN (filter_lt_succ (fun f=>l.contains f) k);rw [ofN_append] at hs;have hlen:(ofN ((List.range k).filter fun f=>l.contains f)).length≤k:=by
        rw [ofN_length];exact Nat.le_trans (List.length_filter_le _ _) (by simp)
      have Hlen:=hI_ hlen;clear hlen
      cases hq:l.contains k with
      | false =>
        rw [hq] at hs;simp only [Bool.false_eq_true,if_false,ofN_nil,List.append_nil] at hs;have Hs:=hI_ hs;have Hq:=hI_ ((hasI_ofN l k).trans hq);clear hs hq;go_wp2_with fail;refine (l3Has_c (ofN l) _ _ _ (H.out.below hb.out)).mono ?_;rintro e w' ⟨rfl,rfl⟩;rw [Hq.out];go_wp2_with fail;go_roundw
        case rel=>exact ⟨k+1,by go_num,by omega,by show OS _ _ _ _ _ _ _;rw [Hs.out];exact ho.out,hb.out⟩
        case measure=>simp [intOf];omega
      | true =>
        rw [hq] at hs;simp only [if_true] at hs;have Hs:=hI_ hs;have Hq:=hI_ ((hasI_ofN l k).trans hq);clear hs hq;have hsz:=hI_ hb.out.size;have hsz2:=hI_ (show w.heap.size≤(wr.alloc (.cells #[.int .i64 (k:Int)] 3)).heap.size by simp;exact Nat.le_succ_of_le hsz.out);have hR:=hI_ (RS.one (f:=intC) (sz:=1) (k:Int) #[.int .i64 (k:Int)] rfl wr 3);have hL:=hI_ (show (ofN ((List.range k).filter fun f=>l.contains f)).length+[(k:Int)].length≤1099511627776 by have:=Hlen.out;simp at this ⊢;omega)
        generalize (ofN ((List.range k).filter fun f=>l.contains f))=ys at ho hL Hs
        go_wp2_with fail;refine (l3Has_c (ofN l) _ _ _ (H.out.below hb.out)).mono ?_;rintro e w' ⟨rfl,rfl⟩;rw [Hq.out];go_wp2_with (at_builtin;refine wpList_appS tiInt rfl _ _ rfl w.heap.size _ ys rfl (ho.out.alloc _) _ [(k:Int)] rfl hR.out hL.out hsz2.out ?_;intro v' w3 ho3 hg3 hn3;have Ho3:=hI_ ho3;have Hg3:=hI_ hg3;clear ho3 hg3 hn3);go_roundw
        case rel =>
          refine ⟨k+1,by go_num,by omega,?_,?_⟩
          · show OS _ _ _ _ _ _ _;rw [Hs.out];exact Ho3.out
          · exact Below.appS (hb.out.alloc hb.out.size _) (ho.out.alloc _) Hg3.out nR_ hsz2.out
        case measure=>simp [intOf];omega
    · have:k=12:=by omega
      subst this;go_wp2_with fail;go_ret;exact ⟨_,rfl,ho.out.oi,hb.out⟩
set_option maxHeartbeats 1000000 in
theorem l3Tables_c (m:List (List Int)) (root:Nat) (v:Value) (w:World) (h:RM w v m) (hm:Kx.memOk m=true) (hr:root<12) :
    Calls Tryz.prog 100 #[v,.int .i64 root] w (MadeI w (ofN (Kx.tables m root))):=by
  obtain ⟨b,off,cap,u,rfl,hc,hru⟩:=h.row hm hr;have hrI:(root:Int)<12:=by omega
  have Hr:=hI_ hru;clear hru h;go_enter Tryz.func100,Tryz.ntmps100;go_wp2_with fail;refine (l3Named_c _ _ _ Hr.out).mono ?_;rintro e w1 ⟨u1,rfl,ho,hb⟩;have Ho:=hI_ ho;have Hb:=hI_ hb;clear ho hb;go_wp2_with fail;refine (l3Sorted_c _ _ _ Ho.out.ri).mono ?_;rintro e w2 ⟨u2,rfl,ho,hb⟩;have Ho2:=hI_ ho;have Hb2:=hI_ hb;clear ho hb;go_wp2_with fail;go_ret;exact ⟨_,rfl,Ho2.out.mono Hb.out.size,Hb.out.trans (Hb2.out.mono Hb.out.size)⟩
/-- two slices do not share memory -/
def Sep (a b:Value):Prop:=a.ownBlock=none∨a.ownBlock≠b.ownBlock
theorem Sep.grow {α:Type} {f:α→List Value} {sz:Nat} {e:TypeId} {w:World} {base:Nat} {a v v':Value} {l:List α} (h:OS f sz e w base a l) (hn:Sep a v) (hv:v'.ownBlock=v.ownBlock∨v'.ownBlock=some w.heap.size):Sep a v':=by
  rcases hv with hv | hv
  · unfold Sep;rw [hv];exact hn
  · cases ha:a.ownBlock with
    | none=>exact .inl ha
    | some k =>
      refine .inr fun e=>?_
      have:=(h.lt k ha).2
      rw [ha,hv] at e;simp at e;omega
/-- what is made in a block from base on lies apart from what is elder -/
theorem Sep.later {α β:Type} {f:α→List Value} {f':β→List Value} {sz sz':Nat} {e e':TypeId} {w w':World} {base base':Nat} {a v:Value} {l:List α} {l':List β} (h:OS f sz e w base a l) (h':OS f' sz' e' w' base' v l') (hb:w.heap.size≤base'):Sep v a:=by
  cases hv:v.ownBlock with
  | none=>exact .inl hv
  | some k =>
    refine .inr fun e=>?_
    rw [hv] at e;have:=(h.lt k e.symm).2;have:=(h'.lt k hv).1;omega
set_option maxHeartbeats 1000000 in
theorem l3Frames_c (m:List (List Int)) (root:Nat) (v:Value) (w:World) (h:RM w v m) (hm:Kx.memOk m=true) (hr:root<12) :
    Calls Tryz.prog 102 #[v,.int .i64 root] w (MadeI w (ofN (Kx.framesR m root))):=by
  have hb0:=(Below.refl w.heap.size w).alloc nR_ (.cells #[] 3);have Hh:=hI_ h;have Ht:=hI_ (l3Tables_c m root v _ (h.below hb0) hm hr);have H0:=hI_ (OS.lit0 (f:=intC) (sz:=1) (e:=3) (Nat.le_refl w.heap.size));have Hb0:=hI_ hb0;obtain ⟨h12,_⟩:=mem_row hm hr;obtain ⟨_,a,cap,rfl,_,_⟩:=h.len;obtain ⟨ts,hts⟩:∃ ts,Kx.tables m root=ts:=⟨_,rfl⟩;rw [hts] at Ht;have Hts:=hI_ (show Kx.framesR m root=Kx.sortedF (ts.flatMap fun t=>Kx.namedW (Kx.row m t)) by rw [←hts];rfl)
  have Hlt:=hI_ (show (∀ t ∈ ts,t<12)∧ts.length≤12 by
    rw [←hts];exact ⟨fun t ht=>Kx.namedW_lt (Kx.mem_tables.1 ht),Nat.le_trans (List.length_filter_le _ _) (by simp)⟩)
  have H12:=hI_ h12;clear hts h hb0 h12;go_enter Tryz.func102,Tryz.ntmps102;go_wp2_with fail;refine Ht.out.mono ?_;rintro e w1 ⟨u1,rfl,ho,hb⟩;have Hs0:=hI_ (show Sep u1 (.slice (some ⟨w.heap.size,0,none⟩) 0 0) from Sep.later H0.out ho.os nR_);have H01:=hI_ (H0.out.below hb);have Hb1:=hI_ (Hb0.out.trans (hb.mono Hb0.out.size));have Ho:=hI_ ho.os;clear ho hb H0 Hb0 Ht;obtain ⟨a1,c1,rfl,_,_⟩:=Ho.out.rs.val;obtain ⟨n,hn⟩:∃ n,(ofN ts).length=n:=⟨_,rfl⟩;have Hn:=hI_ hn;have hn12:n≤12:=by rw [←hn,ofN_length];exact Hlt.out.2
  rw [hn] at Ho Hs0 ⊢;clear hn;go_wp2_with fail;go_loopw [5,7] (fun out i wr=>∃ k:Nat,i=.int .i64 k∧k≤n∧Hid (OS intC 1 3 wr w.heap.size out (ofN ((ts.take k).flatMap fun t=>Kx.namedW (Kx.row m t))))∧Hid (((ts.take k).flatMap fun t=>Kx.namedW (Kx.row m t)).length≤4*k)∧Hid (∃ b,OS intC 1 3 wr b (.slice a1 n c1) (ofN ts))∧Hid (Sep (.slice a1 n c1) out)∧Hid (Below w.heap.size w wr)) (fun _ i _=>n - (intOf i).toNat)
  case atStart=>exact ⟨0,rfl,Nat.zero_le _,H01.out,by simp [Hid],⟨_,Ho.out⟩,Hs0.out,Hb1.out⟩
  case round =>
    clear H01 Hs0 Hb1 Ho;obtain ⟨k,rfl,hk,ho,hlen,hts,hsep,hb⟩:=hrel
    by_cases hlt:k<n
    · obtain ⟨bt,hts'⟩:=hts.out;have hkt:k<ts.length:=by have:=Hn.out;rw [ofN_length] at this;omega
      have hkt':k<(ofN ts).length:=by rw [ofN_length];exact hkt
      obtain ⟨b2,off2,cap2,e,_,hc⟩:=hts'.rs.at hkt';have hc0:=hc 0 _ rfl;rw [Hn.out] at e;simp only [Value.slice.injEq] at e;obtain ⟨rfl,_,rfl⟩:=e;have htk:ts.take (k+1)=ts.take k ++ [ts[k]]:=by rw [List.take_succ_eq_append_getElem hkt]
      have ht12:=Hlt.out.1 _ (List.getElem_mem hkt);rw [ofN_getElem ts k hkt' hkt,Nat.mul_one,Nat.add_zero] at hc0;generalize ts[k]=t at hc0 htk ht12;obtain ⟨b3,off3,cap3,u3,e,hc3,hr3⟩:=(Hh.out.below hb.out).row hm ht12;rw [←H12.out] at e;simp only [Value.slice.injEq] at e;obtain ⟨rfl,_,rfl⟩:=e;have hw4:=(mem_row hm ht12).2.1;have hfl:(ts.take (k+1)).flatMap (fun t=>Kx.namedW (Kx.row m t))=(ts.take k).flatMap (fun t=>Kx.namedW (Kx.row m t)) ++ Kx.namedW (Kx.row m t):=by rw [htk];simp
      have hn4:(Kx.namedW (Kx.row m t)).length≤4:=by rw [←hw4];unfold Kx.namedW;exact List.length_filterMap_le _ _
      have Hfl:=hI_ hfl;have Hn4:=hI_ hn4;have Hr3:=hI_ hr3;have H3:=hI_ hts';have htI:(t:Int)<(m.length:Int):=by rw [H12.out];omega
      clear htk hfl hn4 hr3 hts hts' hw4 hc;generalize (ts.take k).flatMap (fun t=>Kx.namedW (Kx.row m t))=ys at ho hlen Hfl
      go_wp2_with fail;refine (l3Named_c _ _ _ Hr3.out).mono ?_;rintro e w2 ⟨u4,rfl,ho4,hb4⟩;have Ho4:=hI_ ho4.os;have Ho2:=hI_ (ho.out.below hb4);have Ht2:=hI_ (H3.out.below hb4);have Hb2:=hI_ (hb.out.trans (hb4.mono hb.out.size));have Hsz:=hI_ (Nat.le_trans hb.out.size hb4.size);have HL:=hI_ (show (ofN ys).length+(ofN (Kx.namedW (Kx.row m t))).length≤1099511627776 by rw [ofN_length,ofN_length];have:=hlen.out;have:=Hn4.out;omega);clear ho4 hb4;go_wp2_with (at_builtin;refine wpList_appS tiInt rfl _ _ rfl w.heap.size _ (ofN ys) rfl Ho2.out _ (ofN (Kx.namedW (Kx.row m t))) rfl Ho4.out.rs HL.out Hsz.out ?_;intro v' w3 ho3 hg3 hn3;have Ho3:=hI_ ho3;have Hg3:=hI_ hg3;have Hn3:=hI_ hn3;clear ho3 hg3 hn3);go_roundw
      case rel =>
        refine ⟨k+1,by go_num,by omega,?_,?_,⟨_,Ht2.out.kept Hg3.out hsep.out⟩,Sep.grow Ht2.out hsep.out Hn3.out,Below.appS Hb2.out Ho2.out Hg3.out nR_ Hsz.out⟩
        · show OS _ _ _ _ _ _ _;rw [Hfl.out,ofN_append];exact Ho3.out
        · show _≤_;rw [Hfl.out,List.length_append];have:=hlen.out;have:=Hn4.out;omega
      case measure=>simp [intOf];omega
    · have hkn:k=n:=by omega
      subst hkn;have htt:ts.take k=ts:=List.take_of_length_le (by have:=Hn.out;rw [ofN_length] at this;omega);have ho':=ho.out;rw [htt] at ho';have Ho:=hI_ ho'.oi.ri;clear ho' htt;go_wp2_with fail;refine (l3Sorted_c _ _ _ Ho.out).mono ?_;rintro e w2 ⟨u2,rfl,ho2,hb2⟩;have Ho2:=hI_ ho2;have Hb2:=hI_ hb2;clear ho2 hb2;go_wp2_with fail;go_ret;refine ⟨_,rfl,?_,hb.out.trans (Hb2.out.mono hb.out.size)⟩;rw [Hts.out];exact Ho2.out.mono hb.out.size
set_option maxHeartbeats 1000000 in
theorem l21Reach_c (m:List (List Int)) (root:Int) (v:Value) (w:World) (h:RM w v m) (hm:Kx.memOk m=true) (hr:root≤11) :
    Calls Tryz.prog 60 #[v,.int .i64 root] w (MadeI w (ofN (Kx.reach m root))):=by
  by_cases h0:root<0
  · have hw:=hI_ (show Kx.reach m root=[] by unfold Kx.reach;rw [if_pos h0]);obtain ⟨_,a,cap,rfl,_,_⟩:=h.len;go_enter Tryz.func60,Tryz.ntmps60;go_wp2_with fail;go_ret;refine ⟨_,rfl,?_,bR_.alloc nR_ _⟩;rw [hw.out];exact OI.lit0 nR_
  · obtain ⟨r,rfl⟩:=Int.eq_ofNat_of_zero_le (show 0≤root by omega);have hr12:r<12:=by omega
    have hw:=hI_ (show Kx.reach m (r:Int)=Kx.sortedF (r :: (Kx.tables m r ++ Kx.framesR m r)) by unfold Kx.reach;rw [if_neg h0];simp);obtain ⟨w0,hw0⟩:∃ w0,w.alloc (.cells #[.int .i64 (r:Int)] 3)=w0:=⟨_,rfl⟩;have hb0:Below w.heap.size w w0:=hw0 ▸ (Below.refl w.heap.size w).alloc nR_ _;have H0:=hI_ (show OS intC 1 3 w0 w.heap.size (.slice (some ⟨w.heap.size,0,none⟩) 1 1) [(r:Int)] from hw0 ▸ OS.lit (l:=[(r:Int)]) nR_ _ rfl rfl (by simp));have Ht:=hI_ (l3Tables_c m r v w0 (h.below hb0) hm hr12);have Hh:=hI_ h;have Hb0:=hI_ hb0;have Hl:=hI_ (show (Kx.tables m r).length≤12∧(Kx.framesR m r).length≤12 from ⟨Nat.le_trans (List.length_filter_le _ _) (by simp),Nat.le_trans (List.length_filter_le _ _) (by simp)⟩);clear h hb0;go_enter Tryz.func60,Tryz.ntmps60;go_wp2_with fail;refine Ht.out.mono ?_;rintro e w1 ⟨u1,rfl,ho,hb⟩
    have Ho1:=hI_ ho.os;have H1:=hI_ (H0.out.below hb);have Hb1:=hI_ (Hb0.out.trans (hb.mono Hb0.out.size));have HL:=hI_ (show [(r:Int)].length+(ofN (Kx.tables m r)).length≤1099511627776 by rw [ofN_length];have:=Hl.out;simp;omega);clear ho hb H0 Hb0 hw0;go_wp2_with (at_builtin;refine wpList_appS tiInt rfl _ _ rfl w.heap.size _ [(r:Int)] rfl H1.out _ (ofN (Kx.tables m r)) rfl Ho1.out.rs HL.out Hb1.out.size ?_;intro v' w3 ho3 hg3 hn3;have Ho3:=hI_ ho3;have Hb3:=hI_ (Below.appS Hb1.out H1.out hg3 nR_ Hb1.out.size);clear ho3 hg3 hn3);refine (l3Frames_c m r v _ (Hh.out.below Hb3.out) hm hr12).mono ?_;rintro e w4 ⟨u4,rfl,ho4,hb4⟩;have Ho4:=hI_ ho4.os;have H4:=hI_ (Ho3.out.below hb4);have Hb4:=hI_ (Hb3.out.trans (hb4.mono Hb3.out.size))
    have HL2:=hI_ (show ([(r:Int)] ++ ofN (Kx.tables m r)).length+(ofN (Kx.framesR m r)).length≤1099511627776 by rw [List.length_append,ofN_length,ofN_length];have:=Hl.out;simp;omega);clear ho4 hb4;go_wp2_with (at_builtin;refine wpList_appS tiInt rfl _ _ rfl w.heap.size _ ([(r:Int)] ++ ofN (Kx.tables m r)) rfl H4.out _ (ofN (Kx.framesR m r)) rfl Ho4.out.rs HL2.out Hb4.out.size ?_;intro v5 w5 ho5 hg5 hn5;have Ho5:=hI_ ho5;have Hb5:=hI_ (Below.appS Hb4.out H4.out hg5 nR_ Hb4.out.size);clear ho5 hg5 hn5);have H6:=hI_ (show RI w5 v5 (ofN (r :: (Kx.tables m r ++ Kx.framesR m r))) by
      have:=Ho5.out.oi.ri
      rw [List.append_assoc,←ofN_append] at this;exact this)
    refine (l3Sorted_c _ _ _ H6.out).mono ?_;rintro e w6 ⟨u6,rfl,ho6,hb6⟩;have Ho6:=hI_ ho6;have Hb6:=hI_ hb6;clear ho6 hb6;go_wp2_with fail;go_ret;refine ⟨_,rfl,?_,Hb5.out.trans (Hb6.out.mono Hb5.out.size)⟩;rw [hw.out];exact Ho6.out.mono Hb5.out.size
theorem toList_data (s:ByteArray):s.toList=s.data.toList:=Go.ByteArray.toList_eq s
theorem size_len (s:ByteArray):s.size=s.data.toList.length:=by show s.data.size=_;simp
theorem pre_extract {a b:Kx.Str}:((b.extract 0 a.size).toList==a.toList)=Kx.pre a b:=by
  rw [toList_data,toList_data,Lib.extract_data];unfold Kx.pre;rw [Bool.eq_iff_iff,beq_iff_eq,List.isPrefixOf_iff_prefix,List.prefix_iff_eq_take];rw [←size_len];simp;exact eq_comm
theorem pre_long {a b:Kx.Str} (h:¬ a.size≤b.size):Kx.pre a b=false:=by
  unfold Kx.pre;rw [Bool.eq_false_iff,ne_eq,List.isPrefixOf_iff_prefix];intro hp;have:=hp.length_le;rw [←size_len,←size_len] at this;omega
set_option maxHeartbeats 400000 in
theorem l11Covers_c (a b:Kx.Str) (w:World):Calls Tryz.prog 161 #[.string a,.string b] w fun e w'=>e=.returned (.bool (Kx.pre a b))∧w=w':=by
  by_cases h:a.size≤b.size
  · have H:=hI_ (pre_extract (a:=a) (b:=b));go_enter Tryz.func161,Tryz.ntmps161;go_wp2_with fail;go_ret;exact ⟨ret_bool H.out,rfl⟩
  · have H:=hI_ (pre_long h);go_enter Tryz.func161,Tryz.ntmps161;go_wp2_with fail;go_ret;exact ⟨ret_bool H.out.symm,rfl⟩
set_option maxHeartbeats 400000 in
theorem l11May_c (l:List Kx.Str) (g:Kx.Str) (v:Value) (w:World) (h:RStr w v l):Calls Tryz.prog 126 #[v,.string g] w fun e w'=>e=.returned (.bool (Kx.may l g))∧w=w':=by
  obtain ⟨a,cap,rfl,_,_⟩:=RS.val h;have hl:=h.1;have H:=hI_ h;clear h;go_enter Tryz.func126,Tryz.ntmps126;go_wp2_with fail;go_loop [5] (fun i=>∃ k:Nat,i=.int .i64 k∧k≤l.length∧Hid (∀ j (hj:j<l.length),j<k→Kx.pre l[j] g=false)) (fun i=>l.length - (intOf i).toNat)
  case atStart=>exact ⟨0,rfl,Nat.zero_le _,fun j _ hj=>absurd hj (Nat.not_lt_zero _)⟩
  case round =>
    obtain ⟨k,rfl,hk,hall⟩:=hrel
    by_cases hlt:k<l.length
    · obtain ⟨b,off,cap',e,_,hc⟩:=RStr.at H.out hlt;simp only [Value.slice.injEq] at e;obtain ⟨rfl,_,rfl⟩:=e
      cases hq:Kx.pre l[k] g with
      | true =>
        have HF:=hI_ (show Kx.may l g=true by unfold Kx.may;rw [List.any_eq_true];exact ⟨_,List.getElem_mem hlt,hq⟩);have Hq:=hI_ hq;clear hq;generalize l[k]=s at hc Hq;go_wp2_with fail;refine (l11Covers_c _ _ _).mono ?_;rintro e w' ⟨rfl,rfl⟩;rw [Hq.out];go_wp2_with fail;go_ret;exact ⟨ret_bool HF.out.symm,rfl⟩
      | false =>
        have Hk:=hI_ hq;have Hq:=hI_ hq;clear hq;generalize l[k]=s at hc Hq;go_wp2_with fail;refine (l11Covers_c _ _ _).mono ?_;rintro e w' ⟨rfl,rfl⟩;rw [Hq.out];go_wp2_with fail;go_round
        case rel =>
          refine ⟨k+1,by go_num,by omega,?_⟩;show ∀ j (hj:j<l.length),j<k+1→_;intro j hj hjk
          by_cases e:j=k
          · subst e;exact Hk.out
          · exact hall.out j hj (by omega)
        case measure=>simp [intOf];omega
    · have HF:=hI_ (show Kx.may l g=false by
        unfold Kx.may;rw [Bool.eq_false_iff,ne_eq,List.any_eq_true];rintro ⟨s,hs,hp⟩;obtain ⟨j,hj,rfl⟩:=List.getElem_of_mem hs;rw [hall.out j hj (by omega)] at hp;cases hp)
      go_wp2_with fail;go_ret;exact ⟨ret_bool HF.out.symm,rfl⟩
/-- a letter of a right -/
def letter (b:UInt8):Bool:=97≤b&&b≤99
theorem letter_iff (b:UInt8):letter b=true↔97≤(b.toNat:Int)∧(b.toNat:Int)≤99:=by
  unfold letter;simp only [Bool.and_eq_true,decide_eq_true_eq,UInt8.le_iff_toNat_le,show (97:UInt8).toNat=97 from rfl,show (99:UInt8).toNat=99 from rfl];omega
theorem rightOk_eq (s:Kx.Str):Kx.rightOk s=(s.data.toList.all letter&&decide (s.size≤4)):=rfl
theorem mem_bytes (s:ByteArray) {k:Nat} (h:k<s.size):s[k] ∈ s.data.toList:=by
  have h':k<s.data.size:=h;show s.data[k] ∈ s.data.toList;exact Array.getElem_mem_toList h'
theorem bytes_mem (s:ByteArray) {b:UInt8} (h:b ∈ s.data.toList):∃ k,∃ h:k<s.size,s[k]=b:=by
  obtain ⟨k,hk,e⟩:=List.getElem_of_mem h;have hk':k<s.size:=by rw [size_len];exact hk
  refine ⟨k,hk',?_⟩;have h1:s[k]=s.data[k]'hk':=rfl;rw [h1];simpa using e
set_option maxHeartbeats 400000 in
theorem specRightValid_c (s:Kx.Str) (w:World) (hs:s.size≤9223372036854775807):Calls Tryz.prog 124 #[.string s] w fun e w'=>e=.returned (.bool (Kx.rightOk s))∧w=w':=by
  go_enter Tryz.func124,Tryz.ntmps124;go_wp2_with fail;go_loop [3] (fun i=>∃ k:Nat,i=.int .i64 k∧k≤s.size∧Hid (∀ j (hj:j<s.size),j<k→letter s[j]=true)) (fun i=>s.size - (intOf i).toNat)
  case atStart=>exact ⟨0,rfl,Nat.zero_le _,fun j _ hj=>absurd hj (Nat.not_lt_zero _)⟩
  case round =>
    obtain ⟨k,rfl,hk,hall⟩:=hrel
    by_cases hlt:k<s.size
    · have Hbad:=hI_ (show letter s[k]=false→Kx.rightOk s=false from fun h=>by
        rw [rightOk_eq,Bool.and_eq_false_iff];left;rw [List.all_eq_false];exact ⟨_,mem_bytes s hlt,by rw [h];simp⟩)
      have Hi:=hI_ (letter_iff s[k])
      by_cases h1:(s[k].toNat:Int)<97
      · have HF:=hI_ (Hbad.out (by rw [Bool.eq_false_iff,ne_eq,Hi.out];omega));clear Hbad Hi;go_wp2_with fail;go_ret;exact ⟨ret_bool HF.out.symm,rfl⟩
      · by_cases h2:99<(s[k].toNat:Int)
        · have HF:=hI_ (Hbad.out (by rw [Bool.eq_false_iff,ne_eq,Hi.out];omega));clear Hbad Hi;go_wp2_with fail;go_ret;exact ⟨ret_bool HF.out.symm,rfl⟩
        · have Hk:=hI_ (Hi.out.2 (by omega));clear Hbad Hi;go_wp2_with fail;go_round
          case rel =>
            refine ⟨k+1,by go_num,by omega,?_⟩;show ∀ j (hj:j<s.size),j<k+1→_;intro j hj hjk
            by_cases e:j=k
            · subst e;exact Hk.out
            · exact hall.out j hj (by omega)
          case measure=>simp [intOf];omega
    · have HT:=hI_ (show s.data.toList.all letter=true by
        rw [List.all_eq_true];intro b hb;obtain ⟨j,hj,rfl⟩:=bytes_mem s hb;exact hall.out j hj (by omega))
      go_wp2_with fail;go_ret;refine ⟨ret_bool ?_,rfl⟩;rw [rightOk_eq,HT.out,Bool.true_and];exact Bool.eq_iff_iff.2 (by simp;omega)
/-- the call hands back v; the world has drawn -/
def Qt (v:Value) (w:World) (e:Ending) (w':World):Prop:=e=.returned v∧∃ n,w'=w.drewN n
theorem Qt.below {v:Value} {w:World} {e:Ending} {w':World} (h:Qt v w e w'):e=.returned v∧Below w.heap.size w w':=by
  obtain ⟨h1,n,rfl⟩:=h;exact ⟨h1,⟨rfl,rfl,rfl,Nat.le_refl _,fun _ _=>rfl⟩⟩
theorem RS.drewN {α:Type} {f:α→List Value} {sz:Nat} {w:World} {v:Value} {l:List α} (h:RS f sz w v l) (n:Nat):RS f sz (w.drewN n) v l:=h
theorem ascends_step:∀ (l:List Kx.Str) (k:Nat),(∀ j (hj:j+1<l.length),j+1<k→Kx.lt l[j] l[j+1]=true)→l.length≤k→Kx.ascends l=true
  | [],_,_,_=>rfl
  | [_],_,_,_=>rfl
  | a :: b :: l,k,h,hk=>by
    simp only [Kx.ascends,Bool.and_eq_true];refine ⟨h 0 (by simp) (by simp at hk;omega),ascends_step (b :: l) (k - 1) (fun j hj hjk=>?_) (by simp at hk ⊢;omega)⟩;have:=h (j+1) (by simp at hj ⊢;omega) (by omega);simpa using this
theorem ascends_bad:∀ (l:List Kx.Str) (j:Nat) (hj:j+1<l.length),Kx.lt l[j] l[j+1]=false→Kx.ascends l=false
  | a :: b :: l,0,_,h=>by simp only [Kx.ascends,Bool.and_eq_false_iff];exact .inl (by simpa using h)
  | a :: b :: l,j+1,hj,h=>by
    simp only [Kx.ascends,Bool.and_eq_false_iff];exact .inr (ascends_bad (b :: l) j (by simpa using hj) (by simpa using h))
set_option maxHeartbeats 1000000 in
theorem specRightsValid_c (l:List Kx.Str) (v:Value) (w:World) (h:RStr w v l) (hsz:∀ s ∈ l,s.size≤9223372036854775807):Calls Tryz.prog 89 #[v] w (Qt (.bool (Kx.rightsOk l)) w):=by
  obtain ⟨a,cap,rfl,_,_⟩:=RS.val h;have hl:=h.1;have H:=hI_ h;clear h;have Hsz:=hI_ hsz;clear hsz;go_enter Tryz.func89,Tryz.ntmps89;go_wp2_with fail;go_loopw [3] (fun i wr=>∃ k:Nat,i=.int .i64 k∧k≤l.length∧Hid (∀ j (hj:j<l.length),j<k→Kx.rightOk l[j]=true)∧Hid (∀ j (hj:j+1<l.length),j+1<k→Kx.lt l[j] l[j+1]=true)∧Hid (∃ n,wr=w.drewN n)) (fun i _=>l.length - (intOf i).toNat)
  case atStart=>exact ⟨0,rfl,Nat.zero_le _,fun j _ hj=>absurd hj (Nat.not_lt_zero _),fun j _ hj=>absurd hj (Nat.not_lt_zero _),⟨0,rfl⟩⟩
  case round =>
    obtain ⟨k,rfl,hk,hall,hasc,hw⟩:=hrel;have Hr:=hI_ (show RStr wr (.slice a l.length cap) l by obtain ⟨n,e⟩:=hw.out;rw [e];exact RS.drewN H.out n);have Hw:=hI_ (show ∀ n,∃ m,wr.drewN n=w.drewN m from fun n=>by obtain ⟨m,e⟩:=hw.out;exact ⟨m+n,by rw [e,World.drewN_drewN]⟩)
    by_cases hlt:k<l.length
    · obtain ⟨b,off,cap',e,_,hc⟩:=RStr.at Hr.out hlt;have hprev:∀ hk0:0<k,wr.cell? ⟨b,off+(k - 1),none⟩=some (.string (l[k - 1]'(by omega))):=fun hk0=>by
        obtain ⟨b',off',cap'',e',_,hc'⟩:=RStr.at Hr.out (k:=k - 1) (by omega);rw [e] at e';simp only [Value.slice.injEq,Option.some.injEq,Addr.mk.injEq] at e';obtain ⟨⟨rfl,rfl,_⟩,_⟩:=e';exact hc'
      have Hprev:=hI_ hprev;clear hprev;simp only [Value.slice.injEq] at e;obtain ⟨rfl,_,rfl⟩:=e;have hlI:(k:Int)<(l.length:Int):=by omega
      have Hs:=hI_ (Hsz.out _ (List.getElem_mem hlt))
      cases hq:Kx.rightOk l[k] with
      | false =>
        have HF:=hI_ (show Kx.rightsOk l=false by
          unfold Kx.rightsOk;rw [Bool.and_eq_false_iff,Bool.and_eq_false_iff,List.all_eq_false];exact .inl (.inl ⟨_,List.getElem_mem hlt,by rw [hq];simp⟩))
        have Hq:=hI_ hq;clear hq;generalize l[k]=s at hc Hq Hs;go_wp2_with fail;go_quiet ((go_at_call 124;exact Calls.quiet_of_same ((specRightValid_c _ _ Hs.out).mono fun _ _ ⟨he,hw⟩=>⟨by rw [he,Hq.out],hw.symm⟩)))
        go_wp2_with fail;go_ret;exact ⟨ret_bool HF.out.symm,Hw.out _⟩
      | true =>
        have Hk:=hI_ hq;have Hq:=hI_ hq;clear hq
        by_cases hk0:k=0
        · have hg:decide (0<k)=false:=by simp;omega
          have Hk0:=hI_ hk0;clear hk0;generalize l[k]=s at hc Hq Hs;go_wp2_with fail;go_quiet ((go_at_call 124;exact Calls.quiet_of_same ((specRightValid_c _ _ Hs.out).mono fun _ _ ⟨he,hw⟩=>⟨by rw [he,Hq.out],hw.symm⟩)))
          go_wp2_with fail;go_roundw
          case rel =>
            refine ⟨k+1,by go_num,by omega,?_,?_,Hw.out _⟩
            · show ∀ j (hj:j<l.length),j<k+1→_
              intro j hj hjk;have:=Hk0.out;obtain rfl:j=k:=by omega
              exact Hk.out
            · show ∀ j (hj:j+1<l.length),j+1<k+1→_
              intro j hj hjk;have:=Hk0.out;omega
          case measure=>simp [intOf];omega
        · have hp:=Hprev.out (by omega);have hg:decide (0<k)=true:=by simp;omega
          have eI:IntKind.i64.wrap ((k:Int) - 1)=((k - 1:Nat):Int):=by rw [IntWalk.i64_in _ (by omega)];omega
          have hk1:((k - 1:Nat):Int)<(l.length:Int):=by omega
          have hltk:k - 1+1<l.length:=by omega
          have ek:k - 1+1=k:=by omega
          cases hq2:Kx.lt (l[k - 1]'(by omega)) l[k] with
          | false =>
            have HF:=hI_ (show Kx.rightsOk l=false by
              unfold Kx.rightsOk;rw [Bool.and_eq_false_iff,Bool.and_eq_false_iff];exact .inl (.inr (ascends_bad l (k - 1) hltk (by simp only [ek];exact hq2))))
            unfold Kx.lt at hq2;generalize l[k - 1]'(by omega)=s' at hp hq2;generalize l[k]=s at hc Hq Hs hq2;clear ek hltk;go_wp2_with fail;go_quiet ((go_at_call 124;exact Calls.quiet_of_same ((specRightValid_c _ _ Hs.out).mono fun _ _ ⟨he,hw⟩=>⟨by rw [he,Hq.out],hw.symm⟩)))
            go_wp2_with fail;go_ret;exact ⟨ret_bool HF.out.symm,Hw.out _⟩
          | true =>
            have Hk2:=hI_ hq2;unfold Kx.lt at hq2;generalize l[k - 1]'(by omega)=s' at hp hq2;generalize l[k]=s at hc Hq Hs hq2;have Hek:=hI_ ek;clear ek;go_wp2_with fail;go_quiet ((go_at_call 124;exact Calls.quiet_of_same ((specRightValid_c _ _ Hs.out).mono fun _ _ ⟨he,hw⟩=>⟨by rw [he,Hq.out],hw.symm⟩)))
            go_wp2_with fail;go_roundw
            case rel =>
              refine ⟨k+1,by go_num,by omega,?_,?_,Hw.out _⟩
              · show ∀ j (hj:j<l.length),j<k+1→_
                intro j hj hjk
                by_cases e:j=k
                · subst e;exact Hk.out
                · exact hall.out j hj (by omega)
              · show ∀ j (hj:j+1<l.length),j+1<k+1→_
                intro j hj hjk
                by_cases e:j=k - 1
                · subst e;have e2:=Hek.out;simp only [e2];exact Hk2.out
                · exact hasc.out j hj (by omega)
            case measure=>simp [intOf];omega
    · have HT:=hI_ (show Kx.rightsOk l=decide (l.length≤6) by
        unfold Kx.rightsOk;have h1:l.all Kx.rightOk=true:=by
          rw [List.all_eq_true];intro s hs;obtain ⟨j,hj,rfl⟩:=List.getElem_of_mem hs;exact hall.out j hj (by omega)
        rw [h1,ascends_step l k hasc.out (by omega)];simp)
      go_wp2_with fail;go_ret;refine ⟨ret_bool ?_,hw.out⟩;rw [HT.out];exact Bool.eq_iff_iff.2 (by simp;omega)
set_option maxHeartbeats 1000000 in
theorem l12Info_c (x:Kx.Info) (w:World) (hs:x.guard.size≤9223372036854775807):Calls Tryz.prog 86 #[infoV x] w fun e w'=>e=.returned (.bool (Kx.infoOk x))∧Below w.heap.size w w':=by
  have hb:=hI_ (show Below w.heap.size w (w.alloc (.cells #[.int .i64 x.kind,.string x.guard,.int .i64 x.refs] 45)) from bR_.alloc nR_ _);unfold infoV
  by_cases h0:x.kind=0
  · have hk:(x.kind==0)=true:=by simpa using h0
    have hv:=hI_ (show Kx.infoOk x=decide (x=Kx.Info.zero) by unfold Kx.infoOk;rw [if_pos h0];rfl);have hz:=hI_ (show x=Kx.Info.zero↔x.guard.toList=[]∧x.refs=0 by
      constructor
      · intro e;rw [e];exact ⟨by decide +kernel,rfl⟩
      · rintro ⟨e1,e2⟩;have:x.guard=ByteArray.empty:=Kx.toList_inj (by rw [e1];decide +kernel)
        cases x;simp_all [Kx.Info.zero])
    clear h0
    by_cases hg:x.guard.toList=[]
    · by_cases hr:x.refs=0
      · have hF:=hI_ (show Kx.infoOk x=true by rw [hv.out,decide_eq_true_eq,hz.out];exact ⟨hg,hr⟩);go_enter Tryz.func86,Tryz.ntmps86;go_wp2_with fail;go_ret;exact ⟨ret_bool hF.out.symm,by simpa [hr] using hb.out⟩
      · have hF:=hI_ (show Kx.infoOk x=false by rw [hv.out,decide_eq_false_iff_not,hz.out];exact fun h=>hr h.2);go_enter Tryz.func86,Tryz.ntmps86;go_wp2_with fail;go_ret;exact ⟨ret_bool hF.out.symm,hb.out⟩
    · have hF:=hI_ (show Kx.infoOk x=false by rw [hv.out,decide_eq_false_iff_not,hz.out];exact fun h=>hg h.1);go_enter Tryz.func86,Tryz.ntmps86;go_wp2_with fail;go_ret;exact ⟨ret_bool hF.out.symm,hb.out⟩
  · have hk:(x.kind==0)=false:=by simpa using h0
    have hv:=hI_ (show Kx.infoOk x=(Kx.inR x.kind 1 3&&Kx.rightOk x.guard&&Kx.inR x.refs 0 50) by unfold Kx.infoOk;rw [if_neg h0]);clear h0;go_enter Tryz.func86,Tryz.ntmps86;go_wp2_with fail;refine (l6InK_c _ _ _ _).mono ?_;rintro e w' ⟨rfl,rfl⟩
    cases h1:Kx.inR x.kind 1 3
    · rw [h1] at hv;clear h1;go_wp2_with fail;go_ret;exact ⟨ret_bool (by rw [hv.out];rfl),hb.out⟩
    · rw [h1] at hv;clear h1;go_wp2_with fail;refine (specRightValid_c _ _ hs).mono ?_;rintro e w' ⟨rfl,rfl⟩
      cases h1:Kx.rightOk x.guard
      · rw [h1] at hv;clear h1;go_wp2_with fail;go_ret;exact ⟨ret_bool (by rw [hv.out];rfl),hb.out⟩
      · rw [h1] at hv;clear h1;go_wp2_with fail;refine (l6InK_c _ _ _ _).mono ?_;rintro e w' ⟨rfl,rfl⟩;go_wp2_with fail;go_ret;exact ⟨ret_bool (by rw [hv.out];rfl),hb.out⟩
theorem scan_step {P:Nat→Bool} {k:Nat} (h:∀ j,j<k→P j=true) (hk:P k=true):∀ j,j<k+1→P j=true:=fun j hj=>by
  by_cases e:j=k
  · subst e;exact hk
  · exact h j (by omega)
/-- the texts of a kernel are texts -/
def SaneI (l:List Kx.Info):Prop:=∀ x ∈ l,x.guard.size≤9223372036854775807
def SaneS (l:List Kx.Str):Prop:=∀ x ∈ l,x.size≤9223372036854775807
theorem SaneI.at {l:List Kx.Info} (h:SaneI l) {k:Nat} (hk:k<l.length):(Kx.inf l k).guard.size≤9223372036854775807:=h _ (Kx.inf_mem hk)
set_option maxHeartbeats 2000000 in
theorem specInfosValid_c (l:List Kx.Info) (v:Value) (w:World) (h:RInfo w v l) (hs:SaneI l):Calls Tryz.prog 45 #[v] w fun e w'=>e=.returned (.bool (Kx.infosOk l))∧Below w.heap.size w w':=by
  obtain ⟨a,cap,rfl,_,_⟩:=RS.val h;have hl:=h.1;have H:=hI_ h;have Hs:=hI_ hs;clear h hs;have HT:=hI_ (show (∀ j,j<l.length→Kx.infoOk (Kx.inf l j)=true)→Kx.infosOk l=(l.length==12) from fun hall=>by
    unfold Kx.infosOk;rw [show l.all Kx.infoOk=true by
      rw [List.all_eq_true];intro x hx;obtain ⟨f,hf,rfl⟩:=Kx.mem_inf hx;exact hall f hf,Bool.true_and]
  )
  have HB:=hI_ (show ∀ k,k<l.length→Kx.infoOk (Kx.inf l k)=false→Kx.infosOk l=false from fun k hk hq=>by
    unfold Kx.infosOk;rw [Bool.and_eq_false_iff,List.all_eq_false];exact .inl ⟨_,Kx.inf_mem hk,by rw [hq];simp⟩
  )
  go_enter Tryz.func45,Tryz.ntmps45;go_wp2_with fail;go_loopw [3] (fun i wr=>∃ k:Nat,i=.int .i64 k∧k≤l.length∧Hid (∀ j,j<k→Kx.infoOk (Kx.inf l j)=true)∧Hid (Below w.heap.size w wr)) (fun i _=>l.length - (intOf i).toNat)
  case atStart=>exact ⟨0,rfl,Nat.zero_le _,fun j hj=>absurd hj (Nat.not_lt_zero _),Below.refl _ _⟩
  case round =>
    obtain ⟨k,rfl,hk,hall,hb⟩:=hrel
    by_cases hlt:k<l.length
    · have hlI:(k:Int)<((l.length:Nat):Int):=by omega
      obtain ⟨b,off,cap1,e,_,h1,h2,h3⟩:=RInfo.at (RS.below H.out hb.out) hlt;simp only [Value.slice.injEq] at e;obtain ⟨rfl,_,rfl⟩:=e;have Hsk:=hI_ (Hs.out.at hlt)
      cases hq:Kx.infoOk (Kx.inf l k) with
      | false =>
        have HF:=hI_ (HB.out k hlt hq);have Hq:=hI_ hq;clear hq;generalize Kx.inf l k=x at h1 h2 h3 Hsk Hq;go_wp2_with fail;refine (l12Info_c x _ Hsk.out).mono ?_;rintro e w1 ⟨rfl,hb1⟩;rw [Hq.out];have Hb1:=hI_ (hb.out.trans (hb1.mono hb.out.size));clear hb1;go_wp2_with fail;go_ret;exact ⟨ret_bool HF.out.symm,Hb1.out⟩
      | true =>
        have Hn:=hI_ (scan_step (P:=fun j=>Kx.infoOk (Kx.inf l j)) hall.out hq)
        have Hq:=hI_ hq;clear hq;generalize Kx.inf l k=x at h1 h2 h3 Hsk Hq;go_wp2_with fail;refine (l12Info_c x _ Hsk.out).mono ?_;rintro e w1 ⟨rfl,hb1⟩;rw [Hq.out];have Hb1:=hI_ (hb.out.trans (hb1.mono hb.out.size));clear hb1;go_wp2_with fail;go_roundw
        case rel=>exact ⟨k+1,by go_num,by omega,Hn.out,Hb1.out⟩
        case measure=>simp [intOf];omega
    · have hkn:k=l.length:=by omega
      subst hkn;have HF:=hI_ (HT.out hall.out);go_wp2_with fail;go_ret;exact ⟨ret_bool (by rw [HF.out];exact Bool.eq_iff_iff.2 (by simp;omega)),hb.out⟩
set_option maxHeartbeats 2000000 in
theorem l21Allowed_c (l:List Kx.Info) (fs:List Nat) (r:List Kx.Str) (v u t:Value) (w:World) (h:RInfo w v l) (hf:RI w u (ofN fs)) (hr:RStr w t r) (hlt12:∀ f ∈ fs,f<l.length):Calls Tryz.prog 91 #[v,u,t] w fun e w'=>e=.returned (.bool (Kx.allowed l fs r))∧Below w.heap.size w w':=by
  obtain ⟨a,cap,rfl,_,_⟩:=RS.val h;obtain ⟨a2,cap2,rfl⟩:=hf.val;have hl:=h.1;have hl2:=hf.1;have H:=hI_ h;have Hf:=hI_ hf;have Hr:=hI_ hr;have H12:=hI_ hlt12;clear h hf hr hlt12;have Hn:=hI_ (ofN_length fs);rw [ofN_length fs] at hl2 ⊢;have HT:=hI_ (show (∀ j,j<fs.length→Kx.may r (Kx.inf l (fs.getD j 0)).guard=true)→Kx.allowed l fs r=true from fun hall=>by
    unfold Kx.allowed;rw [List.all_eq_true];intro f hf;obtain ⟨j,hj,rfl⟩:=List.getElem_of_mem hf;have:=hall j hj;rwa [List.getD_eq_getElem?_getD,List.getElem?_eq_getElem hj] at this
  )
  have HB:=hI_ (show ∀ k,k<fs.length→Kx.may r (Kx.inf l (fs.getD k 0)).guard=false→Kx.allowed l fs r=false from fun k hk hq=>by
    unfold Kx.allowed;rw [List.all_eq_false];refine ⟨fs[k],List.getElem_mem hk,?_⟩;rw [List.getD_eq_getElem?_getD,List.getElem?_eq_getElem hk] at hq;rw [Option.getD_some] at hq;rw [hq];simp
  )
  go_enter Tryz.func91,Tryz.ntmps91;go_wp2_with fail;go_loopw [7] (fun i wr=>∃ k:Nat,i=.int .i64 k∧k≤fs.length∧Hid (∀ j,j<k→Kx.may r (Kx.inf l (fs.getD j 0)).guard=true)∧Hid (Below w.heap.size w wr)) (fun i _=>fs.length - (intOf i).toNat)
  case atStart=>exact ⟨0,rfl,Nat.zero_le _,fun j hj=>absurd hj (Nat.not_lt_zero _),Below.refl _ _⟩
  case round =>
    obtain ⟨k,rfl,hk,hall,hb⟩:=hrel
    by_cases hlt:k<fs.length
    · have hlI:(k:Int)<((fs.length:Nat):Int):=by omega
      have hlt2:k<(ofN fs).length:=by rw [Hn.out];exact hlt
      obtain ⟨b2,off2,cap3,e2,_,g1⟩:=(Hf.out.below hb.out).at hlt2;rw [Hn.out] at e2;simp only [Value.slice.injEq] at e2;obtain ⟨rfl,_,rfl⟩:=e2;rw [ofN_getElem fs k hlt2 hlt] at g1;have hfk:fs.getD k 0<l.length:=by
        rw [List.getD_eq_getElem?_getD,List.getElem?_eq_getElem hlt];exact H12.out _ (List.getElem_mem hlt)
      have egd:fs[k]=fs.getD k 0:=by rw [List.getD_eq_getElem?_getD,List.getElem?_eq_getElem hlt];rfl
      rw [egd] at g1;obtain ⟨b,off,cap1,e,_,h1,h2,h3⟩:=RInfo.at (RS.below H.out hb.out) hfk;simp only [Value.slice.injEq] at e;obtain ⟨rfl,_,rfl⟩:=e;have hfI:((fs.getD k 0:Nat):Int)<(l.length:Int):=by omega
      clear egd hlt2
      cases hq:Kx.may r (Kx.inf l (fs.getD k 0)).guard with
      | false =>
        have HF:=hI_ (HB.out k hlt hq);have Hq:=hI_ hq;clear hq;generalize fs.getD k 0=f at g1 h1 h2 h3 hfI Hq hfk;generalize Kx.inf l f=x at h1 h2 h3 Hq;go_wp2_with fail;refine (l11May_c r _ _ _ (RS.below Hr.out hb.out)).mono ?_;rintro e w1 ⟨rfl,rfl⟩;rw [Hq.out];have Hb1:=hI_ hb.out;go_wp2_with fail;go_ret;exact ⟨ret_bool HF.out.symm,Hb1.out⟩
      | true =>
        have Hn:=hI_ (scan_step (P:=fun j=>Kx.may r (Kx.inf l (fs.getD j 0)).guard) hall.out hq)
        have Hq:=hI_ hq;clear hq;generalize fs.getD k 0=f at g1 h1 h2 h3 hfI Hq hfk;generalize Kx.inf l f=x at h1 h2 h3 Hq;go_wp2_with fail;refine (l11May_c r _ _ _ (RS.below Hr.out hb.out)).mono ?_;rintro e w1 ⟨rfl,rfl⟩;rw [Hq.out];have Hb1:=hI_ hb.out;go_wp2_with fail;go_roundw
        case rel=>exact ⟨k+1,by go_num,by omega,Hn.out,Hb1.out⟩
        case measure=>simp [intOf];omega
    · have hkn:k=fs.length:=by omega
      subst hkn;have HF:=hI_ (HT.out hall.out);go_wp2_with fail;go_ret;exact ⟨ret_bool (by rw [HF.out]),hb.out⟩
theorem l13Table_c (x:Int) (w:World):Calls Tryz.prog 92 #[.int .i64 x] w fun e w'=>e=.returned (.bool (Kx.isTab x))∧w=w':=by
  by_cases h2:x=2
  · subst h2;go_enter Tryz.func92,Tryz.ntmps92;go_wp2_with fail;go_ret;exact ⟨rfl,rfl⟩
  · have hb2:(x==2)=false:=by simpa using h2
    by_cases h3:x=3
    · subst h3;go_enter Tryz.func92,Tryz.ntmps92;go_wp2_with fail;go_ret;exact ⟨rfl,rfl⟩
    · have hb3:(x==3)=false:=by simpa using h3
      have H:=hI_ (show Kx.isTab x=false by simp [Kx.isTab,h2,h3]);clear h2 h3;go_enter Tryz.func92,Tryz.ntmps92;go_wp2_with fail;go_ret;exact ⟨ret_bool H.out.symm,rfl⟩
theorem isTable_c (x:Int) (w:World):Calls Tryz.prog 41 #[.int .i64 x] w fun e w'=>e=.returned (.bool (Kx.isTab x))∧w=w':=by
  by_cases h2:x=2
  · subst h2;go_enter Tryz.func41,Tryz.ntmps41;go_wp2_with fail;go_ret;exact ⟨rfl,rfl⟩
  · have hb2:(x==2)=false:=by simpa using h2
    by_cases h3:x=3
    · subst h3;go_enter Tryz.func41,Tryz.ntmps41;go_wp2_with fail;go_ret;exact ⟨rfl,rfl⟩
    · have hb3:(x==3)=false:=by simpa using h3
      have H:=hI_ (show Kx.isTab x=false by simp [Kx.isTab,h2,h3]);clear h2 h3;go_enter Tryz.func41,Tryz.ntmps41;go_wp2_with fail;go_ret;exact ⟨ret_bool H.out.symm,rfl⟩
set_option maxHeartbeats 1000000 in
theorem l13Entry_c (l:List Kx.Info) (t:Nat) (x kind:Int) (r:List Kx.Str) (v u:Value) (w:World) (h:RInfo w v l) (h12:l.length=12) (hr:RStr w u r) (hk:kind=2∨kind=3) :
    Calls Tryz.prog 127 #[v,.int .i64 t,.int .i64 x,.int .i64 kind,u] w fun e w'=>e=.returned (.bool (Kx.entryOk l t x kind r))∧w=w':=by
  cases he:Kx.entry x with
  | none =>
    have HF:=hI_ (show Kx.entryOk l t x kind r=(x==0) by unfold Kx.entryOk;rw [he]);have He:=hI_ he;clear he hk h h12 hr
    by_cases h0:x=0
    · subst h0;go_enter Tryz.func127,Tryz.ntmps127;go_wp2_with fail;refine (specEntryGet_c _ _).mono ?_;rintro e w' ⟨rfl,rfl⟩;rw [EgN He.out];go_wp2_with fail;go_ret;exact ⟨ret_bool (by rw [HF.out];rfl),rfl⟩
    · have hb:(x==0)=false:=by simpa using h0
      rw [hb] at HF;clear h0;go_enter Tryz.func127,Tryz.ntmps127;go_wp2_with fail;refine (specEntryGet_c _ _).mono ?_;rintro e w' ⟨rfl,rfl⟩;rw [EgN He.out];go_wp2_with fail;go_ret;exact ⟨ret_bool HF.out.symm,rfl⟩
  | some p =>
    obtain ⟨g,c⟩:=p;have hg:=Kx.entry_lt he;have HF:=hI_ (show Kx.entryOk l t x kind r=(g != t&&(Kx.inf l g).kind==kind - 1&&Kx.may r (Kx.inf l g).guard) by unfold Kx.entryOk;rw [he]);have He:=hI_ he;clear he;obtain ⟨b,off,cap1,rfl,_,h1,h2,h3⟩:=RInfo.at h (k:=g) (by omega);have hgI:(g:Int)<(l.length:Int):=by omega
    have ek:kind - 1=1∨kind - 1=2:=by omega
    have Hr:=hI_ hr;have eI:IntKind.i64.wrap (kind - 1)=kind - 1:=by rw [IntWalk.i64_in _ (by omega)]
    clear h hr h12;generalize Kx.inf l g=y at h1 h2 h3 HF
    by_cases ht:g=t
    · subst ht;have HF2:=hI_ (HF.out.trans (show _=false by simp));clear HF;go_enter Tryz.func127,Tryz.ntmps127;go_wp2_with fail;refine (specEntryGet_c _ _).mono ?_;rintro e w' ⟨rfl,rfl⟩;rw [EgS He.out];go_wp2_with fail;go_ret;exact ⟨ret_bool HF2.out.symm,rfl⟩
    · have htb:(g != t)=true:=by simpa using ht
      have htI:((g:Int) != (t:Int))=true:=by rw [bne_iff_ne];omega
      rw [htb] at HF;clear ht htb
      by_cases hky:y.kind=kind - 1
      · have hkb:(y.kind==kind - 1)=true:=by simpa using hky
        rw [hkb] at HF;clear hky;go_enter Tryz.func127,Tryz.ntmps127;go_wp2_with fail;refine (specEntryGet_c _ _).mono ?_;rintro e w' ⟨rfl,rfl⟩;rw [EgS He.out];go_wp2_with fail;refine (l11May_c r _ _ _ Hr.out).mono ?_;rintro e w' ⟨rfl,rfl⟩;go_wp2_with fail;go_ret;exact ⟨ret_bool (by rw [HF.out];rfl),rfl⟩
      · have hkb:(y.kind==kind - 1)=false:=by simpa using hky
        rw [hkb] at HF;clear hky;go_enter Tryz.func127,Tryz.ntmps127;go_wp2_with fail;refine (specEntryGet_c _ _).mono ?_;rintro e w' ⟨rfl,rfl⟩;rw [EgS He.out];go_wp2_with fail;go_ret;exact ⟨ret_bool (by rw [HF.out];rfl),rfl⟩
set_option maxHeartbeats 2000000 in
theorem l13Ok_c (m:List (List Int)) (l:List Kx.Info) (f:Nat) (kind:Int) (r:List Kx.Str) (vm v u:Value) (w:World) (hm:RM w vm m) (hmo:Kx.memOk m=true) (h:RInfo w v l) (h12:l.length=12) (hr:RStr w u r) (hk:kind=2∨kind=3) (hf:f<12):Calls Tryz.prog 93 #[vm,v,.int .i64 f,.int .i64 kind,u] w fun e w'=>e=.returned (.bool (Kx.rowOk m l f kind r))∧Below w.heap.size w w':=by
  obtain ⟨a,cap,rfl,_,_⟩:=RS.val h;obtain ⟨_,a2,cap2,rfl,_,_⟩:=hm.len;have h4:=hI_ (mem_row hmo hf).2.1;have Hm12:=hI_ (mem_row hmo hf).1;have H:=hI_ h;have Hm:=hI_ hm;have Hr:=hI_ hr;have H12:=hI_ h12;have Hk:=hI_ hk;clear h hm hr hk h12;have HT:=hI_ (show (∀ j,j<4→Kx.entryOk l f (Kx.word m f j) kind r=true)→Kx.rowOk m l f kind r=true from fun hall=>by
    unfold Kx.rowOk;rw [List.all_eq_true];intro x hx;obtain ⟨j,hj,rfl⟩:=Kx.mem_getD hx;exact hall j (by rw [h4.out] at hj;exact hj)
  )
  have HB:=hI_ (show ∀ k,k<4→Kx.entryOk l f (Kx.word m f k) kind r=false→Kx.rowOk m l f kind r=false from fun k hk hq=>by
    unfold Kx.rowOk;rw [List.all_eq_false];exact ⟨_,Kx.getD_mem (by rw [h4.out];exact hk),by unfold Kx.word at hq;rw [hq];simp⟩
  )
  go_enter Tryz.func93,Tryz.ntmps93;go_wp2_with fail;go_loopw [11] (fun i wr=>∃ k:Nat,i=.int .i64 k∧k≤4∧Hid (∀ j,j<k→Kx.entryOk l f (Kx.word m f j) kind r=true)∧Hid (Below w.heap.size w wr)) (fun i _=>4 - (intOf i).toNat)
  case atStart=>exact ⟨0,rfl,Nat.zero_le _,fun j hj=>absurd hj (Nat.not_lt_zero _),Below.refl _ _⟩
  case round =>
    obtain ⟨k,rfl,hk,hall,hb⟩:=hrel
    by_cases hlt:k<4
    · have hlI:(k:Int)<((4:Nat):Int):=by omega
      obtain ⟨b,off,cap3,b',off',cap',e,g1,g2,g3,g4⟩:=(Hm.out.below hb.out).word hmo hf hlt;rw [←Hm12.out] at e;simp only [Value.slice.injEq] at e;obtain ⟨rfl,_,rfl⟩:=e;have hfm:(f:Int)<(m.length:Int):=by rw [Hm12.out];omega
      have hk4:(k:Int)<4:=by omega
      cases hq:Kx.entryOk l f (Kx.word m f k) kind r with
      | false =>
        have HF:=hI_ (HB.out k hlt hq);have Hq:=hI_ hq;clear hq;generalize Kx.word m f k=x at g2 g3 g4 Hq;go_wp2_with fail;refine (l13Entry_c l f x kind r _ _ _ (RS.below H.out hb.out) H12.out (RS.below Hr.out hb.out) Hk.out).mono ?_;rintro e w1 ⟨rfl,rfl⟩;rw [Hq.out];have Hb1:=hI_ hb.out;go_wp2_with fail;go_ret;exact ⟨ret_bool HF.out.symm,Hb1.out⟩
      | true =>
        have Hn:=hI_ (scan_step (P:=fun j=>Kx.entryOk l f (Kx.word m f j) kind r) hall.out hq)
        have Hq:=hI_ hq;clear hq;generalize Kx.word m f k=x at g2 g3 g4 Hq;go_wp2_with fail;refine (l13Entry_c l f x kind r _ _ _ (RS.below H.out hb.out) H12.out (RS.below Hr.out hb.out) Hk.out).mono ?_;rintro e w1 ⟨rfl,rfl⟩;rw [Hq.out];have Hb1:=hI_ hb.out;go_wp2_with fail;go_roundw
        case rel=>exact ⟨k+1,by go_num,by omega,Hn.out,Hb1.out⟩
        case measure=>simp [intOf];omega
    · have hkn:k=4:=by omega
      subst hkn;have HF:=hI_ (HT.out hall.out);go_wp2_with fail;go_ret;exact ⟨ret_bool (by rw [HF.out]),hb.out⟩
theorem Below.drewB {B:Nat} {a w:World} (h:Below B a w):Below B a w.drew:=⟨h.os,h.tape,h.output,h.size,h.block⟩
theorem grownBy_drew {a w:World} {r:Option Nat} (h:a.grownBy w r):a.grownBy w.drew r:=⟨h.os,h.tape,h.output,h.size,h.block⟩
/-- a row of numbers by their places -/
def tab12 (F:Nat→Nat):List Int:=(List.range 12).map fun g=>(F g:Int)
theorem tab12_length (F:Nat→Nat):(tab12 F).length=12:=by simp [tab12]
theorem tab12_get (F:Nat→Nat) (n:Nat) (h:n<(tab12 F).length):(tab12 F)[n]=(F n:Int):=by simp [tab12]
theorem tab12_set (F F':Nat→Nat) (n:Nat) (x:Int) (hx:x=(F' n:Int)) (h:∀ g,g≠n→F' g=F g):(tab12 F).set n x=tab12 F':=by
  refine List.ext_getElem (by simp [tab12]) fun i h1 h2=>?_
  rw [List.getElem_set];split
  · rename_i e;subst e;rw [tab12_get,hx]
  · rename_i e;rw [tab12_get,tab12_get,h i (Ne.symm e)]
theorem tab12_congr {F F':Nat→Nat} (h:∀ g,g<12→F g=F' g):tab12 F=tab12 F':=by
  unfold tab12;exact List.map_congr_left fun g hg=>by rw [h g (by simpa using hg)]
/-- uses by the first f tables, and by the first i names of the next one -/
def cnt (m:List (List Int)) (l:List Kx.Info) (f i g:Nat):Nat:=((List.range f).map (Kx.ctr m l g)).sum+((Kx.namedW (Kx.row m f)).take i).count g
theorem cnt_zero (m:List (List Int)) (l:List Kx.Info) (g:Nat):cnt m l 0 0 g=0:=by simp [cnt]
theorem cnt_next (m:List (List Int)) (l:List Kx.Info) (f g:Nat) (ht:Kx.isTab (Kx.inf l f).kind=true):cnt m l (f+1) 0 g=cnt m l f (Kx.namedW (Kx.row m f)).length g:=by
  unfold cnt;rw [List.range_succ,List.map_append,List.sum_append,List.take_length];simp [Kx.ctr,ht]
theorem cnt_skip (m:List (List Int)) (l:List Kx.Info) (f g:Nat) (ht:Kx.isTab (Kx.inf l f).kind=false):cnt m l (f+1) 0 g=cnt m l f 0 g:=by
  unfold cnt;rw [List.range_succ,List.map_append,List.sum_append];simp [Kx.ctr,ht]
theorem cnt_step (m:List (List Int)) (l:List Kx.Info) (f i g:Nat) (hi:i<(Kx.namedW (Kx.row m f)).length):cnt m l f (i+1) g=cnt m l f i g+if g=(Kx.namedW (Kx.row m f))[i] then 1 else 0:=by
  unfold cnt;rw [List.take_succ_eq_append_getElem hi,List.count_append]
  by_cases h:g=(Kx.namedW (Kx.row m f))[i]
  · rw [if_pos h,h];simp;omega
  · rw [if_neg h,List.count_singleton];have:((Kx.namedW (Kx.row m f))[i]==g)=false:=by rw [beq_eq_false_iff_ne];exact Ne.symm h
    rw [this];simp
theorem cnt_le (m:List (List Int)) (l:List Kx.Info) (hm:∀ f,f<12→(Kx.row m f).length=4) (f i g:Nat) (hf:f≤12):cnt m l f i g≤4*f+i:=by
  unfold cnt;have h1:((List.range f).map (Kx.ctr m l g)).sum≤f*4:=Kx.sum_le fun j hj=>by
    unfold Kx.ctr;split
    · exact Nat.le_trans (Kx.count_le _ _) (by rw [hm j (by omega)];omega)
    · omega
  have h2:((Kx.namedW (Kx.row m f)).take i).count g≤i:=Nat.le_trans List.count_le_length (List.length_take_le _ _);omega
theorem cnt_all (m:List (List Int)) (l:List Kx.Info):tab12 (cnt m l 12 0)=Kx.counts m l:=by
  unfold tab12 Kx.counts;refine List.map_congr_left fun g hg=>?_
  rw [Kx.countT_eq];unfold cnt;simp
set_option maxHeartbeats 2000000 in
theorem l13Count_c (m:List (List Int)) (l:List Kx.Info) (vm v:Value) (w:World) (hm:RM w vm m) (hmo:Kx.memOk m=true) (h:RInfo w v l) (h12:l.length=12) :
    Calls Tryz.prog 94 #[vm,v] w (MadeI w (Kx.counts m l)):=by
  obtain ⟨a,cap,rfl,_,_⟩:=RS.val h;obtain ⟨_,a2,cap2,rfl,_,_⟩:=hm.len;have hrow4:=hI_ (show ∀ f,f<12→(Kx.row m f).length=4 from fun f hf=>(mem_row hmo hf).2.1)
  have Hm12:=hI_ (mem_row hmo (show 0<12 by omega)).1;have H:=hI_ h;have Hm:=hI_ hm;have H12:=hI_ h12;have Hall:=hI_ (cnt_all m l);have hmk:∀ w:World,(Instr.makeSlice 42 (.int .i64 12) (.int .i64 12)).run Tryz.prog w=.ok (.slice (some ⟨w.heap.size,0,none⟩) 12 12) (w.alloc (.cells #[.int .i64 0,.int .i64 0,.int .i64 0,.int .i64 0,.int .i64 0,.int .i64 0,.int .i64 0,.int .i64 0,.int .i64 0,.int .i64 0,.int .i64 0,.int .i64 0] 3)):=fun _=>by kernel_rfl
  have H0:=hI_ (show OS intC 1 3 (w.alloc (.cells #[.int .i64 0,.int .i64 0,.int .i64 0,.int .i64 0,.int .i64 0,.int .i64 0,.int .i64 0,.int .i64 0,.int .i64 0,.int .i64 0,.int .i64 0,.int .i64 0] 3)) w.heap.size (.slice (some ⟨w.heap.size,0,none⟩) 12 12) (tab12 (cnt m l 0 0)) by
    have e:tab12 (cnt m l 0 0)=[0,0,0,0,0,0,0,0,0,0,0,0]:=by
      rw [tab12_congr (F':=fun _=>0) (fun g _=>cnt_zero m l g)];rfl
    rw [e];exact OS.lit (l:=[0,0,0,0,0,0,0,0,0,0,0,0]) nR_ _ rfl rfl (by simp))
  clear h hm h12;go_enter Tryz.func94,Tryz.ntmps94;go_wp2_with fail;clear hmk;go_loopw [6,7,8] (fun i _ _ wr=>∃ f:Nat,i=.int .i64 f∧f≤12∧Hid (OS intC 1 3 wr w.heap.size (.slice (some ⟨w.heap.size,0,none⟩) 12 12) (tab12 (cnt m l f 0)))∧Hid (Below w.heap.size w wr)) (fun i _ _ _=>12 - (intOf i).toNat)
  case atStart=>exact ⟨0,rfl,Nat.zero_le _,H0.out,bR_.alloc nR_ _⟩
  case round =>
    clear H0;obtain ⟨f,rfl,hf,ho,hb⟩:=hrel
    by_cases hlt:f<12
    · obtain ⟨b1,off1,cap1,u,e,hc,hru⟩:=(Hm.out.below hb.out).row hmo hlt;rw [←Hm12.out] at e;simp only [Value.slice.injEq] at e;obtain ⟨rfl,_,rfl⟩:=e;have hfm:(f:Int)<(m.length:Int):=by rw [Hm12.out];omega
      have Hr:=hI_ hru;clear hru;go_wp2_with fail;refine (l3Named_c _ _ _ Hr.out).mono ?_;rintro e w1 ⟨u1,rfl,ho4,hb4⟩;obtain ⟨ns,hns⟩:∃ ns,Kx.namedW (Kx.row m f)=ns:=⟨_,rfl⟩;rw [hns] at ho4;have Hlt12:=hI_ (show ∀ x ∈ ns,x<12 by rw [←hns];exact fun x hx=>Kx.namedW_lt hx);have Hlen4:=hI_ (show ns.length≤4 by rw [←hns,←hrow4.out f hlt];unfold Kx.namedW;exact List.length_filterMap_le _ _);have Hns:=hI_ hns;have Ho1:=hI_ (ho.out.below hb4);have Hb1:=hI_ (hb.out.trans (hb4.mono hb.out.size));have Hn1:=hI_ ho4.os;have Hsep:=hI_ (show Sep u1 (.slice (some ⟨w.heap.size,0,none⟩) 12 12) from Sep.later ho.out ho4.os nR_);obtain ⟨a3,cap3,rfl,_,_⟩:=Hn1.out.rs.val;obtain ⟨n,hn⟩:∃ n,(ofN ns).length=n:=⟨_,rfl⟩;have Hn:=hI_ hn;rw [hn] at Hn1 Hsep ⊢;clear hns hb4 ho4 hn hc;go_wp2_with fail
      go_loopw [8] (fun i wq=>∃ j:Nat,i=.int .i64 j∧j≤n∧Hid (Kx.isTab (Kx.inf l f).kind=false→j=0)∧Hid (OS intC 1 3 wq w.heap.size (.slice (some ⟨w.heap.size,0,none⟩) 12 12) (tab12 (cnt m l f j)))∧Hid (∃ b,OS intC 1 3 wq b (.slice a3 n cap3) (ofN ns))∧Hid (Below w.heap.size w wq)) (fun i _=>n - (intOf i).toNat)
      case atStart=>exact ⟨0,rfl,Nat.zero_le _,fun _=>rfl,Ho1.out,⟨_,Hn1.out⟩,Hb1.out⟩
      case round =>
        clear Ho1 Hb1 Hn1 ho hb Hr;obtain ⟨j,rfl,hj,hj0,ho,hnn,hb⟩:=hrel;obtain ⟨b5,off5,cap5,e,_,h1,h2,h3⟩:=RInfo.at (RS.below H.out hb.out) (k:=f) (by rw [H12.out];exact hlt);simp only [Value.slice.injEq] at e;obtain ⟨rfl,_,rfl⟩:=e;have hfl:(f:Int)<(l.length:Int):=by rw [H12.out];omega
        cases ht:Kx.isTab (Kx.inf l f).kind with
        | false =>
          have hj00:=hj0.out ht;subst hj00;have Hskip:=hI_ (show tab12 (cnt m l (f+1) 0)=tab12 (cnt m l f 0) from tab12_congr fun g _=>cnt_skip m l f g ht)
          have Ht:=hI_ ht;clear ht hj0;generalize Kx.inf l f=y at h1 h2 h3 Ht
          by_cases hn0:n=0
          · have hb0:decide (0<n)=false:=by simp;omega
            clear hn0;go_wp2_with fail;go_roundw
            case rel=>exact ⟨f+1,by go_num,by omega,by show OS _ _ _ _ _ _ _;rw [Hskip.out];exact ho.out,hb.out⟩
            case measure=>simp [intOf];omega
          · have hb0:decide (0<n)=true:=by simp;omega
            clear hn0;go_wp2_with fail;refine (l13Table_c _ _).mono ?_;rintro e w' ⟨rfl,rfl⟩;rw [Ht.out];go_wp2_with fail;go_roundw
            case rel=>exact ⟨f+1,by go_num,by omega,by show OS _ _ _ _ _ _ _;rw [Hskip.out];exact ho.out,hb.out⟩
            case measure=>simp [intOf];omega
        | true =>
          by_cases hjn:j<n
          · obtain ⟨bb,hnn'⟩:=hnn.out;have hjl:j<ns.length:=by have:=Hn.out;rw [ofN_length] at this;omega
            have hj':j<(ofN ns).length:=by rw [ofN_length];exact hjl
            obtain ⟨b3,off3,cap4,e,_,hc3⟩:=hnn'.rs.at hj';have hcx:=hc3 0 _ rfl;rw [Hn.out] at e;simp only [Value.slice.injEq] at e;obtain ⟨rfl,_,rfl⟩:=e;rw [ofN_getElem ns j hj' hjl,Nat.mul_one,Nat.add_zero] at hcx;have hx12:=Hlt12.out _ (List.getElem_mem hjl);have hstep:=hI_ (show ∀ g,cnt m l f (j+1) g=cnt m l f j g+if g=ns[j] then 1 else 0 from fun g=>by
              have hns:=Hns.out;subst hns;exact cnt_step m l f j g hjl)
            have hle:=cnt_le m l hrow4.out f j ns[j] hf;have Hj4:=Hlen4.out;generalize ns[j]=x at hcx hx12 hstep hle;obtain ⟨g,cap6,e,_,hcg,hfg⟩:=ho.out.oi.at (k:=x) (by rw [tab12_length];exact hx12);simp only [Value.slice.injEq,Option.some.injEq,Addr.mk.injEq] at e;obtain ⟨⟨rfl,_,_⟩,he12,rfl⟩:=e;clear he12;rw [tab12_get] at hcg;have hset:=hI_ (tab12_set (cnt m l f j) (cnt m l f (j+1)) x ((cnt m l f j x:Int)+1) (by rw [hstep.out,if_pos rfl];omega) (fun g hg=>by rw [hstep.out,if_neg hg];rfl));have hst:=ho.out.oi.stored (tab12_length _) x ((cnt m l f j x:Int)+1);rw [hset.out] at hst;have Hst:=hI_ hst.1;have Hgr:=hI_ hst.2;have Hnn:=hI_ hnn';have hxI:(x:Int)<12:=by omega
            have hbI:(cnt m l f j x:Int)≤1000:=by omega
            have hjI:(j:Int)<(n:Int):=by omega
            have hn4:(n:Int)≤4:=by have:=Hn.out;rw [ofN_length] at this;omega
            have hbsz:=hI_ hb.out.size;have Ht:=hI_ ht;clear hst hset hstep hle hc3 hnn' hnn Hj4 hj' hjl ht;generalize cnt m l f j x=q at hcg Hst Hgr hbI;generalize Kx.inf l f=y at h1 h2 h3 Ht hj0;go_wp2_with fail;refine (l13Table_c _ _).mono ?_;rintro e w' ⟨rfl,rfl⟩;rw [Ht.out];go_wp2_with fail;go_region
            all_goals
              go_wp2_with fail;go_roundw
              case rel =>
                refine ⟨j+1,by go_num,by omega,(fun h=>by cases h),Hst.out.os,⟨bb,Hnn.out.kept (grownBy_drew Hgr.out) ?_⟩,Below.drewB (hb.out.setCell (p:=⟨w.heap.size,x,none⟩) nR_ _)⟩;exact Hsep.out
              case measure=>simp [intOf];omega
          · have hjn':j=n:=by omega
            subst hjn';have Hnext:=hI_ (show tab12 (cnt m l (f+1) 0)=tab12 (cnt m l f j) from tab12_congr fun g _=>by
              rw [cnt_next m l f g ht,Hns.out];have:=Hn.out;rw [ofN_length] at this;rw [this])
            clear ht hj0;generalize Kx.inf l f=y at h1 h2 h3;go_wp2_with fail;go_roundw
            case rel=>exact ⟨f+1,by go_num,by omega,by show OS _ _ _ _ _ _ _;rw [Hnext.out];exact ho.out,hb.out⟩
            case measure=>simp [intOf];omega
    · have:f=12:=by omega
      subst this;go_wp2_with fail;go_ret;exact ⟨_,rfl,by rw [←Hall.out];exact ho.out.oi,hb.out⟩
/-- a box of four cells -/
def Box4 (w:World) (b:Nat) (v0 v1 v2 v3:Value):Prop:=
  w.cell? ⟨b,0,none⟩=some v0∧w.cell? ⟨b,1,none⟩=some v1∧w.cell? ⟨b,2,none⟩=some v2∧w.cell? ⟨b,3,none⟩=some v3∧b<w.heap.size
theorem Box4.new (w:World) (v0 v1 v2 v3:Value) (e:TypeId):Box4 (w.alloc (.cells #[v0,v1,v2,v3] e)) w.heap.size v0 v1 v2 v3:=by
  have h:(w.alloc (.cells #[v0,v1,v2,v3] e)).heap[w.heap.size]?=some (.cells #[v0,v1,v2,v3] e (0,0)):=heap_alloc_new w _;exact ⟨cell_of_row _ _ 0 _ _ _ h,cell_of_row _ _ 1 _ _ _ h,cell_of_row _ _ 2 _ _ _ h,cell_of_row _ _ 3 _ _ _ h,by simp⟩
theorem Box4.below {w w':World} {b:Nat} {v0 v1 v2 v3:Value} (h:Box4 w b v0 v1 v2 v3) (hb:Below w.heap.size w w'):Box4 w' b v0 v1 v2 v3:=
  ⟨(hb.cell (p:=⟨b,0,none⟩) h.2.2.2.2).trans h.1,(hb.cell (p:=⟨b,1,none⟩) h.2.2.2.2).trans h.2.1,(hb.cell (p:=⟨b,2,none⟩) h.2.2.2.2).trans h.2.2.1,(hb.cell (p:=⟨b,3,none⟩) h.2.2.2.2).trans h.2.2.2.1,Nat.lt_of_lt_of_le h.2.2.2.2 hb.size⟩
theorem Below.lit {a w:World} (h:Below a.heap.size a w) (o:Obj):Below a.heap.size a (w.alloc o):=h.alloc h.size o
set_option maxHeartbeats 4000000 in
theorem l21Tables_c (k:Kx.Kernel) (vm vi ve vc:Value) (w:World) (h:RK w vm vi ve vc k) (hmo:Kx.memOk k.mem=true) (hio:k.infos.length=12) :
    Calls Tryz.prog 48 #[.agg #[vm,vi,ve,vc]] w fun e w'=>e=.returned (.bool (Kx.tabsOk k))∧Below w.heap.size w w':=by
  obtain ⟨w0,hw0⟩:∃ w0,w.alloc (.cells #[vm,vi,ve,vc] 28)=w0:=⟨_,rfl⟩;have Hw0:=hI_ (show Below w.heap.size w w0 from hw0 ▸ (Below.refl w.heap.size w).alloc nR_ _);have Hbx:=hI_ (show Box4 w0 w.heap.size vm vi ve vc from hw0 ▸ Box4.new w vm vi ve vc _);have HK:=hI_ (h.below Hw0.out);obtain ⟨ai,ci,rfl,_,_⟩:=RS.val h.i;have Hio:=hI_ hio;clear h hio;go_enter Tryz.func48,Tryz.ntmps48;go_wp2_with fail;clear hw0;go_loopw [3] (fun i wr=>∃ f:Nat,i=.int .i64 f∧f≤12∧Hid (∀ j,j<f→(!Kx.isTab (Kx.inf k.infos j).kind||Kx.rowOk k.mem k.infos j (Kx.inf k.infos j).kind [ByteArray.empty])=true)∧Hid (Below w0.heap.size w0 wr)) (fun i _=>12 - (intOf i).toNat)
  case atStart=>exact ⟨0,rfl,Nat.zero_le _,fun j hj=>absurd hj (Nat.not_lt_zero _),Below.refl _ _⟩
  case round =>
    obtain ⟨f,rfl,hf,hall,hb⟩:=hrel
    by_cases hlt:f<12
    · obtain ⟨k0,k1,k2,k3,hbl⟩:=Hbx.out.below hb.out;obtain ⟨b,off,cap,e,hbb,h1,h2,h3⟩:=RInfo.at (RS.below HK.out.i hb.out) (k:=f) (by rw [Hio.out];exact hlt);simp only [Value.slice.injEq] at e;obtain ⟨rfl,_,rfl⟩:=e;have hfl:(f:Int)<(k.infos.length:Int):=by rw [Hio.out];omega
      clear k2 k3 h2 h3
      cases ht:Kx.isTab (Kx.inf k.infos f).kind with
      | false =>
        have Hn:=hI_ (scan_step (P:=fun j=>!Kx.isTab (Kx.inf k.infos j).kind||Kx.rowOk k.mem k.infos j (Kx.inf k.infos j).kind [ByteArray.empty]) hall.out (by simp only [ht];rfl))
        have Ht:=hI_ ht;clear ht;generalize Kx.inf k.infos f=y at h1 Ht;go_wp2_with fail;go_quiet ((go_at_call 92;exact Calls.quiet_of_same ((l13Table_c _ _).mono fun _ _ ⟨he,hw⟩=>⟨by rw [he,Ht.out],hw.symm⟩)))
        go_wp2_with fail;go_roundw
        case rel=>exact ⟨f+1,by go_num,by omega,Hn.out,⟨hb.out.os,hb.out.tape,hb.out.output,hb.out.size,hb.out.block⟩⟩
        case measure=>simp [intOf];omega
      | true =>
        have hkd:=hI_ (Kx.isTab_iff.1 ht);have Hbl:=hI_ hbl;have Hbb:=hI_ hbb;have Hcl:=hI_ (show ∀ wz,Below wr.heap.size wr wz→(wz.cell? ⟨w.heap.size,0,none⟩=some vm∧wz.cell? ⟨w.heap.size,1,none⟩=some (.slice (some ⟨b,off,none⟩) k.infos.length ci)∧wz.cell? ⟨b,off+f*3,none⟩=some (.int .i64 (Kx.inf k.infos f).kind)) from fun wz hz =>
          ⟨(hz.cell (p:=⟨w.heap.size,0,none⟩) hbl).trans k0,(hz.cell (p:=⟨w.heap.size,1,none⟩) hbl).trans k1,(hz.cell (p:=⟨b,off+f*3,none⟩) hbb).trans h1⟩)
        cases hq:Kx.rowOk k.mem k.infos f (Kx.inf k.infos f).kind [ByteArray.empty] with
        | false =>
          have HF:=hI_ (show Kx.tabsOk k=false by
            unfold Kx.tabsOk;rw [List.all_eq_false];exact ⟨f,by simpa using hlt,by rw [ht,hq];simp⟩)
          have Hq:=hI_ hq;have Ht:=hI_ ht;clear ht hq hbl hbb;generalize Kx.inf k.infos f=y at h1 Ht Hq Hcl hkd;obtain ⟨W1,hW1⟩:∃ W1,(wr.alloc (.cells #[.string ByteArray.empty] 9)).drew=W1:=⟨_,rfl⟩;have B1:=hI_ (show Below wr.heap.size wr W1 from hW1 ▸ Below.drewB (bL_));have M1:=hI_ (HK.out.m.below (hb.out.trans (B1.out.mono hb.out.size)));have I1:=hI_ (RS.below HK.out.i (hb.out.trans (B1.out.mono hb.out.size)));have S1:=hI_ (show RStr W1 (.slice (some ⟨wr.heap.size,0,none⟩) 1 1) [ByteArray.empty] from hW1 ▸ RS.one (f:=strC) (sz:=1) ByteArray.empty #[.string ByteArray.empty] rfl wr 9);have hW1':(wr.alloc (.cells #[.string ⟨#[]⟩] 9)).drew=W1:=hW1;have Sc1:=Hcl.out W1 B1.out;clear hW1;go_wp2_with fail;go_region_held3 (fun wz=>wz.cell? ⟨w.heap.size,0,none⟩=some vm∧wz.cell? ⟨w.heap.size,1,none⟩=some (.slice (some ⟨b,off,none⟩) k.infos.length ci)∧wz.cell? ⟨b,off+f*3,none⟩=some (.int .i64 y.kind))
            (first | assumption | go_keep)
            (first
              | (go_at_call 92;refine (l13Table_c _ _).mono ?_;rintro e w' ⟨rfl,rfl⟩;rw [Ht.out])
              | (go_at_call 93;refine (l13Ok_c k.mem k.infos f y.kind [ByteArray.empty] _ _ _ _ M1.out hmo I1.out Hio.out S1.out hkd.out hlt).mono ?_;rintro e w2 ⟨rfl,hb2⟩;rw [Hq.out];have hb3:=B1.out.trans (hb2.mono B1.out.size);have hc3:=Hcl.out w2 hb3))
          have Hb1:=hI_ (hb.out.trans (hb3.mono hb.out.size));clear hb2 hb3 hc3 hW1' Sc1;go_wp2_with fail;go_ret;exact ⟨ret_bool HF.out.symm,Hw0.out.trans (Hb1.out.mono Hw0.out.size)⟩
        | true =>
          have Hn:=hI_ (scan_step (P:=fun j=>!Kx.isTab (Kx.inf k.infos j).kind||Kx.rowOk k.mem k.infos j (Kx.inf k.infos j).kind [ByteArray.empty]) hall.out (by simp only [hq];simp))
          have Hq:=hI_ hq;have Ht:=hI_ ht;clear ht hq hbl hbb;generalize Kx.inf k.infos f=y at h1 Ht Hq Hcl hkd;obtain ⟨W1,hW1⟩:∃ W1,(wr.alloc (.cells #[.string ByteArray.empty] 9)).drew=W1:=⟨_,rfl⟩;have B1:=hI_ (show Below wr.heap.size wr W1 from hW1 ▸ Below.drewB (bL_));have M1:=hI_ (HK.out.m.below (hb.out.trans (B1.out.mono hb.out.size)));have I1:=hI_ (RS.below HK.out.i (hb.out.trans (B1.out.mono hb.out.size)));have S1:=hI_ (show RStr W1 (.slice (some ⟨wr.heap.size,0,none⟩) 1 1) [ByteArray.empty] from hW1 ▸ RS.one (f:=strC) (sz:=1) ByteArray.empty #[.string ByteArray.empty] rfl wr 9);have hW1':(wr.alloc (.cells #[.string ⟨#[]⟩] 9)).drew=W1:=hW1;have Sc1:=Hcl.out W1 B1.out;clear hW1;go_wp2_with fail;go_region_held3 (fun wz=>wz.cell? ⟨w.heap.size,0,none⟩=some vm∧wz.cell? ⟨w.heap.size,1,none⟩=some (.slice (some ⟨b,off,none⟩) k.infos.length ci)∧wz.cell? ⟨b,off+f*3,none⟩=some (.int .i64 y.kind))
            (first | assumption | go_keep)
            (first
              | (go_at_call 92;refine (l13Table_c _ _).mono ?_;rintro e w' ⟨rfl,rfl⟩;rw [Ht.out])
              | (go_at_call 93;refine (l13Ok_c k.mem k.infos f y.kind [ByteArray.empty] _ _ _ _ M1.out hmo I1.out Hio.out S1.out hkd.out hlt).mono ?_;rintro e w2 ⟨rfl,hb2⟩;rw [Hq.out];have hb3:=B1.out.trans (hb2.mono B1.out.size);have hc3:=Hcl.out w2 hb3))
          have Hb1:=hI_ (hb.out.trans (hb3.mono hb.out.size));clear hb2 hb3 hc3 hW1' Sc1;go_wp2_with fail;go_roundw
          case rel=>exact ⟨f+1,by go_num,by omega,Hn.out,Hb1.out⟩
          case measure=>simp [intOf];omega
    · have:f=12:=by omega
      subst this;have HF:=hI_ (show Kx.tabsOk k=true by unfold Kx.tabsOk;rw [List.all_eq_true];exact fun f hf=>hall.out f (by simpa using hf))
      go_wp2_with fail;go_ret;exact ⟨ret_bool HF.out.symm,Hw0.out.trans (hb.out.mono Hw0.out.size)⟩
/-- uses by tables and by the roots of the first e environments -/
def cntE (k:Kx.Kernel) (e g:Nat):Nat:=Kx.countT k.mem k.infos g+Kx.rootsN (k.envs.take e) g
theorem cntE_zero (k:Kx.Kernel):tab12 (cntE k 0)=Kx.counts k.mem k.infos:=by
  unfold tab12 Kx.counts;refine List.map_congr_left fun g _=>?_
  simp [cntE,Kx.rootsN]
theorem cntE_step (k:Kx.Kernel) (e g:Nat) (h:e<k.envs.length):cntE k (e+1) g=cntE k e g+if (Kx.envAt k.envs e).root=(g:Int) then 1 else 0:=by
  unfold cntE Kx.rootsN;rw [List.take_succ_eq_append_getElem h,List.countP_append];have:k.envs[e]=Kx.envAt k.envs e:=by simp [Kx.envAt,h]
  rw [this]
  by_cases hg:(Kx.envAt k.envs e).root=(g:Int)
  · simp [hg];omega
  · simp [hg]
theorem cntE_le (k:Kx.Kernel) (hm:Kx.memOk k.mem=true) (e g:Nat):cntE k e g≤48+e:=by
  unfold cntE;have h1:Kx.countT k.mem k.infos g≤48:=by
    have:=cnt_le k.mem k.infos (fun f hf=>(mem_row hm hf).2.1) 12 0 g nR_
    have e:Kx.countT k.mem k.infos g=cnt k.mem k.infos 12 0 g:=by rw [Kx.countT_eq];simp [cnt]
    omega
  have h2:Kx.rootsN (k.envs.take e) g≤e:=Nat.le_trans List.countP_le_length (List.length_take_le _ _);omega
set_option maxHeartbeats 4000000 in
theorem l21Refs_c (k:Kx.Kernel) (vm vi ve vc:Value) (w:World) (h:RK w vm vi ve vc k) (hmo:Kx.memOk k.mem=true) (hio:k.infos.length=12) (hen:k.envs.length≤1000) (hro:∀ e,e<k.envs.length→(Kx.envAt k.envs e).root≤11) :
    Calls Tryz.prog 49 #[.agg #[vm,vi,ve,vc]] w fun e w'=>e=.returned (.bool (Kx.refsOk k))∧Below w.heap.size w w':=by
  obtain ⟨w0,hw0⟩:∃ w0,w.alloc (.cells #[vm,vi,ve,vc] 28)=w0:=⟨_,rfl⟩;have Hw0:=hI_ (show Below w.heap.size w w0 from hw0 ▸ (Below.refl w.heap.size w).alloc nR_ _);have Hbx:=hI_ (show Box4 w0 w.heap.size vm vi ve vc from hw0 ▸ Box4.new w vm vi ve vc _);have HK:=hI_ (h.below Hw0.out);obtain ⟨ai,ci,rfl,_,_⟩:=RS.val h.i;obtain ⟨_,ae,ce,rfl,_,_⟩:=h.e.len;obtain ⟨ne,hne⟩:∃ ne,k.envs.length=ne:=⟨_,rfl⟩;have Hio:=hI_ hio;have Hro:=hI_ hro;have Hne:=hI_ hne;rw [hne] at Hbx HK hen hw0 ⊢;clear h hio hro hne;obtain ⟨k0,k1,k2,k3,hbl⟩:=Hbx.out;have Hbl:=hI_ hbl;go_enter Tryz.func49,Tryz.ntmps49;go_wp2_with fail;clear hw0;refine (l13Count_c k.mem k.infos _ _ _ HK.out.m hmo HK.out.i Hio.out).mono ?_;rintro e w1 ⟨u1,rfl,ho,hb⟩;have Hb1:=hI_ hb;rw [←cntE_zero] at ho;have Ho:=hI_ ho;obtain ⟨gc,cc,rfl,hgc,_,_⟩:=ho.at (k:=0) (by rw [tab12_length];omega);rw [tab12_length] at Ho ⊢;have Hgc:=hI_ hgc
  clear ho hb hgc k0 k1 k2 k3 hbl;go_wp2_with fail;go_loopw [4] (fun i wr=>∃ e:Nat,i=.int .i64 e∧e≤ne∧Hid (OI wr w0.heap.size (.slice (some ⟨gc,0,none⟩) 12 cc) (tab12 (cntE k e)))∧Hid (Below w0.heap.size w0 wr)) (fun i _=>ne - (intOf i).toNat)
  case atStart=>exact ⟨0,rfl,Nat.zero_le _,Ho.out,Hb1.out⟩
  case round =>
    clear Ho Hb1;obtain ⟨e,rfl,he,ho,hb⟩:=hrel;obtain ⟨k0,k1,k2,k3,hbl⟩:=Hbx.out.below hb.out
    by_cases hlt:e<ne
    · have hlt':e<k.envs.length:=by rw [Hne.out];exact hlt
      obtain ⟨b,off,cap,u,ev,hbb,h1,h2,_⟩:=(HK.out.e.below hb.out).at hlt';rw [Hne.out] at ev;simp only [Value.slice.injEq] at ev;obtain ⟨rfl,_,rfl⟩:=ev;have hel:(e:Int)<(ne:Int):=by omega
      have hstep:=hI_ (cntE_step k e · hlt');have hr11:=Hro.out e hlt';have hle:=hI_ (cntE_le k hmo e);generalize (Kx.envAt k.envs e).root=r at h2 hstep hr11
      by_cases hr0:0≤r
      · obtain ⟨x,rfl⟩:=Int.eq_ofNat_of_zero_le hr0;have hx12:x<12:=by omega
        obtain ⟨g,cap6,ev,_,hcg,hfg⟩:=ho.out.at (k:=x) (by rw [tab12_length];exact hx12);simp only [Value.slice.injEq,Option.some.injEq,Addr.mk.injEq] at ev;obtain ⟨⟨rfl,_,_⟩,he12,rfl⟩:=ev;clear he12;rw [tab12_get] at hcg;have hset:=hI_ (tab12_set (cntE k e) (cntE k (e+1)) x ((cntE k e x:Int)+1) (by rw [hstep.out,if_pos rfl];omega) (fun g hg=>by rw [hstep.out,if_neg (by omega)];rfl))
        have hst:=ho.out.stored (tab12_length _) x ((cntE k e x:Int)+1);rw [hset.out] at hst;have Hst:=hI_ hst.1;have hxI:(x:Int)<12:=by omega
        have hbI:(cntE k e x:Int)≤2000:=by have:=hle.out x;omega
        clear hst hset hr11 hle hstep;generalize cntE k e x=q at hcg Hst hbI;go_wp2_with fail;go_region
        all_goals
          go_wp2_with fail;go_roundw
          case rel=>exact ⟨e+1,by go_num,by omega,Hst.out.drewN 1,Below.drewB (hb.out.setCell (p:=⟨gc,x,none⟩) Hgc.out _)⟩
          case measure=>simp [intOf];omega
      · have hst:=hI_ (show tab12 (cntE k (e+1))=tab12 (cntE k e) from tab12_congr fun g _=>by rw [hstep.out,if_neg (by omega)];rfl)
        clear hr11 hle hstep;go_wp2_with fail;go_roundw
        case rel=>exact ⟨e+1,by go_num,by omega,by show OI _ _ _ _;rw [hst.out];exact ho.out,hb.out⟩
        case measure=>simp [intOf];omega
    · have hen':e=ne:=by omega
      subst hen';have hall:=hI_ (show ∀ g,cntE k e g=Kx.countT k.mem k.infos g+Kx.rootsN k.envs g from fun g=>by unfold cntE;rw [←Hne.out,List.take_length]);go_wp2_with fail;clear k0 k1 k2 k3 hbl;go_loopw [5] (fun i wq=>∃ f:Nat,i=.int .i64 f∧f≤12∧Hid (∀ j,j<f→(Kx.inf k.infos j).refs=(cntE k e j:Int))∧Hid (OI wq w0.heap.size (.slice (some ⟨gc,0,none⟩) 12 cc) (tab12 (cntE k e)))∧Hid (Below w0.heap.size w0 wq)) (fun i _=>12 - (intOf i).toNat)
      case atStart=>exact ⟨0,rfl,Nat.zero_le _,fun j hj=>absurd hj (Nat.not_lt_zero _),ho.out,hb.out⟩
      case round =>
        clear ho hb;obtain ⟨f,rfl,hf,hq,ho,hb⟩:=hrel
        by_cases hlt2:f<12
        · obtain ⟨k0,k1,k2,k3,hbl⟩:=Hbx.out.below hb.out;obtain ⟨b,off,cap,ev,hbb,h1,h2,h3⟩:=RInfo.at (RS.below HK.out.i hb.out) (k:=f) (by rw [Hio.out];exact hlt2);simp only [Value.slice.injEq] at ev;obtain ⟨rfl,_,rfl⟩:=ev;have hfl:(f:Int)<(k.infos.length:Int):=by rw [Hio.out];omega
          have hf12:(f:Int)<12:=by omega
          obtain ⟨g,cap6,ev,_,hcg,hfg⟩:=ho.out.at (k:=f) (by rw [tab12_length];exact hlt2);simp only [Value.slice.injEq,Option.some.injEq,Addr.mk.injEq] at ev;obtain ⟨⟨rfl,_,_⟩,he12,rfl⟩:=ev;clear he12;rw [tab12_get] at hcg
          by_cases heq:(Kx.inf k.infos f).refs=(cntE k e f:Int)
          · have hnb:((Kx.inf k.infos f).refs != (cntE k e f:Int))=false:=by simpa using heq
            have Hn:=hI_ (show ∀ j,j<f+1→(Kx.inf k.infos j).refs=(cntE k e j:Int) from fun j hj=>by
              by_cases e:j=f
              · subst e;exact heq
              · exact hq.out j (by omega))
            clear heq;generalize (Kx.inf k.infos f).refs=x at h3 hnb;generalize cntE k e f=y at hcg hnb;go_wp2_with fail;go_quiet (fail);go_wp2_with fail;go_roundw
            case rel=>exact ⟨f+1,by go_num,by omega,Hn.out,ho.out.drewN _,⟨hb.out.os,hb.out.tape,hb.out.output,hb.out.size,hb.out.block⟩⟩
            case measure=>simp [intOf];omega
          · have hnb:((Kx.inf k.infos f).refs != (cntE k e f:Int))=true:=by simpa using heq
            have HF:=hI_ (show Kx.refsOk k=false by
              unfold Kx.refsOk;rw [List.all_eq_false];exact ⟨f,by simpa using hlt2,by rw [←hall.out];simpa using heq⟩)
            clear heq;generalize (Kx.inf k.infos f).refs=x at h3 hnb;generalize cntE k e f=y at hcg hnb;go_wp2_with fail;go_quiet (fail);go_wp2_with fail;go_ret;exact ⟨ret_bool HF.out.symm,Hw0.out.trans (Below.mono (w:=w0) ⟨hb.out.os,hb.out.tape,hb.out.output,hb.out.size,hb.out.block⟩ Hw0.out.size)⟩
        · have:f=12:=by omega
          subst this;have HF:=hI_ (show Kx.refsOk k=true by
            unfold Kx.refsOk;rw [List.all_eq_true];intro g hg;have:=hq.out g (by simpa using hg);rw [hall.out] at this;simpa using this)
          go_wp2_with fail;go_ret;exact ⟨ret_bool HF.out.symm,Hw0.out.trans (hb.out.mono Hw0.out.size)⟩
end Go.Proofs.YtenebmeaoidnoaaGreatDoor
