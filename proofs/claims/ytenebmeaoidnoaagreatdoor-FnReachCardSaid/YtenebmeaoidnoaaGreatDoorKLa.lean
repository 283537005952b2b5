/- KL1, KL2, KL3, KL4, KC1, KC2, KC3, joined. -/
import Derived.Test.YtenebmeaoidnoaaGreatDoorKWb
import Derived.Deep.Slices
import Derived.Deep.Fields
import Derived.ChangeSame
import Derived.Test.YtenebmeaoidnoaaGreatDoorKY
import Derived.Test.YtenebmeaoidnoaaGreatDoorKR
namespace Go.Proofs.YtenebmeaoidnoaaGreatDoor
open Go.RowKit Go.ChangeShapes Go.WideShapes Go.Deep
/-- The slice value v reads as l in w, whatever its length. -/
def RW {α:Type} (f:α→List Value) (sz:Nat) (w:World) (v:Value) (l:List α):Prop:=
  ((l=[]∧∃ a cap,v=.slice a 0 cap∧cap≤maxLen∧(a=none→cap=0)) ∨
    ∃ b off cap,v=.slice (some ⟨b,off,none⟩) l.length cap∧l.length≤cap∧cap≤maxLen∧b<w.heap.size∧∀ k (h:k<l.length) j u,(f l[k])[j]?=some u→w.cell? ⟨b,off+k*sz+j,none⟩=some u)
section
variable {α:Type} {f:α→List Value} {sz:Nat} {w w':World} {v:Value} {l:List α}
theorem RW.rs (h:RW f sz w v l) (hl:l.length≤1099511627776):RS f sz w v l:=⟨hl,h⟩
theorem RW.val (h:RW f sz w v l):∃ a cap,v=.slice a l.length cap∧l.length≤maxLen:=by
  rcases h with ⟨rfl,a,cap,rfl,hc,_⟩ | ⟨b,off,cap,rfl,h1,h2,_⟩
  · exact ⟨a,cap,rfl,Nat.zero_le _⟩
  · exact ⟨_,cap,rfl,Nat.le_trans h1 h2⟩
theorem RW.below (h:RW f sz w v l) (hb:Below w.heap.size w w'):RW f sz w' v l:=by
  rcases h with ⟨rfl,a,cap,rfl,hn⟩ | ⟨b,off,cap,rfl,h1,h2,hlt,hc⟩
  · exact .inl ⟨rfl,a,cap,rfl,hn⟩
  · exact .inr ⟨b,off,cap,rfl,h1,h2,Nat.lt_of_lt_of_le hlt hb.size,fun k hk j u hu=>(hb.cell (p:=⟨b,off+k*sz+j,none⟩) hlt).trans (hc k hk j u hu)⟩
end
section
variable {H:Type} {enc:TypeId×Value→H} {w:World} {base:Nat} {spare:Nat→Bool} {held:Bool}
theorem rd_slice {α:Type} {f:α→List Value} {sz:Nat} {t e:TypeId} {fuel:Nat} {v:Value} {y:DataW H×List MemPlace} (G:α→Prop) (ht:Tryz.prog.underlying t=some (.slice e)) (hc:Tryz.prog.cellsOf e=sz) (hf:∀ x,(f x).length=sz) (hpos:0<sz)
    (dec:∀ n cs z,DataW.trod enc Tryz.prog w base spare held n e cs=some z→cs.length=sz→∃ x:α,cs=f x∧G x)
    (h:DataW.trod enc Tryz.prog w base spare held fuel t [v]=some y):∃ l:List α,RW f sz w v l∧∀ x ∈ l,G x:=by
  rcases open_slice ht h with ⟨hcs,_⟩ | ⟨a,len,cap,m,n,D,Pl,hcs,_,hl,hm,hmm,_,hi⟩
  · obtain rfl:v=.slice none 0 0:=by simpa using hcs
    exact ⟨[],.inl ⟨rfl,none,0,rfl,Nat.zero_le _,fun _=>rfl⟩,by simp⟩
  · obtain rfl:v=.slice (some a) len cap:=by simpa using hcs
    have hml:len≤m:=by rw [hmm];split <;> omega
    have hex:∀ i:Fin len,∃ x:α,(∀ j u,(f x)[j]?=some u→w.cell? ((a.add (i.val*sz)).add j)=some u)∧G x:=fun i=>by
      obtain ⟨cs',hcs',htr⟩:=hi i.val (by omega);rw [hc] at hcs';obtain ⟨_,hlen,hat⟩:=World.cells?_some hcs';obtain ⟨x,rfl,hg⟩:=dec n cs' _ htr hlen;exact ⟨x,fun j u hu=>by rw [hat j (by have:=(List.getElem?_eq_some_iff.1 hu).1;rw [hf] at this;exact this)];exact hu,hg⟩
    obtain ⟨g,hg⟩:=Classical.axiomOfChoice hex;have hlo:(List.ofFn g).length=len:=List.length_ofFn;refine ⟨List.ofFn g,?_,fun x hx=>?_⟩
    · by_cases h0:len=0
      · subst h0;exact .inl ⟨by simp,some a,cap,rfl,hm,fun h=>by cases h⟩
      · obtain ⟨b,off,spot⟩:=a;have hc0:∃ u,w.cell? (((⟨b,off,spot⟩:Addr).add (0*sz)).add 0)=some u:=by
          have hp:0<(f (g ⟨0,by omega⟩)).length:=by rw [hf];exact hpos
          exact ⟨_,(hg ⟨0,by omega⟩).1 0 _ (List.getElem?_eq_getElem hp)⟩
        obtain ⟨u,hu⟩:=hc0;have hs:spot=none:=by simpa [Addr.add] using World.cell?_spot hu
        subst hs;rw [Addr.add_lit,Addr.add_lit] at hu;have hb:b<w.heap.size:=World.block_lt_of_cell? w _ hu;refine .inr ⟨b,off,cap,by rw [hlo],by rw [hlo];exact hl,hm,hb,fun k hk j u hu=>?_⟩
        have hk':k<len:=by rw [hlo] at hk;exact hk
        rw [List.getElem_ofFn] at hu;have:=(hg ⟨k,hk'⟩).1 j u hu;rw [Addr.add_lit,Addr.add_lit] at this;exact this
    · obtain ⟨i,rfl⟩:=List.mem_ofFn.1 hx;exact (hg i).2
theorem rd_ints {fuel:Nat} {v:Value} {y:DataW H×List MemPlace} (h:DataW.trod enc Tryz.prog w base spare held fuel 42 [v]=some y):∃ xs:List Int,RW intC 1 w v xs:=by
  obtain ⟨l,h1,_⟩:=rd_slice (f:=intC) (sz:=1) (fun _=>True) Tryz.underlying42 (by kernel_rfl) (fun _=>rfl) (by decide) (fun n cs z hz hl=>by
    obtain ⟨x,rfl,_⟩:=DataW.trod_int Tryz.underlying3 hz;exact ⟨x,rfl,trivial⟩) h
  exact ⟨l,h1⟩
/-- a slice of slices of integers, whatever the lengths -/
def RWM (w:World) (v:Value) (m:List (List Int)):Prop:=∃ vs:List Value,vs.length=m.length∧RW valC 1 w v vs∧∀ i (h:i<vs.length) (h':i<m.length),RW intC 1 w vs[i] m[i]
theorem pick {α β:Type} (R:α→β→Prop):∀ l:List α,(∀ x ∈ l,∃ y,R x y)→∃ l':List β,l.length=l'.length∧∀ i (h:i<l.length) (h':i<l'.length),R l[i] l'[i]
  | [],_=>⟨[],rfl,fun i h=>by simp at h⟩
  | x :: l,h=>by
    obtain ⟨y,hy⟩:=h x (List.mem_cons_self ..);obtain ⟨l',hl,hr⟩:=pick R l fun z hz=>h z (List.mem_cons_of_mem _ hz)
    refine ⟨y :: l',by simp [hl],fun i hi hi'=>?_⟩
    cases i with
    | zero=>exact hy
    | succ i=>exact hr i (by simpa using hi) (by simpa using hi')
theorem len1 {l:List Value} (h:l.length=1):∃ c0,l=[c0]:=by
  match l,h with
  | [c0],_=>exact ⟨c0,rfl⟩
/-- environments, whatever the lengths -/
def RWE (w:World) (v:Value) (es:List Kx.Env):Prop:=∃ ps:List (Value×Int),ps.length=es.length∧RW envC 2 w v ps∧∀ i (h:i<ps.length) (h':i<es.length),ps[i].2=es[i].root∧RW strC 1 w ps[i].1 es[i].rights
/-- a kernel, whatever the lengths -/
structure RWK (w:World) (vm vi ve vc:Value) (k:Kx.Kernel):Prop where
  m:RWM w vm k.mem
  i:RW infoC 3 w vi k.infos
  e:RWE w ve k.envs
  c:RW cachedC 4 w vc k.cache
/-- the lengths of its texts are Go's -/
def SaneK2 (k:Kx.Kernel):Prop:=(∀ x ∈ k.infos,x.guard.size≤9223372036854775807)∧∀ x ∈ k.envs,∀ s ∈ x.rights,s.size≤9223372036854775807
theorem SaneK2.sane {k:Kx.Kernel} (h:SaneK2 k):SaneK k:=by
  refine ⟨h.1,fun e he s hs=>?_⟩
  have e1:Kx.envAt k.envs e=k.envs[e]:=by simp [Kx.envAt,he]
  rw [e1] at hs;exact h.2 _ (List.getElem_mem he) s hs
end
theorem RWM.len {w:World} {v:Value} {m:List (List Int)} (h:RWM w v m):∃ a cap,v=.slice a m.length cap∧m.length≤maxLen:=by
  obtain ⟨vs,hl,hs,_⟩:=h;rw [←hl];exact hs.val
theorem RWE.len {w:World} {v:Value} {m:List Kx.Env} (h:RWE w v m):∃ a cap,v=.slice a m.length cap∧m.length≤maxLen:=by
  obtain ⟨vs,hl,hs,_⟩:=h;rw [←hl];exact hs.val
def sumT {α:Type} (g:α→Nat) (l:List α) (k:Nat):Nat:=((l.take k).map g).sum
/-- what is left of lf behind tot, or -1 -/
def szR (lf tot:Nat):Int:=if lf<tot then -1 else ((lf - tot:Nat):Int)
def tRows (m:List (List Int)):Nat:=m.length+(m.map List.length).sum
def tStrs (l:List Kx.Str):Nat:=l.length+(l.map fun s=>s.size).sum
def tInfos (l:List Kx.Info):Nat:=l.length+(l.map fun x=>x.guard.size).sum
def tEnvs (l:List Kx.Env):Nat:=l.length+(l.map fun x=>tStrs x.rights).sum
def tKernel (k:Kx.Kernel):Nat:=tRows k.mem+tInfos k.infos+tEnvs k.envs+k.cache.length
def tPager (p:Kx.Pager):Nat:=tKernel p.k+tRows p.swap+p.low.length+p.pages.length
def Sz (lf tot:Nat) (w:World) (e:Ending) (w':World):Prop:=e=.returned (.int .i64 (szR lf tot))∧Below w.heap.size w w'
theorem RWM.below {w w':World} {v:Value} {m:List (List Int)} (h:RWM w v m) (hb:Below w.heap.size w w'):RWM w' v m:=by
  obtain ⟨vs,hl,hs,hr⟩:=h;exact ⟨vs,hl,hs.below hb,fun i h h'=>(hr i h h').below hb⟩
theorem RWE.below {w w':World} {v:Value} {m:List Kx.Env} (h:RWE w v m) (hb:Below w.heap.size w w'):RWE w' v m:=by
  obtain ⟨vs,hl,hs,hr⟩:=h;exact ⟨vs,hl,hs.below hb,fun i h h'=>⟨(hr i h h').1,(hr i h h').2.below hb⟩⟩
theorem RWK.below {w w':World} {vm vi ve vc:Value} {k:Kx.Kernel} (h:RWK w vm vi ve vc k) (hb:Below w.heap.size w w'):RWK w' vm vi ve vc k:=
  ⟨h.m.below hb,h.i.below hb,h.e.below hb,h.c.below hb⟩
/-- the places o, o + 1, .. hold cs -/
def setAt:List Value→Nat→List Value→List Value
  | xs,_,[]=>xs
  | xs,o,c :: cs=>setAt (xs.set o c) (o+1) cs
def setAtW:World→Nat→Nat→List Value→World
  | w,_,_,[]=>w
  | w,g,o,c :: cs=>setAtW (w.setCell ⟨g,o,none⟩ c) g (o+1) cs
theorem setAt_eq:∀ (cs xs:List Value) (o:Nat),o+cs.length≤xs.length→setAt xs o cs=xs.take o ++ cs ++ xs.drop (o+cs.length)
  | [],xs,o,_=>by simp [setAt]
  | c :: cs,xs,o,h=>by
    have h':o+1+cs.length≤(xs.set o c).length:=by rw [List.length_set];simp at h;omega
    have ho:o<xs.length:=by simp at h;omega
    have e:setAt xs o (c :: cs)=setAt (xs.set o c) (o+1) cs:=rfl;rw [e,setAt_eq cs (xs.set o c) (o+1) h'];have e1:(xs.set o c).take (o+1)=xs.take o ++ [c]:=by
      rw [List.take_succ_eq_append_getElem (by simpa using ho)];simp [List.take_set_of_le]
    have e2:(xs.set o c).drop (o+1+cs.length)=xs.drop (o+(c :: cs).length):=by
      rw [List.drop_set_of_lt (by omega)];congr 1;simp;omega
    rw [e1,e2];simp
theorem flat_set {α:Type} {f:α→List Value} {sz:Nat} (hf:∀ x,(f x).length=sz) (l:List α) (k:Nat) (x:α) (hk:k<l.length):flat f (l.set k x)=setAt (flat f l) (k*sz) (f x):=by
  have hl:l=l.take k ++ l[k] :: l.drop (k+1):=by rw [List.getElem_cons_drop];simp
  have e1:l.set k x=l.take k ++ x :: l.drop (k+1):=by
    conv=>lhs;rw [hl]
    rw [List.set_append_right _ _ (by simp;omega)];have:k - (l.take k).length=0:=by simp;omega
    rw [this,List.set_cons_zero]
  have ht:(flat f (l.take k)).length=k*sz:=by rw [flat_length hf,List.length_take,Nat.min_eq_left (by omega)]
  have e2:flat f l=flat f (l.take k) ++ (f l[k] ++ flat f (l.drop (k+1))):=by
    conv=>lhs;rw [hl]
    rw [flat_append];congr 1
  have hlen:k*sz+(f x).length≤(flat f l).length:=by rw [e2,List.length_append,List.length_append,ht,hf,hf];omega
  rw [setAt_eq _ _ _ hlen,e1,flat_append];have e3:(flat f l).take (k*sz)=flat f (l.take k):=by rw [e2,←ht,List.take_left'];rfl
  have e4:(flat f l).drop (k*sz+(f x).length)=flat f (l.drop (k+1)):=by
    have e5:(flat f (l.take k) ++ f l[k]).length=(flat f (l.take k)).length+(f x).length:=by rw [List.length_append,hf,hf]
    rw [e2,←ht,←List.append_assoc,←e5,List.drop_left]
  rw [e3,e4];unfold flat;simp
theorem stored_all {base e sz g n cap:Nat}:∀ (cs xs:List Value) (o:Nat) (w:World),w.ownsRow base e sz (.slice (some ⟨g,0,none⟩) n cap) n xs →
    (setAtW w g o cs).ownsRow base e sz (.slice (some ⟨g,0,none⟩) n cap) n (setAt xs o cs)∧w.grownBy (setAtW w g o cs) (some g)
  | [],xs,o,w,h=>⟨h,World.grownBy.refl _ _⟩
  | c :: cs,xs,o,w,h=>by
    obtain ⟨h1,h2⟩:=h.stored o c;obtain ⟨h3,h4⟩:=stored_all cs (xs.set o c) (o+1) _ h1;exact ⟨h3,grownBy_trans h2 h4⟩
theorem OS.storedAt {α:Type} {f:α→List Value} {sz:Nat} [E:Elt f sz] {e:TypeId} {w:World} {base g n cap:Nat} {l:List α} (h:OS f sz e w base (.slice (some ⟨g,0,none⟩) n cap) l) (hn:l.length=n) (k:Nat) (x:α) (hk:k<l.length) :
    OS f sz e (setAtW w g (k*sz) (f x)) base (.slice (some ⟨g,0,none⟩) n cap) (l.set k x)∧w.grownBy (setAtW w g (k*sz) (f x)) (some g):=by
  subst hn;obtain ⟨h1,h2⟩:=stored_all (f x) (flat f l) (k*sz) w h.1;refine ⟨⟨?_,by simpa using h.2⟩,h2⟩;rw [flat_set E.len l k x hk,List.length_set];exact h1
theorem below_setAtW {B:Nat} {a:World} {g:Nat} (hg:B≤g):∀ (cs:List Value) (o:Nat) (w:World),Below B a w→Below B a (setAtW w g o cs)
  | [],_,_,h=>h
  | c :: cs,o,_,h=>below_setAtW hg cs (o+1) _ (h.setCell (p:=⟨g,o,none⟩) hg c)
theorem OS.cellAt2 {α:Type} {f:α→List Value} {sz:Nat} [E:Elt f sz] {e:TypeId} {w:World} {base g n cap:Nat} {l:List α} (h:OS f sz e w base (.slice (some ⟨g,0,none⟩) n cap) l) (k:Nat) (hk:k<l.length) (j:Nat) (hj:j<sz) :
    (∃ u,w.cell? ⟨g,k*sz+j,none⟩=some u)∧w.frozen? ⟨g,k*sz+j,none⟩=false:=by
  have h1:(f l[k])[j]?=some ((f l[k])[j]'(by rw [E.len];exact hj)):=List.getElem?_eq_getElem (by rw [E.len];exact hj);obtain ⟨b,off,cap',e,_,hc⟩:=h.rs.at hk;simp only [Value.slice.injEq,Option.some.injEq,Addr.mk.injEq] at e;obtain ⟨⟨rfl,rfl,_⟩,_⟩:=e;have:=hc j _ h1;rw [Nat.zero_add] at this;obtain rfl:=(RS.len h.rs rfl).1;exact ⟨⟨_,this⟩,h.1.frozenAt _⟩
theorem flat_replicate {α:Type} {f:α→List Value} {sz:Nat} (hf:∀ x,(f x).length=sz) (hs:0<sz) (z:α) (zc:Array Value) (hz:zc.toList=f z) (n:Nat):(madeCells zc (n*sz)).toList=flat f (List.replicate n z):=by
  have hzs:zc.size=sz:=by rw [←hf z,←hz];simp
  have hl:(flat f (List.replicate n z)).length=n*sz:=by rw [flat_length hf];simp
  refine List.ext_getElem (by rw [hl,Array.length_toList,size_madeCells]) fun i h1 h2=>?_
  have hi:i<n*sz:=by rw [hl] at h2;exact h2
  obtain ⟨k,hk,j,hj,e,hg⟩:=flat_inv hf hs (List.replicate n z) i _ (List.getElem?_eq_getElem h2);have hz2:(f z)[j]?=some ((flat f (List.replicate n z))[i]):=by simpa using hg
  simp only [madeCells,Array.getElem_toList,Array.getElem_map,Array.getElem_range];have hm:i % zc.size=j:=by rw [hzs,e,Nat.mul_comm,Nat.mul_add_mod,Nat.mod_eq_of_lt hj]
  rw [hm,←hz] at *;rw [getElem!_pos zc j (by omega)];have:zc.toList[j]?=some (zc[j]'(by omega)):=by simp [show j<zc.size by omega]
  rw [this] at hz2;exact Option.some.inj hz2
theorem Below.sepNone {w w':World} (h:w.grownBy w' none):Below w.heap.size w w':=Below.grownNone h
/-- the call hands back a new slice that reads as l -/
def MadeS {α:Type} (f:α→List Value) (sz:Nat) (e:TypeId) (w:World) (l:List α) (en:Ending) (w':World):Prop:=∃ u,en=.returned u∧OS f sz e w' w.heap.size u l∧Below w.heap.size w w'
theorem take_fill {α:Type} (l:List α) (z:α) (k:Nat) (hk:k<l.length):(l.take k ++ List.replicate (l.length - k) z).set k l[k]=l.take (k+1) ++ List.replicate (l.length - (k+1)) z:=by
  have e:List.replicate (l.length - k) z=z :: List.replicate (l.length - (k+1)) z:=by
    rw [show l.length - k=(l.length - (k+1))+1 by omega];rfl
  rw [e,List.set_append_right _ _ (by simp;omega)];have:k - (l.take k).length=0:=by simp;omega
  rw [this,List.set_cons_zero,show l.take (k+1)=l.take k ++ [l[k]] from List.take_succ_eq_append_getElem hk,List.append_assoc];rfl
theorem info_str:(Tryz.prog.info? 9).map (fun i=>(i.zero,i.size,i.bytes))=some (some (.string ⟨#[]⟩),1,16):=by kernel_rfl
theorem info_info:(Tryz.prog.info? 45).map (fun i=>(i.zero,i.size,i.bytes))=some (some (.agg #[.int .i64 0,.string ⟨#[]⟩,.int .i64 0]),3,32):=by kernel_rfl
theorem info_cached:(Tryz.prog.info? 33).map (fun i=>(i.zero,i.size,i.bytes))=some (some (.agg #[.int .i64 0,.int .i64 0,.int .i64 0,.bool false]),4,32):=by kernel_rfl
theorem info_env:(Tryz.prog.info? 40).map (fun i=>(i.zero,i.size,i.bytes))=some (some (.agg #[.slice none 0 0,.int .i64 0]),2,32):=by kernel_rfl
theorem info_ints:(Tryz.prog.info? 42).map (fun i=>(i.zero,i.size,i.bytes))=some (some (.slice none 0 0),1,24):=by kernel_rfl
/-- a slice's value -/
structure Slc where
  a:Option Addr
  n:Nat
  c:Nat
def slcV (s:Slc):Value:=.slice s.a s.n s.c
def slcC (s:Slc):List Value:=[slcV s]
def slc2C (x:Slc×Int):List Value:=[slcV x.1,.int .i64 x.2]
instance:Elt slcC 1:=⟨fun _=>rfl,by decide,fun x u hu=>by simp [slcC] at hu;subst hu;rfl⟩
instance:Elt slc2C 2:=⟨fun _=>rfl,by decide,fun x u hu=>by simp [slc2C] at hu;rcases hu with rfl | rfl <;> rfl⟩
theorem RS.map {α β:Type} {f:α→List Value} {g:β→List Value} {sz:Nat} {w:World} {v:Value} {l:List α} (h:RS f sz w v l) (m:α→β) (hm:∀ x,f x=g (m x)):RS g sz w v (l.map m):=by
  obtain ⟨h1,h2⟩:=h;refine ⟨by simpa using h1,?_⟩;rcases h2 with ⟨rfl,a,cap,rfl,hc,hn⟩ | ⟨b,off,cap,rfl,h3,h4,hb,hc⟩
  · exact .inl ⟨rfl,a,cap,rfl,hc,hn⟩
  · refine .inr ⟨b,off,cap,by simp,by simpa using h3,h4,hb,fun k hk j u hu=>?_⟩
    have hk':k<l.length:=by simpa using hk
    refine hc k hk' j u ?_;rw [hm];simpa using hu
/-- the value's block lies below hi -/
def UB (v:Value) (hi:Nat):Prop:=∀ k,v.ownBlock=some k→k<hi
theorem UB.mono {v:Value} {a b:Nat} (h:UB v a) (hab:a≤b):UB v b:=fun k e=>Nat.lt_of_lt_of_le (h k e) hab
theorem OS.ub {α:Type} {f:α→List Value} {sz:Nat} {e:TypeId} {w:World} {base:Nat} {v:Value} {l:List α} (h:OS f sz e w base v l):UB v w.heap.size:=fun k hk=>(h.lt k hk).2
theorem grown_set1 (w:World) (g k:Nat) (v:Value):w.grownBy (w.setCell ⟨g,k,none⟩ v) (some g):=⟨rfl,rfl,rfl,by simp [World.setCell],fun i hi hne=>Below.heap_setCell w ⟨g,k,none⟩ v i (by intro e;exact hne (by rw [e]))⟩
theorem OI.keptG {w w':World} {base g:Nat} {v:Value} {xs:List Int} (h:OI w base v xs) (hr:g<base) (hg:w.grownBy w' (some g)):OI w' base v xs:=h.keptRb hr hg
theorem OS.keptG {α:Type} {f:α→List Value} {sz:Nat} {e:TypeId} {w w':World} {base g:Nat} {v:Value} {l:List α} (h:OS f sz e w base v l) (hr:g<base) (hg:w.grownBy w' (some g)):OS f sz e w' base v l:=by
  refine h.kept hg ?_
  cases hv:v.ownBlock with
  | none=>exact .inl rfl
  | some k=>refine .inr fun e=>?_;have:=(h.lt k hv).1;simp at e;omega
/-- Slices of integers of the call's own, in a row of its own, none sharing memory with another. -/
def OM (w:World) (base hi:Nat) (u:Value) (m:List (List Int)):Prop:=
  ∃ ss:List Slc,ss.length=m.length∧(OS slcC 1 42 w base u ss∧UB u hi)∧(∀ i (h:i<ss.length) (h':i<m.length),OI w base (slcV ss[i]) m[i]∧UB (slcV ss[i]) hi∧Sep (slcV ss[i]) u) ∧
    ∀ i j (h:i<ss.length) (h':j<ss.length),i<j→Sep (slcV ss[j]) (slcV ss[i])
theorem OM.rm {w:World} {base hi:Nat} {u:Value} {m:List (List Int)} (h:OM w base hi u m):RM w u m:=by
  obtain ⟨ss,hl,ho,hr,_⟩:=h;refine ⟨ss.map slcV,by simpa using hl,ho.1.rs.map slcV (fun _=>rfl),fun i h h'=>?_⟩
  have hi:i<ss.length:=by simpa using h
  have:=(hr i hi h').1.ri
  simpa using this
theorem OM.below {w w':World} {base hi:Nat} {u:Value} {m:List (List Int)} (h:OM w base hi u m) (hb:Below w.heap.size w w'):OM w' base hi u m:=by
  obtain ⟨ss,hl,ho,hr,hs⟩:=h;exact ⟨ss,hl,⟨ho.1.below hb,ho.2⟩,fun i h h'=>⟨(hr i h h').1.below hb,(hr i h h').2⟩,hs⟩
theorem OM.setO {w:World} {base hi g:Nat} {u:Value} {m:List (List Int)} (h:OM w base hi u m) (hg:g<base) (k:Nat) (x:Value):OM (w.setCell ⟨g,k,none⟩ x) base hi u m:=by
  obtain ⟨ss,hl,ho,hr,hs⟩:=h;exact ⟨ss,hl,⟨ho.1.keptG hg (grown_set1 w g k x),ho.2⟩,fun i h h'=>⟨(hr i h h').1.keptG hg (grown_set1 w g k x),(hr i h h').2⟩,hs⟩
theorem OM.mono {w:World} {base base' hi hi':Nat} {u:Value} {m:List (List Int)} (h:OM w base hi u m) (hb:base'≤base) (hh:hi≤hi'):OM w base' hi' u m:=by
  obtain ⟨ss,hl,ho,hr,hs⟩:=h;exact ⟨ss,hl,⟨ho.1.mono hb,ho.2.mono hh⟩,fun i h h'=>⟨(hr i h h').1.mono hb,(hr i h h').2.1.mono hh,(hr i h h').2.2⟩,hs⟩
/-- Environments of the call's own. -/
def OE (w:World) (base hi:Nat) (u:Value) (es:List Kx.Env):Prop:=
  ∃ ss:List (Slc×Int),ss.length=es.length∧(OS slc2C 2 40 w base u ss∧UB u hi)∧(∀ i (h:i<ss.length) (h':i<es.length),ss[i].2=es[i].root∧OS strC 1 9 w base (slcV ss[i].1) es[i].rights∧UB (slcV ss[i].1) hi∧Sep (slcV ss[i].1) u) ∧
    ∀ i j (h:i<ss.length) (h':j<ss.length),i<j→Sep (slcV ss[j].1) (slcV ss[i].1)
theorem OE.re {w:World} {base hi:Nat} {u:Value} {es:List Kx.Env} (h:OE w base hi u es):REnv w u es:=by
  obtain ⟨ss,hl,ho,hr,_⟩:=h;refine ⟨ss.map fun x=>(slcV x.1,x.2),by simpa using hl,ho.1.rs.map _ (fun _=>rfl),fun i h h'=>?_⟩
  have hi:i<ss.length:=by simpa using h
  obtain ⟨h1,h2,_⟩:=hr i hi h';exact ⟨by simpa using h1,by have:=h2.rs;unfold RStr;simpa using this⟩
theorem OE.below {w w':World} {base hi:Nat} {u:Value} {m:List Kx.Env} (h:OE w base hi u m) (hb:Below w.heap.size w w'):OE w' base hi u m:=by
  obtain ⟨ss,hl,ho,hr,hs⟩:=h;exact ⟨ss,hl,⟨ho.1.below hb,ho.2⟩,fun i h h'=>⟨(hr i h h').1,(hr i h h').2.1.below hb,(hr i h h').2.2⟩,hs⟩
theorem OE.setO {w:World} {base hi g:Nat} {u:Value} {m:List Kx.Env} (h:OE w base hi u m) (hg:g<base) (k:Nat) (x:Value):OE (w.setCell ⟨g,k,none⟩ x) base hi u m:=by
  obtain ⟨ss,hl,ho,hr,hs⟩:=h;exact ⟨ss,hl,⟨ho.1.keptG hg (grown_set1 w g k x),ho.2⟩,fun i h h'=>⟨(hr i h h').1,(hr i h h').2.1.keptG hg (grown_set1 w g k x),(hr i h h').2.2⟩,hs⟩
theorem OE.mono {w:World} {base base' hi hi':Nat} {u:Value} {m:List Kx.Env} (h:OE w base hi u m) (hb:base'≤base) (hh:hi≤hi'):OE w base' hi' u m:=by
  obtain ⟨ss,hl,ho,hr,hs⟩:=h;exact ⟨ss,hl,⟨ho.1.mono hb,ho.2.mono hh⟩,fun i h h'=>⟨(hr i h h').1,(hr i h h').2.1.mono hb,(hr i h h').2.2.1.mono hh,(hr i h h').2.2.2⟩,hs⟩
theorem OI.setOI {w:World} {base g:Nat} {v:Value} {xs:List Int} (h:OI w base v xs) (hr:g<base) (k:Nat) (x:Value):OI (w.setCell ⟨g,k,none⟩ x) base v xs:=h.keptG hr (grown_set1 w g k x)
theorem sep_of_base {α:Type} {f:α→List Value} {sz:Nat} {e:TypeId} {w:World} {base g:Nat} {v u:Value} {l:List α} (h:OS f sz e w base v l) (hu:u.ownBlock=some g) (hg:g<base):Sep v u:=by
  cases hv:v.ownBlock with
  | none=>exact .inl hv
  | some k=>refine .inr fun e=>?_;have:=(h.lt k hv).1;rw [hv,hu] at e;simp at e;omega
/-- a block of the call's own and what lies in it -/
def BX (w:World) (g:Nat) (e:TypeId) (cs:List Value):Prop:=w.heap[g]?=some (.cells cs.toArray e (0,0))
theorem BX.new (w:World) (e:TypeId) (cs:Array Value):BX (w.alloc (.cells cs e)) w.heap.size e cs.toList:=by
  show (w.alloc (.cells cs e)).heap[w.heap.size]?=_
  rw [heap_alloc_new]
theorem BX.lt {w:World} {g:Nat} {e:TypeId} {cs:List Value} (h:BX w g e cs):g<w.heap.size:=by
  have h:w.heap[g]?=some (.cells cs.toArray e (0,0)):=h;exact (Array.getElem?_eq_some_iff.1 h).1
theorem BX.below {w wz:World} {g:Nat} {e:TypeId} {cs:List Value} (h:BX w g e cs) (hb:Below w.heap.size w wz):BX wz g e cs:=(hb.block g h.lt).trans h
theorem BX.set {w:World} {g:Nat} {e:TypeId} {cs:List Value} (h:BX w g e cs) (k:Nat) (v:Value):BX (w.setCell ⟨g,k,none⟩ v) g e (cs.set k v):=by
  have:=heap_setCell_same w g k cs.toArray e v h
  unfold BX;rw [this];simp
theorem BX.other {w:World} {g:Nat} {e:TypeId} {cs:List Value} (h:BX w g e cs) {g':Nat} (hne:g≠g') (k:Nat) (v:Value):BX (w.setCell ⟨g',k,none⟩ v) g e cs:=(Below.heap_setCell w ⟨g',k,none⟩ v g hne).trans h
theorem BX.cell {w:World} {g:Nat} {e:TypeId} {cs:List Value} (h:BX w g e cs) (k:Nat):w.cell? ⟨g,k,none⟩=cs[k]?:=by
  have h:w.heap[g]?=some (.cells cs.toArray e (0,0)):=h;simp [World.cell?,h]
theorem BX.frozen {w:World} {g:Nat} {e:TypeId} {cs:List Value} (h:BX w g e cs) (k:Nat):w.frozen? ⟨g,k,none⟩=false:=by
  have h:w.heap[g]?=some (.cells cs.toArray e (0,0)):=h;simp [World.frozen?,h]
theorem OS.setO {α:Type} {f:α→List Value} {sz:Nat} {e:TypeId} {w:World} {base g:Nat} {v:Value} {l:List α} (h:OS f sz e w base v l) (hg:g<base) (k:Nat) (x:Value):OS f sz e (w.setCell ⟨g,k,none⟩ x) base v l:=h.keptG hg (grown_set1 w g k x)
/-- what a copied kernel is made of: memory of the call's own, each part beside the others -/
def OK (w:World) (base hi:Nat) (um ui ue uc:Value) (k:Kx.Kernel):Prop:=
  ∃ b1 b2 b3,(base≤b1∧b1≤b2∧b2≤b3∧b3≤hi)∧OM w base b1 um k.mem∧(OS infoC 3 45 w b1 ui k.infos∧UB ui b2)∧OE w b2 b3 ue k.envs∧(OS cachedC 4 33 w b3 uc k.cache∧UB uc hi)
theorem OK.rk {w:World} {base hi:Nat} {um ui ue uc:Value} {k:Kx.Kernel} (h:OK w base hi um ui ue uc k):RK w um ui ue uc k:=by
  obtain ⟨b1,b2,b3,_,h1,h2,h3,h4⟩:=h;exact ⟨h1.rm,h2.1.rs,h3.re,h4.1.rs⟩
theorem OK.below {w w':World} {base hi:Nat} {um ui ue uc:Value} {k:Kx.Kernel} (h:OK w base hi um ui ue uc k) (hb:Below w.heap.size w w'):OK w' base hi um ui ue uc k:=by
  obtain ⟨b1,b2,b3,h0,h1,h2,h3,h4⟩:=h;exact ⟨b1,b2,b3,h0,h1.below hb,⟨h2.1.below hb,h2.2⟩,h3.below hb,⟨h4.1.below hb,h4.2⟩⟩
theorem OK.setO {w:World} {base hi g:Nat} {um ui ue uc:Value} {k:Kx.Kernel} (h:OK w base hi um ui ue uc k) (hg:g<base) (o:Nat) (x:Value):OK (w.setCell ⟨g,o,none⟩ x) base hi um ui ue uc k:=by
  obtain ⟨b1,b2,b3,h0,h1,h2,h3,h4⟩:=h;exact ⟨b1,b2,b3,h0,h1.setO hg o x,⟨h2.1.setO (by omega) o x,h2.2⟩,h3.setO (by omega) o x,⟨h4.1.setO (by omega) o x,h4.2⟩⟩
theorem OK.mono {w:World} {base base' hi hi':Nat} {um ui ue uc:Value} {k:Kx.Kernel} (h:OK w base hi um ui ue uc k) (hb:base'≤base) (hh:hi≤hi'):OK w base' hi' um ui ue uc k:=by
  obtain ⟨b1,b2,b3,h0,h1,h2,h3,h4⟩:=h;exact ⟨b1,b2,b3,by omega,h1.mono hb nR_,h2,h3,⟨h4.1,h4.2.mono hh⟩⟩
/-- what a copied pager is made of -/
def OP (w:World) (base hi:Nat) (um ui ue uc us ul up:Value) (p:Kx.Pager):Prop:=
  ∃ b1 b2 b3,(base≤b1∧b1≤b2∧b2≤b3∧b3≤hi)∧OK w base b1 um ui ue uc p.k∧OM w b1 b2 us p.swap∧(OI w b2 ul p.low∧UB ul b3)∧(OS pageC 3 169 w b3 up p.pages∧UB up hi)
theorem OP.rp {w:World} {base hi:Nat} {um ui ue uc us ul up:Value} {p:Kx.Pager} (h:OP w base hi um ui ue uc us ul up p):RP w um ui ue uc us ul up p:=by
  obtain ⟨b1,b2,b3,_,h1,h2,h3,h4⟩:=h;exact ⟨h1.rk,h2.rm,h3.1.ri,h4.1.rs⟩
theorem tiInfo:TI 24 45 (.agg #[.int .i64 0,.string ⟨#[]⟩,.int .i64 0]) 3:=TI.mk Tryz.underlying24 info_info (by decide) rfl
theorem tiCached:TI 26 33 (.agg #[.int .i64 0,.int .i64 0,.int .i64 0,.bool false]) 4:=TI.mk Tryz.underlying26 info_cached (by decide) rfl
theorem tiEnv:TI 25 40 (.agg #[.slice none 0 0,.int .i64 0]) 2:=TI.mk Tryz.underlying25 info_env (by decide) rfl
theorem tiStr:TI 38 9 (.string ⟨#[]⟩) 1:=TI.mk Tryz.underlying38 info_str (by decide) rfl
theorem tiRow:TI 23 42 (.slice none 0 0) 1:=TI.mk Tryz.underlying23 info_ints (by decide) rfl
/-- the first free frame, -1 if there is none -/
def freeI (l:List Kx.Info):Int:=match Kx.free l with | some i=>(i:Int) | none=>-1
theorem free_hit {l:List Kx.Info} {k:Nat} (hk:k<l.length) (h:l[k].kind=0) (hall:∀ j (hj:j<l.length),j<k→l[j].kind≠0):Kx.free l=some k:=by
  unfold Kx.free;rw [List.findIdx?_eq_some_iff_getElem];exact ⟨hk,by simpa using h,fun j hj=>by simpa using hall j (by omega) hj⟩
theorem free_none {l:List Kx.Info} (hall:∀ j (hj:j<l.length),l[j].kind≠0):Kx.free l=none:=by
  unfold Kx.free;rw [List.findIdx?_eq_none_iff];intro x hx;obtain ⟨j,hj,rfl⟩:=List.getElem_of_mem hx;simpa using hall j hj
set_option maxHeartbeats 1000000 in
theorem l12Free_c (l:List Kx.Info) (v:Value) (w:World) (h:RInfo w v l):Calls Tryz.prog 197 #[v] w fun e w'=>e=.returned (.int .i64 (freeI l))∧w=w':=by
  obtain ⟨a,cap,rfl,_,_⟩:=RS.val h;have hl:=h.1;have H:=hI_ h;clear h;go_enter Tryz.func197,Tryz.ntmps197;go_wp2_with fail;go_loop [3] (fun i=>∃ k:Nat,i=.int .i64 k∧k≤l.length∧Hid (∀ j (hj:j<l.length),j<k→l[j].kind≠0)) (fun i=>l.length - (intOf i).toNat)
  case atStart=>exact ⟨0,rfl,Nat.zero_le _,fun j _ hj=>absurd hj (Nat.not_lt_zero _)⟩
  case round =>
    obtain ⟨k,rfl,hk,hall⟩:=hrel
    by_cases hlt:k<l.length
    · have hlI:(k:Int)<(l.length:Int):=by omega
      obtain ⟨b,off,cap',ev,_,hc⟩:=RS.at H.out hlt;simp only [Value.slice.injEq] at ev;obtain ⟨rfl,_,rfl⟩:=ev;have g0:=hc 0 _ rfl;rw [Nat.add_zero] at g0;clear hc;have Hit:=hI_ (show l[k].kind=0→freeI l=k from fun h=>by unfold freeI;rw [free_hit hlt h hall.out]);have Mis:=hI_ (show l[k].kind≠0→∀ j (hj:j<l.length),j<k+1→l[j].kind≠0 from fun h j hj hjk=>by
        by_cases ej:j=k
        · subst ej;exact h
        · exact hall.out j hj (by omega))
      generalize l[k].kind=x at g0 Hit Mis
      by_cases hx:x=0
      · have HF:=hI_ (Hit.out hx);subst hx;clear Hit Mis;go_wp2_with fail;go_ret;exact ⟨ret_int HF.out.symm,rfl⟩
      · have HM:=hI_ (Mis.out hx);have hxb:(x==0)=false:=by simpa using hx
        clear hx Hit Mis;go_wp2_with fail;go_round
        case rel=>exact ⟨k+1,by go_num,by omega,HM.out⟩
        case measure=>simp [intOf];omega
    · have HF:=hI_ (show freeI l=-1 by unfold freeI;rw [free_none fun j hj=>hall.out j hj (by omega)])
      go_wp2_with fail;go_ret;exact ⟨ret_int HF.out.symm,rfl⟩
set_option maxHeartbeats 1000000 in
theorem l22May_c (k:Kx.Kernel) (e:Nat) (g:Kx.Str) (vm vi ve vc:Value) (w:World) (h:REnv w ve k.envs) (he:e<k.envs.length):Calls Tryz.prog 196 #[.agg #[vm,vi,ve,vc],.int .i64 e,.string g] w fun en w'=>en=.returned (.bool (Kx.mayE k e g))∧Below w.heap.size w w':=by
  obtain ⟨w0,hw0⟩:∃ w0,w.alloc (.cells #[vm,vi,ve,vc] 28)=w0:=⟨_,rfl⟩;have Bw:=hI_ (show Below w.heap.size w w0 from hw0 ▸ bL_);have X0:=hI_ (show BX w0 w.heap.size 28 [vm,vi,ve,vc] from hw0 ▸ BX.new w _ _);obtain ⟨b,off,cap1,u,rfl,hbl,g0,_,hr⟩:=(h.below Bw.out).at he;have HC:=hI_ (l11May_c (Kx.envAt k.envs e).rights g u w0 hr);have Hm:=hI_ (show Kx.mayE k e g=Kx.may (Kx.envAt k.envs e).rights g from rfl);obtain ⟨a9,c9,rfl,_,_⟩:=RS.val hr;have heI:(e:Int)<(k.envs.length:Int):=by omega
  have p2:w0.cell? ⟨w.heap.size,2,none⟩=some (.slice (some ⟨b,off,none⟩) k.envs.length cap1):=X0.out.cell 2;clear h hr X0;go_enter Tryz.func196,Tryz.ntmps196;go_wp2_with fail;refine HC.out.mono ?_;rintro en w2 ⟨rfl,rfl⟩;go_wp2_with fail;go_ret;exact ⟨ret_bool Hm.out.symm,Bw.out⟩
set_option maxHeartbeats 2000000 in
theorem l4Drop_c (c:List Kx.Cached) (e:Int) (v:Value) (w:World) (h:RCached w v c):Calls Tryz.prog 204 #[v,.int .i64 e] w (MadeS cachedC 4 33 w (Kx.cdrop c e)):=by
  obtain ⟨a,cap,rfl,_,_⟩:=RS.val h;have hl:=h.1;have H:=hI_ (show RCached w _ c from h);clear h;go_enter Tryz.func204,Tryz.ntmps204;go_wp2_with fail;go_loopw [5,6] (fun out i wr=>∃ k:Nat,i=.int .i64 k∧k≤c.length∧Hid (OS cachedC 4 33 wr w.heap.size out (Kx.cdrop (c.take k) e))∧Hid (Below w.heap.size w wr)) (fun _ i _=>c.length - (intOf i).toNat)
  case atStart=>exact ⟨0,rfl,Nat.zero_le _,OS.lit0 nR_,bR_.alloc nR_ _⟩
  case round =>
    obtain ⟨k,rfl,hk,ho,hb⟩:=hrel
    by_cases hlt:k<c.length
    · have hlI:(k:Int)<(c.length:Int):=by omega
      obtain ⟨b,off,cap',ev,hbl,hc⟩:=RS.at (RS.below H.out hb.out) (k:=k) hlt;simp only [Value.slice.injEq] at ev;obtain ⟨rfl,_,rfl⟩:=ev;have htk:c.take (k+1)=c.take k ++ [c[k]]:=by rw [List.take_succ_eq_append_getElem hlt]
      generalize c[k]=x at hc htk;have g0:=hc 0 _ rfl;have g1:=hc 1 _ rfl;have g2:=hc 2 _ rfl;have g3:=hc 3 _ rfl;rw [Nat.add_zero] at g0;have Ht:=hI_ (show Kx.cdrop (c.take (k+1)) e=Kx.cdrop (c.take k) e ++ Kx.cdrop [x] e by rw [htk];simp [Kx.cdrop]);have Hlen:=hI_ (show (Kx.cdrop (c.take k) e).length≤k from Nat.le_trans (List.length_filter_le _ _) (List.length_take_le _ _));clear hc htk hbl
      by_cases hx:x.env=e
      · have Hx:=hI_ (show Kx.cdrop [x] e=[] by simp [Kx.cdrop,hx]);have hxb:(x.env != e)=false:=by simpa using hx
        clear hx;go_wp2_with fail;go_roundw
        case rel=>exact ⟨k+1,by go_num,by omega,by show OS _ _ _ _ _ _ _;rw [Ht.out,Hx.out,List.append_nil];exact ho.out,hb.out⟩
        case measure=>simp [intOf];omega
      · have Hx:=hI_ (show Kx.cdrop [x] e=[x] by simp [Kx.cdrop,hx]);have hxb:(x.env != e)=true:=by simpa using hx
        have hsz:=hI_ hb.out.size;have hxl:=hI_ (show (Kx.cdrop (c.take k) e).length+1≤1099511627776 by have:=Hlen.out;omega);clear hx;go_wp2_with (at_builtin;refine wpList_appS tiCached rfl _ _ rfl w.heap.size _ (Kx.cdrop (c.take k) e) rfl (ho.out.alloc _) _ [x] rfl (RS.one x #[.int .i64 x.env,.int .i64 x.page,.int .i64 x.frame,.bool x.write] rfl _ _) hxl.out (by simp;exact Nat.le_succ_of_le hsz.out) ?_;intro v' w3 ho3 hg3 _;have Ho3:=hI_ ho3;have Hg3:=hI_ hg3;clear ho3 hg3);go_roundw
        case rel =>
          refine ⟨k+1,by go_num,by omega,?_,?_⟩
          · show OS _ _ _ _ _ _ _;rw [Ht.out,Hx.out];exact Ho3.out
          · exact Below.appS (hb.out.alloc hb.out.size _) (ho.out.alloc _) Hg3.out nR_ (by simp;exact Nat.le_succ_of_le hsz.out)
        case measure=>simp [intOf];omega
    · have hkn:k=c.length:=by omega
      subst hkn;go_wp2_with fail;go_ret;exact ⟨_,rfl,by have:=ho.out;rw [List.take_length] at this;exact this,hb.out⟩
theorem OS.shape {α:Type} {f:α→List Value} {sz:Nat} {e:TypeId} {w:World} {base:Nat} {v:Value} {l:List α} (h:OS f sz e w base v l) (hl:0<l.length):∃ g cap,v=.slice (some ⟨g,0,none⟩) l.length cap∧base≤g∧g<w.heap.size:=by
  rcases h.1.2 with ⟨_,h0⟩ | ⟨g,cap,cur,e1,hb,hg,_⟩
  · omega
  · exact ⟨g,cap,e1,hb,(Array.getElem?_eq_some_iff.1 hg).1⟩
theorem freeI_lt {l:List Kx.Info} {f:Nat} (h:Kx.free l=some f):f<l.length∧freeI l=f:=by
  refine ⟨?_,by unfold freeI;rw [h]⟩;unfold Kx.free at h;rw [List.findIdx?_eq_some_iff_getElem] at h;exact h.1
/-- the call hands back a copy of the list with one place turned, and more -/
def MadeT {α:Type} (f:α→List Value) (sz:Nat) (t:TypeId) (w:World) (l:List α) (more:List Value) (e:Ending) (w':World):Prop:=∃ u,e=.returned (.tuple (u :: more).toArray)∧OS f sz t w' w.heap.size u l∧Below w.heap.size w w'
set_option maxHeartbeats 4000000 in
set_option maxRecDepth 100000 in
theorem specInfosTake_c (l:List Kx.Info) (s:Kx.Str) (f:Nat) (v:Value) (w:World) (h:RInfo w v l) (hs:SaneI l) (hv:Kx.infosOk l=true) (hr:Kx.rightOk s=true) (hss:s.size≤9223372036854775807) (hf:Kx.free l=some f) (hl12:l.length=12) :
    Calls Tryz.prog 198 #[v,.string s] w (MadeT infoC 3 45 w (l.set f ⟨1,s,0⟩) [.int .i64 f,.bool true]):=by
  obtain ⟨hfl,hfi⟩:=freeI_lt hf;obtain ⟨a,cap,rfl,_,_⟩:=RS.val h;have H:=hI_ h;have HC1:=hI_ (l12Free_c l _ w h);have HC2:=hI_ (specInfosValid_c l _ w h hs);have HC3:=hI_ (fun W=>specRightValid_c s W hss);have Hfi:=hI_ hfi;have Hv:=hI_ hv;have Hr:=hI_ hr;have Hl:=hI_ hl12;have Hf12:=hI_ (show f<12 by omega);clear h hs hv hr hss hf hfi hfl;clear hl12;go_enter Tryz.func198,Tryz.ntmps198;go_wp2_with fail;refine HC1.out.mono ?_;rintro e w1 ⟨rfl,rfl⟩;rw [Hfi.out];go_wp2_with fail;refine HC2.out.mono ?_;rintro e w2 ⟨rfl,hb⟩;rw [Hv.out];have B2:=hI_ hb;clear hb;go_wp2_with fail;refine (HC3.out w2).mono ?_;rintro e w3 ⟨rfl,rfl⟩;rw [Hr.out];have H2:=hI_ (show RS infoC 3 (w2.alloc (.cells #[] 45)) (.slice a l.length cap) l from (RS.below H.out B2.out).below (bL_));have O1:=hI_ (show OS infoC 3 45 (w2.alloc (.cells #[] 45)) w2.heap.size (.slice (some ⟨w2.heap.size,0,none⟩) 0 0) [] from OS.lit0 nR_)
  have hx1:=hI_ (show ([]:List Kx.Info).length+l.length≤1099511627776 by rw [Hl.out];decide);go_wp2_with (at_builtin;refine wpList_appS tiInfo rfl _ _ rfl w2.heap.size _ [] rfl O1.out _ l rfl H2.out hx1.out (by simp) ?_;intro v' w4 ho4 hg4 hx4;clear hx4;have Ho4:=hI_ (show OS infoC 3 45 w4 w2.heap.size v' l from ho4);have Hg4:=hI_ (show (w2.alloc (.cells #[] 45)).grownBy w4 (some w2.heap.size) from hg4);clear ho4 hg4);have B4:=hI_ (Below.appS (B2.out.alloc B2.out.size (.cells #[] 45)) O1.out Hg4.out B2.out.size (by simp;exact Nat.le_succ_of_le B2.out.size));obtain ⟨g,cap4,rfl,hg1,hg2⟩:=Ho4.out.shape (by rw [Hl.out];decide);have hgw:w.heap.size≤g:=Nat.le_trans B2.out.size hg1;obtain ⟨hst,hgr⟩:=Ho4.out.storedAt rfl f ⟨1,s,0⟩ (by rw [Hl.out];exact Hf12.out);have Hst:=hI_ hst;obtain ⟨⟨z0,hz0⟩,hf0⟩:=Ho4.out.cellAt2 f (by rw [Hl.out];exact Hf12.out) 0 (by decide)
  obtain ⟨⟨z1,hz1⟩,hf1⟩:=Ho4.out.cellAt2 f (by rw [Hl.out];exact Hf12.out) 1 (by decide);obtain ⟨⟨z2,hz2⟩,hf2⟩:=Ho4.out.cellAt2 f (by rw [Hl.out];exact Hf12.out) 2 (by decide);rw [Nat.add_zero] at hz0 hf0;have hfI:(f:Int)<(l.length:Int):=by have:=Hf12.out;have:=Hl.out;omega
  have Hb5:=hI_ (below_setAtW hgw (infoC ⟨1,s,0⟩) (f*3) _ B4.out);clear hst hgr H2 O1 hx1 HC1 HC2 HC3 hg1 hg2 hgw;go_wp2_with fail;go_simp;go_wp2_with fail;go_ret3;refine ⟨_,rfl,?_,Hb5.out⟩;exact Hst.out.mono B2.out.size
set_option maxHeartbeats 4000000 in
set_option maxRecDepth 100000 in
theorem specInfosGive_no (l:List Kx.Info) (f:Nat) (v:Value) (w:World) (h:RInfo w v l) (hs:SaneI l) (hv:Kx.infosOk l=true) (hf:f<12) (hl12:l.length=12) (hk:(Kx.inf l f).kind=1) (hr:0<(Kx.inf l f).refs) :
    Calls Tryz.prog 200 #[v,.int .i64 f] w fun e w'=>(∃ u,e=.returned (.tuple #[u,.bool false]))∧Below w.heap.size w w':=by
  have HC2:=hI_ (specInfosValid_c l _ w h hs);have Hv:=hI_ hv;have Hin:=hI_ (show Kx.inR f 0 11=true by rw [Kx.inR_true];omega);have hlt:f<l.length:=by omega
  have H:=hI_ h;have hfI:(f:Int)<(l.length:Int):=by omega
  have hre:decide ((Kx.inf l f).refs > 0)=true:=by simpa using hr
  obtain ⟨b,off,cap,rfl,hbl,c0,_,c2⟩:=RInfo.at h hlt;have Hbl:=hI_ hbl;rw [hk] at c0;generalize (Kx.inf l f).refs=r at c2 hre;clear h hs hv hf hl12 hk hr hbl;go_enter Tryz.func200,Tryz.ntmps200;go_wp2_with fail;refine HC2.out.mono ?_;rintro e w2 ⟨rfl,hb⟩;rw [Hv.out];have B2:=hI_ hb;clear hb;have d0:=(B2.out.cell (p:=⟨b,off+f*3,none⟩) Hbl.out).trans c0;have d2:=(B2.out.cell (p:=⟨b,off+f*3+2,none⟩) Hbl.out).trans c2;clear c0 c2;go_wp2_with fail;refine (l1Frame_c _ _).mono ?_;rintro e w3 ⟨rfl,rfl⟩;rw [Hin.out];go_wp2_with fail;go_ret2;exact ⟨⟨_,rfl⟩,B2.out.alloc B2.out.size _⟩
set_option maxHeartbeats 4000000 in
set_option maxRecDepth 100000 in
theorem specInfosGive_c (l:List Kx.Info) (f:Nat) (v:Value) (w:World) (h:RInfo w v l) (hs:SaneI l) (hv:Kx.infosOk l=true) (hf:f<12) (hl12:l.length=12) (hk:(Kx.inf l f).kind=1) (hr:¬ 0<(Kx.inf l f).refs) :
    Calls Tryz.prog 200 #[v,.int .i64 f] w (MadeT infoC 3 45 w (l.set f Kx.Info.zero) [.bool true]):=by
  have HC2:=hI_ (specInfosValid_c l _ w h hs);have Hv:=hI_ hv;have Hin:=hI_ (show Kx.inR f 0 11=true by rw [Kx.inR_true];omega);have hlt:f<l.length:=by omega
  have H:=hI_ h;have Hl:=hI_ hl12;have Hlt:=hI_ hlt;have hfI:(f:Int)<(l.length:Int):=by omega
  have hre:decide ((Kx.inf l f).refs > 0)=false:=by simpa using hr
  obtain ⟨b,off,cap,rfl,hbl,c0,_,c2⟩:=RInfo.at h hlt;have Hbl:=hI_ hbl;rw [hk] at c0;generalize (Kx.inf l f).refs=r at c2 hre;clear h hs hv hf hl12 hk hr hbl hlt;go_enter Tryz.func200,Tryz.ntmps200;go_wp2_with fail;refine HC2.out.mono ?_;rintro e w2 ⟨rfl,hb⟩;rw [Hv.out];have B2:=hI_ hb;clear hb;have d0:=(B2.out.cell (p:=⟨b,off+f*3,none⟩) Hbl.out).trans c0;have d2:=(B2.out.cell (p:=⟨b,off+f*3+2,none⟩) Hbl.out).trans c2;clear c0 c2;go_wp2_with fail;refine (l1Frame_c _ _).mono ?_;rintro e w3 ⟨rfl,rfl⟩;rw [Hin.out];have H2:=hI_ (show RS infoC 3 (w2.alloc (.cells #[] 45)) (.slice (some ⟨b,off,none⟩) l.length cap) l from (RS.below H.out B2.out).below (bL_));have O1:=hI_ (show OS infoC 3 45 (w2.alloc (.cells #[] 45)) w2.heap.size (.slice (some ⟨w2.heap.size,0,none⟩) 0 0) [] from OS.lit0 nR_);have hx1:=hI_ (show ([]:List Kx.Info).length+l.length≤1099511627776 by rw [Hl.out];decide)
  go_wp2_with (at_builtin;refine wpList_appS tiInfo rfl _ _ rfl w2.heap.size _ [] rfl O1.out _ l rfl H2.out hx1.out (by simp) ?_;intro v' w4 ho4 hg4 hx4;clear hx4;have Ho4:=hI_ (show OS infoC 3 45 w4 w2.heap.size v' l from ho4);have Hg4:=hI_ (show (w2.alloc (.cells #[] 45)).grownBy w4 (some w2.heap.size) from hg4);clear ho4 hg4);have B4:=hI_ (Below.appS (B2.out.alloc B2.out.size (.cells #[] 45)) O1.out Hg4.out B2.out.size (by simp;exact Nat.le_succ_of_le B2.out.size));obtain ⟨g,cap4,rfl,hg1,hg2⟩:=Ho4.out.shape (by rw [Hl.out];decide);have hgw:w.heap.size≤g:=Nat.le_trans B2.out.size hg1;obtain ⟨hst,hgr⟩:=Ho4.out.storedAt rfl f Kx.Info.zero Hlt.out;have Hst:=hI_ hst;obtain ⟨⟨z0,hz0⟩,hf0⟩:=Ho4.out.cellAt2 f Hlt.out 0 (by decide);obtain ⟨⟨z1,hz1⟩,hf1⟩:=Ho4.out.cellAt2 f Hlt.out 1 (by decide);obtain ⟨⟨z2,hz2⟩,hf2⟩:=Ho4.out.cellAt2 f Hlt.out 2 (by decide);rw [Nat.add_zero] at hz0 hf0
  have Hb5:=hI_ (below_setAtW hgw (infoC Kx.Info.zero) (f*3) _ B4.out);clear hst hgr H2 O1 hx1 HC2 hg1 hg2 hgw d0 d2;go_wp2_with fail;go_simp;go_wp2_with fail;go_ret2;exact ⟨_,rfl,Hst.out.mono B2.out.size,Hb5.out⟩
def callV (c:Kx.Call):Value:=.agg #[.int .i64 c.kind,.int .i64 c.env,.int .i64 c.a,.int .i64 c.b,.int .i64 c.c,.string c.name]
set_option maxHeartbeats 4000000 in
set_option maxRecDepth 100000 in
theorem l22Frame_c (k:Kx.Kernel) (c:Kx.Call) (e:Nat) (kind:Int) (vm vi ve vc:Value) (w:World) (h:RK w vm vi ve vc k) (h12:k.infos.length=12) (h3:k.envs.length=3) (hce:c.env=e) (he:e<3) (hk:kind=1∨kind=0) :
    Calls Tryz.prog 199 #[.agg #[vm,vi,ve,vc],callV c,.int .i64 kind] w fun en w'=>en=.returned (.int .i64 (Kx.frameCode k c kind))∧Below w.heap.size w w':=by
  obtain ⟨ckd,cen,a,cb,cc,cnm⟩:=c;simp only at hce;subst hce;obtain ⟨w0,hw0⟩:∃ w0,w.alloc (.cells #[vm,vi,ve,vc] 28)=w0:=⟨_,rfl⟩;obtain ⟨w1,hw1⟩:∃ w1,w0.alloc (.cells #[.int .i64 ckd,.int .i64 (e:Int),.int .i64 a,.int .i64 cb,.int .i64 cc,.string cnm] 109)=w1:=⟨_,rfl⟩;have B0:=hI_ (show Below w.heap.size w w0 from hw0 ▸ bL_);have B1:=hI_ (show Below w0.heap.size w0 w1 from hw1 ▸ bL_);have X0:=hI_ (show BX w1 w.heap.size 28 [vm,vi,ve,vc] from (hw0 ▸ BX.new w _ _:BX w0 _ _ _).below B1.out);have X1:=hI_ (show BX w1 w0.heap.size 109 [.int .i64 ckd,.int .i64 (e:Int),.int .i64 a,.int .i64 cb,.int .i64 cc,.string cnm] from (hw1 ▸ BX.new w0 _ _:BX w1 _ _ _));have Bw:=hI_ (B0.out.trans (B1.out.mono B0.out.size));have HV:=hI_ (show Kx.frameCode k ⟨ckd,e,a,cb,cc,cnm⟩ kind=(if !Kx.inR a 0 11||(Kx.inf k.infos a.toNat).kind==0 then 3
    else if !Kx.mayE k (e:Int) (Kx.inf k.infos a.toNat).guard then 1
    else if 0<kind∧(Kx.inf k.infos a.toNat).kind≠kind∨kind=0∧Kx.isTab (Kx.inf k.infos a.toNat).kind=false then 3
    else 0) from rfl)
  have HM:=hI_ (fun W (hW:Below w.heap.size w W) g=>l22May_c k e g vm vi ve vc W (h.e.below hW) (by omega))
  have H:=hI_ h;obtain ⟨ai,ci,rfl,_,_⟩:=RS.val h.i;have H12:=hI_ h12;unfold callV;have p1:w1.cell? ⟨w.heap.size,1,none⟩=some (.slice ai k.infos.length ci):=X0.out.cell 1;have p2:w1.cell? ⟨w0.heap.size,2,none⟩=some (.int .i64 a):=X1.out.cell 2;have p3:w1.cell? ⟨w0.heap.size,1,none⟩=some (.int .i64 (e:Int)):=X1.out.cell 1;clear h12 h3 he B0 B1
  cases hin:Kx.inR a 0 11 with
  | false =>
    have HF:=hI_ (show Kx.frameCode k ⟨ckd,e,a,cb,cc,cnm⟩ kind=3 by rw [HV.out,hin];rfl);have Hin:=hI_ hin;clear hin HV hk h;go_enter Tryz.func199,Tryz.ntmps199;go_wp2_with fail;refine (l1Frame_c _ _).mono ?_;rintro en w2 ⟨rfl,rfl⟩;rw [Hin.out];go_wp2_with fail;go_ret;exact ⟨ret_int HF.out.symm,Bw.out⟩
  | true =>
    obtain ⟨a0,a11⟩:=Kx.inR_true.1 hin;obtain ⟨f,rfl⟩:=Int.eq_ofNat_of_zero_le a0;have hfl:f<k.infos.length:=by have:=H12.out;omega
    have hfI:(f:Int)<(k.infos.length:Int):=by omega
    obtain ⟨bi,oi,ci',ev,hbl,d0,d1,_⟩:=RInfo.at h.i hfl;simp only [Value.slice.injEq] at ev;obtain ⟨rfl,_,rfl⟩:=ev;have Hin:=hI_ hin;rw [show ((f:Int)).toNat=f from rfl,hin] at HV;generalize Kx.inf k.infos f=y at d0 d1 HV;have HM:=hI_ (fun W (hW:Below w.heap.size w W)=>HM.out W hW y.guard)
    have Hcl:=hI_ (show ∀ wz,Below w1.heap.size w1 wz→(wz.cell? ⟨w.heap.size,0,none⟩=some (vm)∧wz.cell? ⟨w.heap.size,1,none⟩=some (.slice (some ⟨bi,oi,none⟩) k.infos.length ci)∧wz.cell? ⟨w.heap.size,2,none⟩=some (ve)∧wz.cell? ⟨w.heap.size,3,none⟩=some (vc)∧wz.cell? ⟨w0.heap.size,1,none⟩=some (.int .i64 e)∧wz.cell? ⟨w0.heap.size,2,none⟩=some (.int .i64 f)∧wz.cell? ⟨bi,oi+f*3,none⟩=some (.int .i64 y.kind)∧wz.cell? ⟨bi,oi+f*3+1,none⟩=some (.string y.guard)) from fun wz hz=>by
      have X0z:=X0.out.below hz;have X1z:=X1.out.below hz;have hz2:=Bw.out.trans (hz.mono Bw.out.size);exact ⟨X0z.cell 0,X0z.cell 1,X0z.cell 2,X0z.cell 3,X1z.cell 1,X1z.cell 2,(hz2.cell (p:=⟨bi,oi+f*3,none⟩) hbl).trans d0,(hz2.cell (p:=⟨bi,oi+f*3+1,none⟩) hbl).trans d1⟩)
    have S0:=Hcl.out w1 bR_;obtain ⟨s0,s1,s2,s3,s4,s5,s6,s7⟩:=S0;clear hin h a0 a11 hbl d0 d1 p1 p2 p3 X0 X1
    by_cases hk0:y.kind=0
    · have HF:=hI_ (show Kx.frameCode k ⟨ckd,e,f,cb,cc,cnm⟩ kind=3 by rw [HV.out,hk0];rfl);rw [hk0] at s6;clear hk0 HV hk;go_enter Tryz.func199,Tryz.ntmps199;go_wp2_with fail;refine (l1Frame_c _ _).mono ?_;rintro en w2 ⟨rfl,rfl⟩;rw [Hin.out];go_wp2_with fail;go_ret;exact ⟨ret_int HF.out.symm,Bw.out⟩
    · have hkb:(y.kind==0)=false:=by simpa using hk0
      have HV:=hI_ (show Kx.frameCode k ⟨ckd,e,f,cb,cc,cnm⟩ kind=(if !Kx.mayE k e y.guard then 1 else if 0<kind∧y.kind≠kind∨kind=0∧Kx.isTab y.kind=false then 3 else 0) by rw [HV.out,hkb];rfl);have Bd:=hI_ (Below.drewB (Below.refl w1.heap.size w1));have HC:=hI_ (HM.out w1.drew (Bw.out.trans (Bd.out.mono Bw.out.size)));have S1:=Hcl.out w1 bR_;go_enter Tryz.func199,Tryz.ntmps199;go_wp2_with fail;refine (l1Frame_c _ _).mono ?_;rintro en w2 ⟨rfl,rfl⟩;rw [Hin.out];go_wp2_with fail
      refine wp_region_held_drew (S:=(fun wz=>wz.cell? ⟨w.heap.size,0,none⟩=some (vm)∧wz.cell? ⟨w.heap.size,1,none⟩=some (.slice (some ⟨bi,oi,none⟩) k.infos.length ci)∧wz.cell? ⟨w.heap.size,2,none⟩=some (ve)∧wz.cell? ⟨w.heap.size,3,none⟩=some (vc)∧wz.cell? ⟨w0.heap.size,1,none⟩=some (.int .i64 e)∧wz.cell? ⟨w0.heap.size,2,none⟩=some (.int .i64 f)∧wz.cell? ⟨bi,oi+f*3,none⟩=some (.int .i64 y.kind)∧wz.cell? ⟨bi,oi+f*3+1,none⟩=some (.string y.guard))) (by kernel_rfl) (by first | assumption | go_keep) (fun hHeld=>?_)
      refine tH 0 ?_;refine tH 1 ?_;refine tH 2 ?_;refine tH 3 ?_;refine tH 4 ?_;refine tH 5 ?_;refine tH 6 ?_;refine tH 7 ?_;refine tH 8 ?_;refine tH 9 ?_;refine rH 10 (fun K hK=>?_)
      (rw [if_pos (by rfl)];go_simp;go_at_call 196;refine HC.out.mono ?_;rintro en w3 ⟨rfl,hb⟩;have hb:=Below.undrew hb;have S2:=Hcl.out w3 hb;clear HC;go_wp2_with fail)
      refine hK.out _ _ ?_ (fun hHeld=>?_)
      · first | assumption | go_keep
      clear hK K;refine nH ?_;refine tH 11 ?_;refine tH 12 ?_;refine wpAnyH_done (by kernel_rfl) ?_ _;have Bz:=hI_ (Bw.out.trans (hb.mono Bw.out.size));obtain ⟨t0,t1,t2,t3,t4,t5,t6,t7⟩:=Hcl.out w3 hb
      cases hmy:Kx.mayE k e y.guard with
      | false =>
        have HF:=hI_ (show Kx.frameCode k ⟨ckd,e,f,cb,cc,cnm⟩ kind=1 by rw [HV.out,hmy];rfl);clear hmy HV hk S1;go_wp2_with fail;go_ret;exact ⟨ret_int HF.out.symm,Bz.out⟩
      | true =>
        rw [hmy] at HV;clear hmy;rcases hk with rfl | rfl
        · by_cases h1:y.kind=1
          · have HF:=hI_ (show Kx.frameCode k ⟨ckd,e,f,cb,cc,cnm⟩ 1=0 by rw [HV.out,h1];rfl);have h1b:(y.kind != 1)=false:=by simpa using h1
            clear h1 HV hk0 hkb;go_wp2_with fail;go_ret;exact ⟨ret_int HF.out.symm,Bz.out⟩
          · have HF:=hI_ (show Kx.frameCode k ⟨ckd,e,f,cb,cc,cnm⟩ 1=3 by rw [HV.out,if_neg (by simp),if_pos (.inl ⟨by decide,h1⟩)]);have h1b:(y.kind != 1)=true:=by simpa using h1
            clear h1 HV hk0 hkb;go_wp2_with fail;go_ret;exact ⟨ret_int HF.out.symm,Bz.out⟩
        · cases ht:Kx.isTab y.kind with
          | false =>
            have HF:=hI_ (show Kx.frameCode k ⟨ckd,e,f,cb,cc,cnm⟩ 0=3 by rw [HV.out,ht];rfl);have Ht:=hI_ ht;clear ht HV hk0 hkb;go_wp2_with fail;refine (l13Table_c _ _).mono ?_;rintro en w4 ⟨rfl,rfl⟩;rw [Ht.out];go_wp2_with fail;go_ret;exact ⟨ret_int HF.out.symm,Bz.out⟩
          | true =>
            have HF:=hI_ (show Kx.frameCode k ⟨ckd,e,f,cb,cc,cnm⟩ 0=0 by rw [HV.out,ht];rfl);have Ht:=hI_ ht;clear ht HV hk0 hkb;go_wp2_with fail;refine (l13Table_c _ _).mono ?_;rintro en w4 ⟨rfl,rfl⟩;rw [Ht.out];go_wp2_with fail;go_ret;exact ⟨ret_int HF.out.symm,Bz.out⟩
end Go.Proofs.YtenebmeaoidnoaaGreatDoor
