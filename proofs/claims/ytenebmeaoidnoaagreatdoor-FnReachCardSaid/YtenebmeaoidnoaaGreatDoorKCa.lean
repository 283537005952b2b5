/- KC4, KC5, KC7, KC8, KC9, KC10, KC11, KC12, joined. -/
import Derived.Test.YtenebmeaoidnoaaGreatDoorKLa
import Derived.Test.YtenebmeaoidnoaaGreatDoorKIc
import Derived.Test.YtenebmeaoidnoaaGreatDoorKY
import Derived.Test.YtenebmeaoidnoaaGreatDoorKR
namespace Go.Proofs.YtenebmeaoidnoaaGreatDoor
open Go.RowKit
/-- what a row of one element type holds stays, where another row's block grows or is turned -/
theorem OS.keptT {α:Type} {f:α→List Value} {sz:Nat} {e e':TypeId} {w w':World} {base g:Nat} {v:Value} {l:List α} {cs:Array Value} (h:OS f sz e w base v l) (hg:w.grownBy w' (some g)) (hb:w.heap[g]?=some (.cells cs e' (0,0))) (hne:e≠e'):OS f sz e w' base v l:=by
  refine h.kept hg ?_
  cases hv:v.ownBlock with
  | none=>exact .inl rfl
  | some k =>
    refine .inr fun eq=>?_
    obtain rfl:k=g:=by simpa using eq
    obtain ⟨c2,h2⟩:=h.kind hv;rw [hb] at h2;simp only [Option.some.injEq,Obj.cells.injEq] at h2;exact hne h2.2.1.symm
theorem OM.keptT {e':TypeId} {w w':World} {base hi g:Nat} {u:Value} {m:List (List Int)} {cs:Array Value} (h:OM w base hi u m) (hg:w.grownBy w' (some g)) (hb:w.heap[g]?=some (.cells cs e' (0,0))) (h1:42≠e') (h2:3≠e'):OM w' base hi u m:=by
  obtain ⟨ss,hl,ho,hr,hs⟩:=h;exact ⟨ss,hl,⟨ho.1.keptT hg hb h1,ho.2⟩,fun i h h'=>⟨((hr i h h').1.os.keptT hg hb h2).oi,(hr i h h').2⟩,hs⟩
theorem OE.keptT {e':TypeId} {w w':World} {base hi g:Nat} {u:Value} {m:List Kx.Env} {cs:Array Value} (h:OE w base hi u m) (hg:w.grownBy w' (some g)) (hb:w.heap[g]?=some (.cells cs e' (0,0))) (h1:40≠e') (h2:9≠e'):OE w' base hi u m:=by
  obtain ⟨ss,hl,ho,hr,hs⟩:=h;exact ⟨ss,hl,⟨ho.1.keptT hg hb h1,ho.2⟩,fun i h h'=>⟨(hr i h h').1,(hr i h h').2.1.keptT hg hb h2,(hr i h h').2.2⟩,hs⟩
/-- a kernel of the call's own: all its rows lie from base on -/
structure KO (w:World) (base:Nat) (um ui ue uc:Value) (k:Kx.Kernel):Prop where
  m:OM w base w.heap.size um k.mem
  i:OS infoC 3 45 w base ui k.infos
  e:OE w base w.heap.size ue k.envs
  c:OS cachedC 4 33 w base uc k.cache
theorem KO.rk {w:World} {base:Nat} {um ui ue uc:Value} {k:Kx.Kernel} (h:KO w base um ui ue uc k):RK w um ui ue uc k:=⟨h.m.rm,h.i.rs,h.e.re,h.c.rs⟩
theorem KO.below {w w':World} {base:Nat} {um ui ue uc:Value} {k:Kx.Kernel} (h:KO w base um ui ue uc k) (hb:Below w.heap.size w w'):KO w' base um ui ue uc k:=
  ⟨(h.m.below hb).mono nR_ hb.size,h.i.below hb,(h.e.below hb).mono nR_ hb.size,h.c.below hb⟩
/-- a box, or another thing of a type that no row of a kernel has -/
def Box? (e:TypeId):Prop:=42≠e∧3≠e∧45≠e∧40≠e∧9≠e∧33≠e
theorem KO.box {w:World} {base g:Nat} {um ui ue uc:Value} {k:Kx.Kernel} {e:TypeId} {cs:List Value} (h:KO w base um ui ue uc k) (hb:BX w g e cs) (he:Box? e) (o:Nat) (x:Value):KO (w.setCell ⟨g,o,none⟩ x) base um ui ue uc k:=by
  obtain ⟨h1,h2,h3,h4,h5,h6⟩:=he;have hg:=grown_set1 w g o x;have hs:(w.setCell ⟨g,o,none⟩ x).heap.size=w.heap.size:=by simp [World.setCell]
  refine ⟨?_,h.i.keptT hg hb h3,?_,h.c.keptT hg hb h6⟩
  · rw [hs];exact h.m.keptT hg hb h1 h2
  · rw [hs];exact h.e.keptT hg hb h4 h5
theorem boxKernel:Box? 28:=⟨by decide,by decide,by decide,by decide,by decide,by decide⟩
theorem frameCode_data {k:Kx.Kernel} {c:Kx.Call} (h:Kx.frameCode k c 1=0):∃ f:Nat,c.a=f∧f<12∧(Kx.inf k.infos f).kind=1:=by
  unfold Kx.frameCode at h;split at h
  · exact absurd h (by decide)
  · rename_i h1
    split at h
    · exact absurd h (by decide)
    · split at h
      · exact absurd h (by decide)
      · rename_i h3
        cases hin:Kx.inR c.a 0 11 with
        | false=>rw [hin] at h1;exact absurd rfl h1
        | true =>
          obtain ⟨a0,a11⟩:=Kx.inR_true.1 hin;obtain ⟨f,hf⟩:=Int.eq_ofNat_of_zero_le a0;refine ⟨f,hf,by omega,?_⟩;rw [hf] at h3;exact Classical.not_not.1 fun h4=>h3 (.inl ⟨by decide,h4⟩)
theorem ub_slc {w:World} {base:Nat} {s:Slc} {xs:List Int} (h:OI w base (slcV s) xs) (hl:0<xs.length):∃ g cap,s=⟨some ⟨g,0,none⟩,xs.length,cap⟩∧base≤g∧g<w.heap.size:=by
  obtain ⟨g,cap,e,h1,h2⟩:=h.os.shape hl;obtain ⟨a,n,c⟩:=s;simp only [slcV,Value.slice.injEq] at e;obtain ⟨rfl,rfl,rfl⟩:=e;exact ⟨g,c,rfl,h1,h2⟩
theorem OM.setWord {w:World} {base hi:Nat} {u:Value} {m:List (List Int)} (h:OM w base hi u m) {f a:Nat} (hf:f<m.length) (ha:a<(Kx.row m f).length) :
    ∃ b cap g cap',u=.slice (some ⟨b,0,none⟩) m.length cap∧w.cell? ⟨b,f,none⟩=some (.slice (some ⟨g,0,none⟩) (Kx.row m f).length cap')∧base≤g∧b≠g∧(∃ cs,w.heap[g]?=some (.cells cs 3 (0,0)))∧(∃ z,w.cell? ⟨g,a,none⟩=some z)∧w.frozen? ⟨g,a,none⟩=false ∧
      ∀ x,OM (w.setCell ⟨g,a,none⟩ (.int .i64 x)) base hi u (Kx.setWord m f a x):=by
  obtain ⟨ss,hl,ho,hr,hs⟩:=h;have hfs:f<ss.length:=by omega
  have hrow:Kx.row m f=m[f]:=by simp [Kx.row,hf]
  rw [hrow] at ha ⊢;obtain ⟨h1,h2,h3⟩:=hr f hfs hf;obtain ⟨g,cap',es,hg1,hg2⟩:=ub_slc h1 (by omega);obtain ⟨b,cap,rfl,_,_⟩:=ho.1.shape (by omega);have hg0:(slcV ss[f]).ownBlock=some g:=by rw [es];rfl
  obtain ⟨cs,hcs⟩:=h1.os.kind hg0;obtain ⟨b2,off2,cap2,ev,_,hc⟩:=ho.1.rs.at hfs;have e0:=hc 0 _ rfl;simp only [Value.slice.injEq,Option.some.injEq,Addr.mk.injEq] at ev;obtain ⟨⟨rfl,rfl,_⟩,_,rfl⟩:=ev;rw [Nat.mul_one,Nat.add_zero,Nat.zero_add,es] at e0;have hv:slcV ss[f]=.slice (some ⟨g,0,none⟩) m[f].length cap':=by rw [es];rfl
  rw [hv] at h1;obtain ⟨z,hz⟩:=h1.os.cellAt2 a ha 0 (by decide);rw [Nat.mul_one,Nat.add_zero] at z hz;have hbg:b≠g:=by
    intro e;obtain ⟨c2,h2⟩:=ho.1.kind (g:=b) rfl;rw [e,hcs] at h2;simp at h2
  refine ⟨b,cap,g,cap',by rw [hl],e0,hg1,hbg,⟨cs,hcs⟩,z,hz,fun x=>?_⟩
  have hg:=grown_set1 w g a (.int .i64 x);have hst:=(h1.stored rfl a x).1;refine ⟨ss,by simp [Kx.setWord,hl],⟨ho.1.keptT hg hcs (by decide),ho.2⟩,fun i hi hi'=>?_,hs⟩
  have him:i<m.length:=by omega
  obtain ⟨q1,q2,q3⟩:=hr i hi him;refine ⟨?_,q2,q3⟩
  by_cases e:i=f
  · subst e;have e2:(Kx.setWord m i a x)[i]=m[i].set a x:=by simp [Kx.setWord,hrow]
    rw [e2,hv];exact hst
  · have e2:(Kx.setWord m f a x)[i]=m[i]:=by
      simp [Kx.setWord,List.getElem_set_ne (Ne.symm e)]
    rw [e2];refine q1.kept hg ?_;rcases Nat.lt_or_gt_of_ne e with hlt | hgt
    · rcases hs i f hi hfs hlt with h0 | h0
      · rw [hg0] at h0;exact absurd h0 (by simp)
      · rw [hg0] at h0;exact .inr (Ne.symm h0)
    · rcases hs f i hfs hi hgt with h0 | h0
      · exact .inl h0
      · rw [hg0] at h0;exact .inr h0
theorem BX.ne {w:World} {g g':Nat} {e e':TypeId} {cs:List Value} {cs':Array Value} (h:BX w g e cs) (h':w.heap[g']?=some (.cells cs' e' (0,0))) (hne:e≠e'):g≠g':=by
  intro eq;subst eq;have h:w.heap[g]?=some (.cells cs.toArray e (0,0)):=h;rw [h] at h';simp only [Option.some.injEq,Obj.cells.injEq] at h';exact hne h'.2.1
theorem KO.setWord {w:World} {base:Nat} {um ui ue uc:Value} {k:Kx.Kernel} (h:KO w base um ui ue uc k) {f a:Nat} (hf:f<k.mem.length) (ha:a<(Kx.row k.mem f).length) :
    ∃ b cap g cap',um=.slice (some ⟨b,0,none⟩) k.mem.length cap∧w.cell? ⟨b,f,none⟩=some (.slice (some ⟨g,0,none⟩) (Kx.row k.mem f).length cap')∧base≤g∧b≠g∧(∃ cs,w.heap[g]?=some (.cells cs 3 (0,0)))∧(∃ z,w.cell? ⟨g,a,none⟩=some z)∧w.frozen? ⟨g,a,none⟩=false ∧
      ∀ x,KO (w.setCell ⟨g,a,none⟩ (.int .i64 x)) base um ui ue uc { k with mem:=Kx.setWord k.mem f a x }:=by
  obtain ⟨b,cap,g,cap',h1,h2,h3,hbg,⟨cs,h4⟩,h5,h6,h7⟩:=h.m.setWord hf ha;refine ⟨b,cap,g,cap',h1,h2,h3,hbg,⟨cs,h4⟩,h5,h6,fun x=>?_⟩
  have hg:=grown_set1 w g a (.int .i64 x);have hs:(w.setCell ⟨g,a,none⟩ (.int .i64 x)).heap.size=w.heap.size:=by simp [World.setCell]
  refine ⟨?_,h.i.keptT hg h4 (by decide),?_,h.c.keptT hg h4 (by decide)⟩
  · rw [hs];exact h7 x
  · rw [hs];exact h.e.keptT hg h4 (by decide) (by decide)
theorem sep_up {α:Type} {f:α→List Value} {sz:Nat} {e:TypeId} {w:World} {hi:Nat} {u v:Value} {l:List α} (h:OS f sz e w hi u l) (hv:UB v hi):Sep u v:=by
  cases hu:u.ownBlock with
  | none=>exact .inl hu
  | some k =>
    refine .inr fun eq=>?_
    have h1:=(h.lt k hu).1;have h2:=hv k (by rw [←eq];exact hu);omega
theorem sep_dn {α:Type} {f:α→List Value} {sz:Nat} {e:TypeId} {w:World} {hi:Nat} {u v:Value} {l:List α} (h:OS f sz e w hi u l) (hv:UB v hi):Sep v u:=by
  cases hu:v.ownBlock with
  | none=>exact .inl hu
  | some k =>
    refine .inr fun eq=>?_
    have h1:=hv k hu;have h2:=(h.lt k (by rw [←eq,hu])).1;omega
/-- a row of an own matrix is put in another's place -/
theorem OM.setRow {w:World} {base hi:Nat} {u:Value} {m:List (List Int)} (h:OM w base hi u m) (hbh:base≤hi) (hhi:hi≤w.heap.size) {f:Nat} (hf:f<m.length) (s:Slc) (xs:List Int) (hn:OI w hi (slcV s) xs) :
    ∃ b cap,u=.slice (some ⟨b,0,none⟩) m.length cap∧base≤b∧(∃ cs,w.heap[b]?=some (.cells cs 42 (0,0)))∧(∃ z,w.cell? ⟨b,f,none⟩=some z)∧w.frozen? ⟨b,f,none⟩=false ∧
      OM (w.setCell ⟨b,f,none⟩ (slcV s)) base w.heap.size u (m.set f xs):=by
  obtain ⟨ss,hl,ho,hr,hs⟩:=h;have hfs:f<ss.length:=by omega
  obtain ⟨b,cap,rfl,hb1,hb2⟩:=ho.1.shape (by omega);obtain ⟨cs,hcs⟩:=ho.1.kind (g:=b) rfl;obtain ⟨hz,hfz⟩:=ho.1.cellAt2 f hfs 0 (by decide);rw [Nat.mul_one,Nat.add_zero] at hz hfz;have hst:=(ho.1.storedAt rfl f s hfs).1;rw [Nat.mul_one] at hst;have hg:=grown_set1 w b f (slcV s);refine ⟨b,cap,by rw [hl],hb1,⟨cs,hcs⟩,hz,hfz,ss.set f s,by simp [hl],⟨by have:=hst;exact this,ho.2.mono hhi⟩,fun i hi1 hi2=>?_,fun i j hi1 hj1 hij=>?_⟩
  · by_cases e:i=f
    · subst e;rw [List.getElem_set_self,List.getElem_set_self];exact ⟨(hn.os.keptT hg hcs (by decide)).oi.mono hbh,hn.os.ub,sep_up hn.os ho.2⟩
    · rw [List.getElem_set_ne (Ne.symm e),List.getElem_set_ne (Ne.symm e)];obtain ⟨q1,q2,q3⟩:=hr i (by simpa using hi1) (by simpa using hi2);exact ⟨(q1.os.keptT hg hcs (by decide)).oi,q2.mono hhi,q3⟩
  · have hi0:i<ss.length:=by simpa using hi1
    have hj0:j<ss.length:=by simpa using hj1
    by_cases ei:i=f
    · subst ei;rw [List.getElem_set_self,List.getElem_set_ne (by omega)];exact sep_dn hn.os (hr j hj0 (by omega)).2.1
    · by_cases ej:j=f
      · subst ej;rw [List.getElem_set_self,List.getElem_set_ne (by omega)];exact sep_up hn.os (hr i hi0 (by omega)).2.1
      · rw [List.getElem_set_ne (by omega),List.getElem_set_ne (by omega)];exact hs i j hi0 hj0 hij
instance (e:TypeId):Decidable (Box? e):=by unfold Box?;infer_instance
/-- what lies below base stays, and every box that was there -/
structure Kept (base:Nat) (w w':World):Prop where
  b:Below base w w'
  x:∀ g t l,Box? t→BX w g t l→BX w' g t l
theorem Kept.size {base:Nat} {w w':World} (h:Kept base w w'):w.heap.size≤w'.heap.size:=h.b.size
theorem Kept.of {base:Nat} {w w':World} (hb:Below w.heap.size w w') (hbase:base≤w.heap.size):Kept base w w':=⟨hb.mono hbase,fun _ _ _ _ h=>h.below hb⟩
theorem Kept.go {base:Nat} {w W V:World} (h:Kept base w W) (hb:Below W.heap.size W V) (hbase:base≤w.heap.size):Kept base w V:=⟨h.b.trans (hb.mono (Nat.le_trans hbase h.size)),fun g t l ht hx=>(h.x g t l ht hx).below hb⟩
theorem Kept.trans {base:Nat} {w W V:World} (h:Kept base w W) (h':Kept base W V):Kept base w V:=⟨h.b.trans h'.b,fun g t l ht hx=>h'.x g t l ht (h.x g t l ht hx)⟩
theorem Kept.new {base:Nat} {w W:World} (h:Kept base w W) {g:Nat} (hg:base≤g∧w.heap.size≤g) (o:Nat) (v:Value):Kept base w (W.setCell ⟨g,o,none⟩ v):=
  ⟨h.b.setCell (p:=⟨g,o,none⟩) hg.1 v,fun g' t l ht hx=>(h.x g' t l ht hx).other (by have:=hx.lt;omega) o v⟩
theorem Kept.put {base:Nat} {w W:World} (h:Kept base w W) {b t':Nat} {cs:Array Value} (hk:W.heap[b]?=some (.cells cs t' (0,0))) (hg:base≤b) (h3:¬ Box? t') (o:Nat) (v:Value):Kept base w (W.setCell ⟨b,o,none⟩ v):=
  ⟨h.b.setCell (p:=⟨b,o,none⟩) hg v,fun g t l ht hx=>(h.x g t l ht hx).other ((h.x g t l ht hx).ne hk (fun e=>h3 (e ▸ ht))) o v⟩
theorem mk4 (w:World):(Instr.makeSlice 42 (.int .i64 4) (.int .i64 4)).run Tryz.prog w=.ok (.slice (some ⟨w.heap.size,0,none⟩) 4 4) (w.alloc (.cells #[.int .i64 0,.int .i64 0,.int .i64 0,.int .i64 0] 3)):=by kernel_rfl
theorem KO.setRow {w:World} {base hi:Nat} {um ui ue uc:Value} {k:Kx.Kernel} (h:KO w base um ui ue uc k) (hm:OM w base hi um k.mem) (hbh:base≤hi) (hhi:hi≤w.heap.size) {f:Nat} (hf:f<k.mem.length) (s:Slc) (xs:List Int) (hn:OI w hi (slcV s) xs) :
    ∃ b cap,um=.slice (some ⟨b,0,none⟩) k.mem.length cap∧base≤b∧(∃ cs,w.heap[b]?=some (.cells cs 42 (0,0)))∧(∃ z,w.cell? ⟨b,f,none⟩=some z)∧w.frozen? ⟨b,f,none⟩=false ∧
      KO (w.setCell ⟨b,f,none⟩ (slcV s)) base um ui ue uc { k with mem:=k.mem.set f xs }:=by
  obtain ⟨b,cap,h1,h2,⟨cs,h3⟩,h4,h5,h6⟩:=hm.setRow hbh hhi hf s xs hn;have hg:=grown_set1 w b f (slcV s);have hs:(w.setCell ⟨b,f,none⟩ (slcV s)).heap.size=w.heap.size:=by simp [World.setCell]
  refine ⟨b,cap,h1,h2,⟨cs,h3⟩,h4,h5,?_,h.i.keptT hg h3 (by decide),?_,h.c.keptT hg h3 (by decide)⟩
  · rw [hs];exact h6
  · rw [hs];exact h.e.keptT hg h3 (by decide) (by decide)
set_option maxHeartbeats 1000000 in
theorem l13Args_c (m:List (List Int)) (l:List Kx.Info) (f:Int) (vm v:Value) (w:World) (hm:RM w vm m) (h:RInfo w v l) (hs:SaneI l):Calls Tryz.prog 216 #[vm,v,.int .i64 f] w fun e w'=>e=.returned (.bool (Kx.memOk m&&Kx.inR f 0 11&&Kx.infosOk l))∧Below w.heap.size w w':=by
  obtain ⟨_,a,cap,rfl,_,_⟩:=hm.len;obtain ⟨a2,cap2,rfl,_,_⟩:=RS.val h;have H1:=hI_ (l2Ok_c m f _ w hm);have H2:=hI_ (specInfosValid_c l _ w h hs);clear hm h hs;go_enter Tryz.func216,Tryz.ntmps216;go_wp2_with fail;refine H1.out.mono ?_;rintro e w2 ⟨rfl,rfl⟩
  cases hb:(Kx.memOk m&&Kx.inR f 0 11) with
  | false =>
    have Hb:=hI_ hb;clear hb;go_wp2_with fail;go_ret;exact ⟨ret_bool (by rw [Hb.out,Bool.false_and]),Below.refl _ _⟩
  | true =>
    have Hb:=hI_ hb;clear hb;go_wp2_with fail;refine H2.out.mono ?_;rintro e w3 ⟨rfl,hb⟩;have B:=hI_ hb;clear hb;go_wp2_with fail;go_ret;exact ⟨ret_bool (by rw [Hb.out,Bool.true_and]),B.out⟩
theorem set_same {α:Type} {xs:List α} {o:Nat} {c:α} (h:xs[o]?=some c):xs.set o c=xs:=by
  refine List.ext_getElem? fun i=>?_
  rw [List.getElem?_set];split
  · rename_i e;subst e
    rw [h];have:=(List.getElem?_eq_some_iff.1 h).1;simp [this]
  · rfl
/-- a frame's Refs are turned in an own list -/
theorem OS.setRefs {w:World} {base g n cap:Nat} {l:List Kx.Info} (h:OS infoC 3 45 w base (.slice (some ⟨g,0,none⟩) n cap) l) (hn:l.length=n) (f:Nat) (r:Int) (hf:f<l.length) :
    OS infoC 3 45 (w.setCell ⟨g,f*3+2,none⟩ (.int .i64 r)) base (.slice (some ⟨g,0,none⟩) n cap) (l.set f { Kx.inf l f with refs:=r }):=by
  subst hn;have h2:=(h.1.stored (f*3+2) (.int .i64 r)).1;refine ⟨?_,by simpa using h.2⟩;have e0:=flat_get (f:=infoC) (sz:=3) (fun _=>rfl) l f 0 hf (by decide);have e1:=flat_get (f:=infoC) (sz:=3) (fun _=>rfl) l f 1 hf (by decide);have ei:Kx.inf l f=l[f]:=by simp [Kx.inf,hf]
  have e2:flat infoC (l.set f { Kx.inf l f with refs:=r })=(flat infoC l).set (f*3+2) (.int .i64 r):=by
    rw [flat_set (sz:=3) (fun _=>rfl) l f _ hf,ei];show ((((flat infoC l).set (f*3) (.int .i64 l[f].kind)).set (f*3+1) (.string l[f].guard)).set (f*3+1+1) (.int .i64 r))=_;rw [set_same (show (flat infoC l)[f*3]?=some (.int .i64 l[f].kind) from e0),set_same (show (flat infoC l)[f*3+1]?=some (.string l[f].guard) from e1)]
  rw [e2,List.length_set];exact h2
theorem entry_lt {x:Int} {f:Nat} {b:Bool} (h:Kx.entry x=some (f,b)):f<12:=by
  unfold Kx.entry at h;split at h
  · rename_i h1
    simp only [Option.some.injEq,Prod.mk.injEq] at h;omega
  · cases h
theorem namedW_lt12 {ws:List Int} {f:Nat} (h:f ∈ Kx.namedW ws):f<12:=by
  unfold Kx.namedW at h;obtain ⟨x,_,hx⟩:=List.mem_filterMap.1 h
  cases he:Kx.entry x with
  | none=>rw [he] at hx;cases hx
  | some p=>rw [he] at hx;simp only [Option.map_some,Option.some.injEq] at hx;subst hx;exact entry_lt (b:=p.2) (by rw [he])
theorem addRefs_take {l:List Kx.Info} {fs:List Nat} {d:Int} {k:Nat} (hk:k<fs.length):Kx.addRefs l (fs.take (k+1)) d=Kx.setRefs (Kx.addRefs l (fs.take k) d) fs[k] d:=by
  unfold Kx.addRefs;rw [List.take_succ_eq_append_getElem hk,List.foldl_append];rfl
theorem setRefs_length {l:List Kx.Info} {f:Nat} {d:Int}:(Kx.setRefs l f d).length=l.length:=by simp [Kx.setRefs]
theorem addRefs_length {fs:List Nat} {d:Int}:∀ l:List Kx.Info,(Kx.addRefs l fs d).length=l.length:=by
  induction fs with
  | nil=>intro l;rfl
  | cons f fs ih=>intro l;show (Kx.addRefs (Kx.setRefs l f d) fs d).length=_;rw [ih,setRefs_length]
/-- no frame's Refs are far from zero -/
def Near (b:Int) (l:List Kx.Info):Prop:=∀ g,-b≤(Kx.inf l g).refs∧(Kx.inf l g).refs≤b
theorem Near.set {b d:Int} {l:List Kx.Info} {f:Nat} (h:Near b l) (hd:d=1∨d=-1) (hf:f<l.length):Near (b+1) (Kx.setRefs l f d):=by
  intro g;have h1:=h g;have h2:=h f
  by_cases e:g=f
  · subst e;have:Kx.inf (Kx.setRefs l g d) g={ Kx.inf l g with refs:=(Kx.inf l g).refs+d }:=by simp [Kx.inf,Kx.setRefs,hf]
    rw [this];rcases hd with rfl | rfl <;> (simp only;omega)
  · have:Kx.inf (Kx.setRefs l f d) g=Kx.inf l g:=by simp [Kx.inf,Kx.setRefs,Ne.symm e]
    rw [this];omega
set_option maxHeartbeats 4000000 in
theorem l13Add_c (m:List (List Int)) (l:List Kx.Info) (f:Nat) (d:Int) (vm v:Value) (w:World) (hm:RM w vm m) (hmo:Kx.memOk m=true) (h:RInfo w v l) (h12:l.length=12) (hn:Near 1000 l) (hd:d=1∨d=-1) (hf:f<12) :
    Calls Tryz.prog 217 #[vm,v,.int .i64 f,.int .i64 d] w (MadeS infoC 3 45 w (Kx.addRefs l (Kx.namedW (Kx.row m f)) d)):=by
  obtain ⟨hm12,hr4,_⟩:=mem_row hmo hf;obtain ⟨bm,om,cm,um,rfl,hcm,hru⟩:=hm.row hmo hf;have hbml:=World.block_lt_of_cell? w _ hcm;obtain ⟨a2,cap2,rfl,_,_⟩:=RS.val h;have H:=hI_ h;have H12:=hI_ h12;have Hn:=hI_ hn;have Hd:=hI_ hd;have Hru:=hI_ hru;have Hbml:=hI_ hbml;have HL:=hI_ (show (Kx.namedW (Kx.row m f)).length≤4 by rw [←hr4];unfold Kx.namedW;exact List.length_filterMap_le _ _);have Hlt:=hI_ (show ∀ x ∈ Kx.namedW (Kx.row m f),x<12 from fun x hx=>namedW_lt12 hx)
  have hfI:(f:Int)<12:=by omega
  have H1:=hI_ (show RS infoC 3 (w.alloc (.cells #[] 45)) (.slice a2 l.length cap2) l from RS.below h (bL_));have O1:=hI_ (show OS infoC 3 45 (w.alloc (.cells #[] 45)) w.heap.size (.slice (some ⟨w.heap.size,0,none⟩) 0 0) [] from OS.lit0 nR_);have hx1:=hI_ (show ([]:List Kx.Info).length+l.length≤1099511627776 by rw [h12];decide);obtain ⟨ar,cr,rfl⟩:=hru.val;clear h h12 hn hd hru hm hmo hm12 hr4 hf hbml;generalize Kx.row m f=row at *;go_enter Tryz.func217,Tryz.ntmps217
  go_wp2_with (at_builtin;refine wpList_appS tiInfo rfl _ _ rfl w.heap.size _ [] rfl O1.out _ l rfl H1.out hx1.out (by simp) ?_;intro v' w4 ho4 hg4 hx4;clear hx4;have Ho4:=hI_ (show OS infoC 3 45 w4 w.heap.size v' l from ho4);have Hg4:=hI_ (show (w.alloc (.cells #[] 45)).grownBy w4 (some w.heap.size) from hg4);clear ho4 hg4;have B4:=hI_ (Below.appS ((Below.refl w.heap.size w).alloc nR_ (.cells #[] 45)) O1.out Hg4.out nR_ (by simp));have hcm:=(B4.out.cell (p:=⟨bm,om+f,none⟩) Hbml.out).trans hcm;have HN:=hI_ (l3Named_c row _ w4 (Hru.out.below B4.out)));refine HN.out.mono ?_;rintro e w5 ⟨u5,rfl,ho5,hb5⟩;have B5:=hI_ (B4.out.trans (hb5.mono B4.out.size));obtain ⟨g,cg,rfl,hg1,hg2⟩:=(Ho4.out.below hb5).shape (by rw [H12.out];decide);have O5:=hI_ (Ho4.out.below hb5);have N5:=hI_ ho5;obtain ⟨an,cn,rfl⟩:=ho5.ri.val
  have hsep:=hI_ (show ∀ k,(Value.slice an (ofN (Kx.namedW row)).length cn).ownBlock=some k→w4.heap.size≤k from fun k hk=>(ho5.lt k hk).1)
  have Hg2:=hI_ (show g<w4.heap.size from (Ho4.out.lt g rfl).2);have hlen:=ofN_length (Kx.namedW row);obtain ⟨fs,hfs⟩:∃ fs,Kx.namedW row=fs:=⟨_,rfl⟩;rw [hfs] at N5 HL Hlt hsep hlen ⊢;have N5:=hI_ N5.out.ri;rw [hlen] at N5 hsep ⊢;clear H1 O1 hx1 HN Ho4 Hg4 ho5 hb5 hcm Hru;have R0:=hI_ (show Near 1000 (Kx.addRefs l (fs.take 0) d) from Hn.out);go_wp2_with fail;go_loopw [11] (fun i wr=>∃ j:Nat,i=.int .i64 j∧j≤fs.length∧Hid (OS infoC 3 45 wr w.heap.size (.slice (some ⟨g,0,none⟩) l.length cg) (Kx.addRefs l (fs.take j) d))∧Hid (Near (1000+j) (Kx.addRefs l (fs.take j) d))∧Hid (w5.grownBy wr (some g))∧Hid (Below w.heap.size w wr)) (fun i _=>fs.length - (intOf i).toNat)
  case atStart=>exact ⟨0,rfl,Nat.zero_le _,O5.out,R0.out,World.grownBy.refl _ _,B5.out⟩
  case round =>
    clear O5 R0 B5;obtain ⟨j,rfl,hj,ho,hne,hgr,hb⟩:=hrel
    by_cases hlt:j<fs.length
    · have hjI:(j:Int)<(fs.length:Int):=by omega
      have hofn:(ofN fs)[j]?=some ((fs[j]:Nat):Int):=by simp [ofN,hlt]
      obtain ⟨bn,on,cn',ev,hbnl,hcn⟩:=N5.out.at (k:=j) (by rw [hlen];exact hlt);rw [hlen] at ev;simp only [Value.slice.injEq] at ev;obtain ⟨rfl,_,rfl⟩:=ev;have hbn:bn≠g:=by have:=hsep.out bn rfl;have:=Hg2.out;omega
      have hcn2:w5.cell? ⟨bn,on+j,none⟩=some (.int .i64 (fs[j]:Nat)):=by
        rw [hcn,(List.getElem_eq_iff _).2 hofn]
      have q0:=(hgr.out.cell_far ⟨bn,on+j,none⟩ hbnl (by simp;exact fun e=>hbn e)).trans hcn2;have hx12:=Hlt.out _ (List.getElem_mem hlt);have Hstep:=hI_ (addRefs_take (l:=l) (d:=d) hlt);generalize hx:fs[j]=x at q0 hx12 Hstep;have hlc:(Kx.addRefs l (fs.take j) d).length=l.length:=addRefs_length l;have hxl:x<(Kx.addRefs l (fs.take j) d).length:=by rw [hlc,H12.out];exact hx12
      have hxI:(x:Int)<(l.length:Int):=by have:=H12.out;omega
      have hnr:=hne.out x;have Hnext:=hI_ (hne.out.set Hd.out hxl);have hrd:=RInfo.at ho.out.rs hxl;obtain ⟨_,_,_,ev,_,_,_,q1⟩:=hrd;rw [hlc] at ev;simp only [Value.slice.injEq,Option.some.injEq,Addr.mk.injEq] at ev;obtain ⟨⟨rfl,rfl,_⟩,_,rfl⟩:=ev;rw [Nat.zero_add] at q1;obtain ⟨hzz,hfz⟩:=ho.out.cellAt2 x hxl 2 (by decide);obtain ⟨r,hr⟩:∃ r,(Kx.inf (Kx.addRefs l (fs.take j) d) x).refs=r:=⟨_,rfl⟩;have Hos:=hI_ (ho.out.drewN 1 |>.setRefs hlc x (r+d) hxl);have Hos2:=hI_ (show Kx.setRefs (Kx.addRefs l (fs.take j) d) x d=(Kx.addRefs l (fs.take j) d).set x { Kx.inf (Kx.addRefs l (fs.take j) d) x with refs:=r+d } by unfold Kx.setRefs;rw [hr]);rw [hr] at q1 hnr;have hjj:j<4:=by have:=HL.out;omega
      have hwr:wrap64 (r+d)=r+d:=by
        have:=Hd.out
        unfold wrap64;omega
      have hwr2:IntKind.i64.wrap (r+d)=r+d:=by rw [IntKind.wrap_i64];unfold wrap64 at hwr;omega
      obtain ⟨W5,hW5⟩:∃ W5,wr.drew.setCell ⟨g,x*3+2,none⟩ (.int .i64 (r+d))=W5:=⟨_,rfl⟩;have OW:=hI_ (show OS infoC 3 45 W5 w.heap.size (.slice (some ⟨g,0,none⟩) l.length cg) (Kx.addRefs l (fs.take (j+1)) d) by rw [Hstep.out,Hos2.out,←hW5];exact Hos.out);have GW:=hI_ (show w5.grownBy W5 (some g) from hW5 ▸ grownBy_trans (grownBy_trans hgr.out (show wr.grownBy wr.drew (some g) from ⟨rfl,rfl,rfl,Nat.le_refl _,fun _ _ _=>rfl⟩)) (grown_set1 wr.drew g (x*3+2) (.int .i64 (r+d))))
      have BW:=hI_ (show Below w.heap.size w W5 from hW5 ▸ (Below.drewB hb.out).setCell (p:=⟨g,x*3+2,none⟩) hg1 (.int .i64 (r+d)));have S1:(fun wz:World=>wz.cell? ⟨bn,on+j,none⟩=some (.int .i64 x)) wr:=q0
      have S2:(fun wz:World=>wz.cell? ⟨bn,on+j,none⟩=some (.int .i64 x)) W5:=by
        rw [←hW5];exact (World.cell?_of_block (Below.heap_setCell wr.drew ⟨g,x*3+2,none⟩ _ bn hbn)).trans q0
      obtain ⟨z9,hz9⟩:=hzz;have NE:=hI_ Hstep.out;clear Hos Hos2 Hstep ho hne hgr hb hnr hcn hcn2 hofn;go_wp2_with fail;refine wp_region_held_drew (S:=(fun wz=>wz.cell? ⟨bn,on+j,none⟩=some (.int .i64 x))) (by kernel_rfl) (by first | assumption | go_keep) (fun hHeld=>?_)
      refine tH 0 ?_;refine tH 1 ?_;refine tH 2 ?_;refine tH 3 ?_;refine tH 4 ?_;refine tH 5 ?_;refine tH 6 ?_;refine tH 7 ?_;refine tH 8 ?_;refine tH 9 ?_;refine tH 10 ?_;refine tH 11 ?_;refine tH 13 ?_;refine rH 12 (fun K hK=>?_)
      (rw [if_pos (by rfl)];go_simp)
      refine hK.out _ _ ?_ (fun hHeld=>?_)
      · first | assumption | go_keep
      clear hK K;refine nH ?_;refine tH 14 ?_;refine tH 15 ?_;refine tH 16 ?_;refine rH 17 (fun K hK=>?_)
      (rw [if_pos (by rfl)];go_simp)
      refine hK.out _ _ ?_ (fun hHeld=>?_)
      · first | assumption | go_keep
      clear hK K;refine nH ?_;refine wpAnyH_done (by kernel_rfl) ?_ _;go_wp2_with fail;go_roundw
      case rel=>exact ⟨j+1,by go_num,by omega,OW.out,by show Near _ _;rw [NE.out,show (1000:Int)+((j+1:Nat):Int)=1000+j+1 by omega];exact Hnext.out,GW.out,BW.out⟩
      case measure=>simp [intOf];omega
    · have hjn:j=fs.length:=by omega
      have HF:=hI_ (show OS infoC 3 45 wr w.heap.size (.slice (some ⟨g,0,none⟩) l.length cg) (Kx.addRefs l (Kx.namedW row) d) by rw [hfs];have:=ho.out;rw [hjn,List.take_length] at this;exact this);have HB:=hI_ hb.out;clear hjn;go_wp2_with fail;go_ret;exact ⟨_,rfl,HF.out,HB.out⟩
/-- a frame's Kind is turned in an own list -/
theorem OS.setKind {w:World} {base g n cap:Nat} {l:List Kx.Info} (h:OS infoC 3 45 w base (.slice (some ⟨g,0,none⟩) n cap) l) (hn:l.length=n) (f:Nat) (r:Int) (hf:f<l.length) :
    OS infoC 3 45 (w.setCell ⟨g,f*3,none⟩ (.int .i64 r)) base (.slice (some ⟨g,0,none⟩) n cap) (Kx.setKind l f r):=by
  subst hn;have h2:=(h.1.stored (f*3) (.int .i64 r)).1;have ei:Kx.inf l f=l[f]:=by simp [Kx.inf,hf]
  unfold Kx.setKind;refine ⟨?_,by simpa using h.2⟩;have e1:=flat_get (f:=infoC) (sz:=3) (fun _=>rfl) l f 1 hf (by decide);have e2':=flat_get (f:=infoC) (sz:=3) (fun _=>rfl) l f 2 hf (by decide);have e2:flat infoC (l.set f { Kx.inf l f with kind:=r })=(flat infoC l).set (f*3) (.int .i64 r):=by
    rw [flat_set (sz:=3) (fun _=>rfl) l f _ hf,ei];show ((((flat infoC l).set (f*3) (.int .i64 r)).set (f*3+1) (.string l[f].guard)).set (f*3+1+1) (.int .i64 l[f].refs))=_;have q1:((flat infoC l).set (f*3) (.int .i64 r))[f*3+1]?=some (.string l[f].guard):=by
      rw [List.getElem?_set_ne (by omega)];exact e1
    rw [set_same q1];have q2:((flat infoC l).set (f*3) (.int .i64 r))[f*3+1+1]?=some (.int .i64 l[f].refs):=by
      rw [List.getElem?_set_ne (by omega)];exact e2'
    rw [set_same q2]
  rw [e2,List.length_set];exact h2
theorem SaneI.setKind {l:List Kx.Info} {f:Nat} {r:Int} (h:SaneI l) (hf:f<l.length):SaneI (Kx.setKind l f r):=by
  intro x hx;unfold Kx.setKind at hx;rcases List.mem_or_eq_of_mem_set hx with h1 | h1
  · exact h x h1
  · subst h1;show (Kx.inf l f).guard.size≤_;exact h _ (Kx.inf_mem hf)
theorem SaneI.setRefs {l:List Kx.Info} {f:Nat} {d:Int} (h:SaneI l) (hf:f<l.length):SaneI (Kx.setRefs l f d):=by
  intro x hx;unfold Kx.setRefs at hx;rcases List.mem_or_eq_of_mem_set hx with h1 | h1
  · exact h x h1
  · subst h1;show (Kx.inf l f).guard.size≤_;exact h _ (Kx.inf_mem hf)
theorem SaneI.addRefs {fs:List Nat} {d:Int}:∀ {l:List Kx.Info},SaneI l→(∀ f ∈ fs,f<l.length)→SaneI (Kx.addRefs l fs d):=by
  induction fs with
  | nil=>intro l h _;exact h
  | cons f fs ih =>
    intro l h hf;refine ih (l:=Kx.setRefs l f d) (h.setRefs (hf f (List.mem_cons_self ..))) fun g hg=>?_
    rw [setRefs_length];exact hf g (List.mem_cons_of_mem _ hg)
theorem Near.ofOk {l:List Kx.Info} (h:Kx.infosOk l=true):Near 1000 l:=by
  intro g
  by_cases hg:g<l.length
  · have hx:Kx.infoOk (Kx.inf l g)=true:=by
      have:=Bool.and_eq_true_iff.1 h
      exact List.all_eq_true.1 this.1 _ (Kx.inf_mem hg)
    unfold Kx.infoOk at hx;split at hx
    · have:Kx.inf l g=Kx.Info.zero:=by simpa using hx
      rw [this];decide
    · have h2:=Bool.and_eq_true_iff.1 hx;have:=Kx.inR_true.1 h2.2;omega
  · have:Kx.inf l g=Kx.Info.zero:=by simp [Kx.inf,Nat.not_lt.1 hg]
    rw [this];decide
theorem Near.setKind {b:Int} {l:List Kx.Info} {f:Nat} {r:Int} (h:Near b l) (hf:f<l.length):Near b (Kx.setKind l f r):=by
  intro g
  by_cases e:g=f
  · subst e;have:Kx.inf (Kx.setKind l g r) g={ Kx.inf l g with kind:=r }:=by simp [Kx.inf,Kx.setKind,hf]
    rw [this];exact h g
  · have:Kx.inf (Kx.setKind l f r) g=Kx.inf l g:=by simp [Kx.inf,Kx.setKind,Ne.symm e]
    rw [this];exact h g
theorem setKind_length {l:List Kx.Info} {f:Nat} {r:Int}:(Kx.setKind l f r).length=l.length:=by simp [Kx.setKind]
set_option maxHeartbeats 4000000 in
set_option maxRecDepth 100000 in
theorem specTablePin_c (m:List (List Int)) (l:List Kx.Info) (f:Nat) (kind:Int) (r:List Kx.Str) (vm v u:Value) (w:World) (hm:RM w vm m) (hmo:Kx.memOk m=true) (h:RInfo w v l) (hs:SaneI l) (hio:Kx.infosOk l=true) (h12:l.length=12) (hr:RStr w u r) (hro:Kx.rightsOk r=true) (hrs:SaneS r) (hf:f<12) (hk:kind=2∨kind=3) :
    Calls Tryz.prog 212 #[vm,v,.int .i64 f,.int .i64 kind,u] w (MadeT infoC 3 45 w (Kx.pin m l f kind r).1 [.int .i64 (Kx.pin m l f kind r).2]):=by
  have hin:Kx.inR f 0 11=true:=by rw [Kx.inR_true];omega
  have ht:Kx.isTab kind=true:=by rcases hk with rfl | rfl <;> rfl
  have HV:=hI_ (show Kx.pin m l f kind r=(if (Kx.inf l f).kind≠1∨(Kx.inf l f).refs > 0 then (l,1)
    else if !Kx.rowOk m l f kind r then (l,2)
    else if Kx.infosOk (Kx.addRefs (Kx.setKind l f kind) (Kx.namedW (Kx.row m f)) 1) then (Kx.addRefs (Kx.setKind l f kind) (Kx.namedW (Kx.row m f)) 1,0)
    else (l,1)) by unfold Kx.pin;rw [hmo,hin,hio,ht,hro];rfl)
  have HA:=hI_ (l13Args_c m l f vm v w hm h hs);have Ha:=hI_ (show (Kx.memOk m&&Kx.inR f 0 11&&Kx.infosOk l)=true by rw [hmo,hin,hio];rfl);have HR:=hI_ (fun W (hW:Below w.heap.size w W)=>specRightsValid_c r u W (RS.below hr hW) hrs)
  have HO:=hI_ (fun W (hW:Below w.heap.size w W)=>l13Ok_c m l f kind r vm v u W (hm.below hW) hmo (RS.below h hW) h12 (RS.below hr hW) hk hf)
  have Hro:=hI_ hro;have Ht:=hI_ ht;have Hm:=hI_ hm;have Hmo:=hI_ hmo;have H:=hI_ h;have Hs:=hI_ hs;have Hio:=hI_ hio;have H12:=hI_ h12;have Hf:=hI_ hf;have Hk:=hI_ hk;obtain ⟨_,am,cm,rfl,_,_⟩:=hm.len;obtain ⟨bi,oi,ci,rfl,hbil,d0,_,d2⟩:=RInfo.at h (k:=f) (by omega);obtain ⟨ar,cr,rfl,_,_⟩:=RS.val hr;have hfI:(f:Int)<(l.length:Int):=by omega
  clear hm h hs hr hmo hio h12 hro hrs hf hk hin ht;go_enter Tryz.func212,Tryz.ntmps212;go_wp2_with fail;refine HA.out.mono ?_;rintro e w1 ⟨rfl,hb⟩;rw [Ha.out];have B1:=hI_ hb;clear hb;go_wp2_with fail;refine (l13Table_c _ _).mono ?_;rintro e w2 ⟨rfl,rfl⟩;rw [Ht.out];go_wp2_with fail;refine (HR.out w1 B1.out).mono ?_;rintro e w2 hq;obtain ⟨rfl,hb⟩:=hq.below;rw [Hro.out];have B2:=hI_ (B1.out.trans (hb.mono B1.out.size));clear hb hq;have H2:=hI_ (show RS infoC 3 (w2.alloc (.cells #[] 45)) (.slice (some ⟨bi,oi,none⟩) l.length ci) l from (RS.below H.out B2.out).below (bL_));have O1:=hI_ (show OS infoC 3 45 (w2.alloc (.cells #[] 45)) w2.heap.size (.slice (some ⟨w2.heap.size,0,none⟩) 0 0) [] from OS.lit0 nR_);have hx1:=hI_ (show ([]:List Kx.Info).length+l.length≤1099511627776 by rw [H12.out];decide)
  go_wp2_with (at_builtin;refine wpList_appS tiInfo rfl _ _ rfl w2.heap.size _ [] rfl O1.out _ l rfl H2.out hx1.out (by simp) ?_;intro v' w4 ho4 hg4 hx4;clear hx4;have Ho4:=hI_ (show OS infoC 3 45 w4 w2.heap.size v' l from ho4);have Hg4:=hI_ (show (w2.alloc (.cells #[] 45)).grownBy w4 (some w2.heap.size) from hg4);clear ho4 hg4;have B4:=hI_ (Below.appS (B2.out.alloc B2.out.size (.cells #[] 45)) O1.out Hg4.out B2.out.size (by simp;exact Nat.le_succ_of_le B2.out.size));have d0:=(B4.out.cell (p:=⟨bi,oi+f*3,none⟩) hbil).trans d0;have d2:=(B4.out.cell (p:=⟨bi,oi+f*3+2,none⟩) hbil).trans d2;obtain ⟨g,cap4,rfl,hg1,hg2⟩:=Ho4.out.shape (by rw [H12.out];decide);have B6:=hI_ B4.out;clear H2 O1 hx1 Hg4;by_cases hk1:(Kx.inf l f).kind=1;(by_cases hrf:(Kx.inf l f).refs > 0))
  · have hF:Kx.pin m l f kind r=(l,1):=by rw [HV.out,if_pos (.inr (by assumption))]
    go_wp2_with fail;go_ret2;rw [hF];exact ⟨_,rfl,Ho4.out.mono B2.out.size,B6.out⟩
  · have HV:=hI_ (show Kx.pin m l f kind r=(if !Kx.rowOk m l f kind r then (l,2)
      else if Kx.infosOk (Kx.addRefs (Kx.setKind l f kind) (Kx.namedW (Kx.row m f)) 1) then (Kx.addRefs (Kx.setKind l f kind) (Kx.namedW (Kx.row m f)) 1,0)
      else (l,1)) by rw [HV.out,if_neg (by rintro (h1 | h1);contradiction;omega)])
    have HOk:=hI_ (HO.out w4 B6.out);go_wp2_with fail;refine HOk.out.mono ?_;rintro e w5 ⟨rfl,hb⟩;have B7:=hI_ (B6.out.trans (hb.mono B6.out.size));have O7:=hI_ (Ho4.out.below hb);clear hb HOk
    cases hrw:Kx.rowOk m l f kind r with
    | false =>
      have hF:Kx.pin m l f kind r=(l,2):=by rw [HV.out,hrw];rfl
      clear hrw;go_wp2_with fail;go_ret2;rw [hF];exact ⟨_,rfl,O7.out.mono B2.out.size,B7.out⟩
    | true =>
      have hgw:w.heap.size≤g:=Nat.le_trans B2.out.size hg1;have hfl:f<l.length:=by rw [H12.out];exact Hf.out
      obtain ⟨W5,hW5⟩:∃ W5,w5.setCell ⟨g,f*3,none⟩ (.int .i64 kind)=W5:=⟨_,rfl⟩;have O8:=hI_ (show OS infoC 3 45 W5 w2.heap.size (.slice (some ⟨g,0,none⟩) l.length cap4) (Kx.setKind l f kind) from hW5 ▸ O7.out.setKind rfl f kind hfl);have B8:=hI_ (show Below w.heap.size w W5 from hW5 ▸ B7.out.setCell (p:=⟨g,f*3,none⟩) hgw (.int .i64 kind));have HAd:=hI_ (l13Add_c m (Kx.setKind l f kind) f 1 _ _ W5 (Hm.out.below B8.out) Hmo.out O8.out.rs (by rw [setKind_length,H12.out]) ((Near.ofOk Hio.out).setKind hfl) (.inl rfl) Hf.out);obtain ⟨⟨z0,hz0⟩,hf0⟩:=O7.out.cellAt2 f hfl 0 (by decide);rw [Nat.add_zero] at hz0 hf0;rw [hrw] at HV;clear hrw;go_wp2_with fail;go_simp;go_wp2_with fail;refine HAd.out.mono ?_;rintro e w6 ⟨u6,rfl,ho6,hb6⟩;have B9:=hI_ (B8.out.trans (hb6.mono B8.out.size))
      have hL12:(Kx.addRefs (Kx.setKind l f kind) (Kx.namedW (Kx.row m f)) 1).length=12:=by rw [addRefs_length,setKind_length,H12.out]
      have HL12:=hI_ hL12;have HSa:=hI_ (show SaneI (Kx.addRefs (Kx.setKind l f kind) (Kx.namedW (Kx.row m f)) 1) from (Hs.out.setKind hfl).addRefs fun x hx=>by rw [setKind_length,H12.out];exact namedW_lt12 hx)
      clear hL12;obtain ⟨L6,hL6⟩:∃ L6,Kx.addRefs (Kx.setKind l f kind) (Kx.namedW (Kx.row m f)) 1=L6:=⟨_,rfl⟩;rw [hL6] at ho6 HL12 HSa HV;have HIv:=hI_ (specInfosValid_c L6 u6 w6 ho6.rs HSa.out);obtain ⟨a6,c6,rfl,_,_⟩:=RS.val ho6.rs;have O9:=hI_ (ho6.mono (show w.heap.size≤W5.heap.size from B8.out.size));clear ho6 hb6 HAd hz0 hf0 HSa;go_wp2_with fail;refine HIv.out.mono ?_;rintro e w7 ⟨rfl,hb7⟩;have O10:=hI_ (O9.out.below hb7);have B10:=hI_ (B9.out.trans (hb7.mono B9.out.size));clear hb7 HIv
      cases hv:Kx.infosOk L6 with
      | true =>
        have hF:Kx.pin m l f kind r=(L6,0):=by rw [HV.out,hv];rfl
        clear hv;go_wp2_with fail;go_ret2;rw [hF];exact ⟨_,rfl,O10.out,B10.out⟩
      | false =>
        have hF:Kx.pin m l f kind r=(l,1):=by rw [HV.out,hv];rfl
        have H3:=hI_ (show RS infoC 3 (w7.alloc (.cells #[] 45)) (.slice (some ⟨bi,oi,none⟩) l.length ci) l from (RS.below H.out B10.out).below (bL_));have O3:=hI_ (show OS infoC 3 45 (w7.alloc (.cells #[] 45)) w7.heap.size (.slice (some ⟨w7.heap.size,0,none⟩) 0 0) [] from OS.lit0 nR_);have hx3:=hI_ (show ([]:List Kx.Info).length+l.length≤1099511627776 by rw [H12.out];decide);clear hv;go_wp2_with (at_builtin;refine wpList_appS tiInfo rfl _ _ rfl w7.heap.size _ [] rfl O3.out _ l rfl H3.out hx3.out (by simp) ?_;intro v' w8 ho8 hg8 hx8;clear hx8;have Ho8:=hI_ (show OS infoC 3 45 w8 w7.heap.size v' l from ho8);have Hg8:=hI_ (show (w7.alloc (.cells #[] 45)).grownBy w8 (some w7.heap.size) from hg8);clear ho8 hg8);have B11:=hI_ (Below.appS (B10.out.alloc B10.out.size (.cells #[] 45)) O3.out Hg8.out B10.out.size (by simp;exact Nat.le_succ_of_le B10.out.size));go_ret2;rw [hF]
        exact ⟨_,rfl,Ho8.out.mono B10.out.size,B11.out⟩
  · have hF:Kx.pin m l f kind r=(l,1):=by rw [HV.out,if_pos (.inl (by assumption))]
    go_wp2_with fail;go_ret2;rw [hF];exact ⟨_,rfl,Ho4.out.mono B2.out.size,B6.out⟩
set_option maxHeartbeats 4000000 in
set_option maxRecDepth 100000 in
theorem specTableUnpin_c (m:List (List Int)) (l:List Kx.Info) (f:Nat) (vm v:Value) (w:World) (hm:RM w vm m) (hmo:Kx.memOk m=true) (h:RInfo w v l) (hs:SaneI l) (hio:Kx.infosOk l=true) (h12:l.length=12) (hf:f<12) :
    Calls Tryz.prog 213 #[vm,v,.int .i64 f] w (MadeT infoC 3 45 w (Kx.unpin m l f).1 [.int .i64 (Kx.unpin m l f).2]):=by
  have hin:Kx.inR f 0 11=true:=by rw [Kx.inR_true];omega
  have HV:=hI_ (show Kx.unpin m l f=(if Kx.isTab (Kx.inf l f).kind=false∨(Kx.inf l f).refs > 0 then (l,1)
    else if Kx.infosOk (Kx.addRefs (Kx.setKind l f 1) (Kx.namedW (Kx.row m f)) (-1)) then (Kx.addRefs (Kx.setKind l f 1) (Kx.namedW (Kx.row m f)) (-1),0)
    else (l,2)) by unfold Kx.unpin;rw [hmo,hin,hio];rfl)
  have HA:=hI_ (l13Args_c m l f vm v w hm h hs);have Ha:=hI_ (show (Kx.memOk m&&Kx.inR f 0 11&&Kx.infosOk l)=true by rw [hmo,hin,hio];rfl);have Hm:=hI_ hm;have Hmo:=hI_ hmo;have H:=hI_ h;have Hs:=hI_ hs;have Hio:=hI_ hio;have H12:=hI_ h12;have Hf:=hI_ hf;obtain ⟨_,am,cm,rfl,_,_⟩:=hm.len;obtain ⟨bi,oi,ci,rfl,hbil,d0,_,d2⟩:=RInfo.at h (k:=f) (by omega);have hfI:(f:Int)<(l.length:Int):=by omega
  clear hm h hs hmo hio h12 hf hin;go_enter Tryz.func213,Tryz.ntmps213;go_wp2_with fail;refine HA.out.mono ?_;rintro e w2 ⟨rfl,hb⟩;rw [Ha.out];have B2:=hI_ hb;clear hb;have H2:=hI_ (show RS infoC 3 (w2.alloc (.cells #[] 45)) (.slice (some ⟨bi,oi,none⟩) l.length ci) l from (RS.below H.out B2.out).below (bL_));have O1:=hI_ (show OS infoC 3 45 (w2.alloc (.cells #[] 45)) w2.heap.size (.slice (some ⟨w2.heap.size,0,none⟩) 0 0) [] from OS.lit0 nR_);have hx1:=hI_ (show ([]:List Kx.Info).length+l.length≤1099511627776 by rw [H12.out];decide)
  go_wp2_with (at_builtin;refine wpList_appS tiInfo rfl _ _ rfl w2.heap.size _ [] rfl O1.out _ l rfl H2.out hx1.out (by simp) ?_;intro v' w4 ho4 hg4 hx4;clear hx4;have Ho4:=hI_ (show OS infoC 3 45 w4 w2.heap.size v' l from ho4);have Hg4:=hI_ (show (w2.alloc (.cells #[] 45)).grownBy w4 (some w2.heap.size) from hg4);clear ho4 hg4;have B4:=hI_ (Below.appS (B2.out.alloc B2.out.size (.cells #[] 45)) O1.out Hg4.out B2.out.size (by simp;exact Nat.le_succ_of_le B2.out.size));have d0:=(B4.out.cell (p:=⟨bi,oi+f*3,none⟩) hbil).trans d0;have d2:=(B4.out.cell (p:=⟨bi,oi+f*3+2,none⟩) hbil).trans d2;obtain ⟨g,cap4,rfl,hg1,hg2⟩:=Ho4.out.shape (by rw [H12.out];decide);have B6:=hI_ B4.out;clear H2 O1 hx1 Hg4);have hbusy:∀ hh:(Kx.isTab (Kx.inf l f).kind=false∨(Kx.inf l f).refs > 0),Kx.unpin m l f=(l,1):=fun hh=>by rw [HV.out,if_pos hh]
  have Hbusy:=hI_ hbusy;clear hbusy
  cases ht:Kx.isTab (Kx.inf l f).kind with
  | false =>
    have hF:=Hbusy.out (.inl ht);refine (l13Table_c _ _).mono ?_;rintro e w5 ⟨rfl,rfl⟩;rw [ht];clear ht;go_wp2_with fail;go_ret2;rw [hF];exact ⟨_,rfl,Ho4.out.mono B2.out.size,B6.out⟩
  | true =>
    refine (l13Table_c _ _).mono ?_;rintro e w5 ⟨rfl,rfl⟩;rw [ht]
    by_cases hrf:(Kx.inf l f).refs > 0
    · have hF:=Hbusy.out (.inr hrf);have hrb:decide ((Kx.inf l f).refs > 0)=true:=by simpa using hrf
      clear ht;go_wp2_with fail;go_ret2;rw [hF];exact ⟨_,rfl,Ho4.out.mono B2.out.size,B6.out⟩
    · have HV:=hI_ (show Kx.unpin m l f=(if Kx.infosOk (Kx.addRefs (Kx.setKind l f 1) (Kx.namedW (Kx.row m f)) (-1)) then (Kx.addRefs (Kx.setKind l f 1) (Kx.namedW (Kx.row m f)) (-1),0) else (l,2)) by rw [HV.out,if_neg (by rintro (h1 | h1);(rw [ht] at h1;cases h1);exact hrf h1)])
      have hrb:decide ((Kx.inf l f).refs > 0)=false:=by simpa using hrf
      clear ht;have hgw:w.heap.size≤g:=Nat.le_trans B2.out.size hg1;have hfl:f<l.length:=by rw [H12.out];exact Hf.out
      obtain ⟨W5,hW5⟩:∃ W5,w4.setCell ⟨g,f*3,none⟩ (.int .i64 1)=W5:=⟨_,rfl⟩;have O8:=hI_ (show OS infoC 3 45 W5 w2.heap.size (.slice (some ⟨g,0,none⟩) l.length cap4) (Kx.setKind l f 1) from hW5 ▸ Ho4.out.setKind rfl f 1 hfl);have B8:=hI_ (show Below w.heap.size w W5 from hW5 ▸ B6.out.setCell (p:=⟨g,f*3,none⟩) hgw (.int .i64 1));have HAd:=hI_ (l13Add_c m (Kx.setKind l f 1) f (-1) _ _ W5 (Hm.out.below B8.out) Hmo.out O8.out.rs (by rw [setKind_length,H12.out]) ((Near.ofOk Hio.out).setKind hfl) (.inr rfl) Hf.out);obtain ⟨⟨z0,hz0⟩,hf0⟩:=Ho4.out.cellAt2 f hfl 0 (by decide);rw [Nat.add_zero] at hz0 hf0;go_wp2_with fail;go_simp;go_wp2_with fail;refine HAd.out.mono ?_;rintro e w6 ⟨u6,rfl,ho6,hb6⟩;have B9:=hI_ (B8.out.trans (hb6.mono B8.out.size));have hL12:(Kx.addRefs (Kx.setKind l f 1) (Kx.namedW (Kx.row m f)) (-1)).length=12:=by rw [addRefs_length,setKind_length,H12.out]
      have HL12:=hI_ hL12;have HSa:=hI_ (show SaneI (Kx.addRefs (Kx.setKind l f 1) (Kx.namedW (Kx.row m f)) (-1)) from (Hs.out.setKind hfl).addRefs fun x hx=>by rw [setKind_length,H12.out];exact namedW_lt12 hx)
      clear hL12;obtain ⟨L6,hL6⟩:∃ L6,Kx.addRefs (Kx.setKind l f 1) (Kx.namedW (Kx.row m f)) (-1)=L6:=⟨_,rfl⟩;rw [hL6] at ho6 HL12 HSa HV;have HIv:=hI_ (specInfosValid_c L6 u6 w6 ho6.rs HSa.out);obtain ⟨a6,c6,rfl,_,_⟩:=RS.val ho6.rs;have O9:=hI_ (ho6.mono (show w.heap.size≤W5.heap.size from B8.out.size));clear ho6 hb6 HAd hz0 hf0 HSa;go_wp2_with fail;refine HIv.out.mono ?_;rintro e w7 ⟨rfl,hb7⟩;have O10:=hI_ (O9.out.below hb7);have B10:=hI_ (B9.out.trans (hb7.mono B9.out.size));clear hb7 HIv
      cases hv:Kx.infosOk L6 with
      | true =>
        have hF:Kx.unpin m l f=(L6,0):=by rw [HV.out,hv];rfl
        clear hv;go_wp2_with fail;go_ret2;rw [hF];exact ⟨_,rfl,O10.out,B10.out⟩
      | false =>
        have hF:Kx.unpin m l f=(l,2):=by rw [HV.out,hv];rfl
        have H3:=hI_ (show RS infoC 3 (w7.alloc (.cells #[] 45)) (.slice (some ⟨bi,oi,none⟩) l.length ci) l from (RS.below H.out B10.out).below (bL_));have O3:=hI_ (show OS infoC 3 45 (w7.alloc (.cells #[] 45)) w7.heap.size (.slice (some ⟨w7.heap.size,0,none⟩) 0 0) [] from OS.lit0 nR_);have hx3:=hI_ (show ([]:List Kx.Info).length+l.length≤1099511627776 by rw [H12.out];decide);clear hv;go_wp2_with (at_builtin;refine wpList_appS tiInfo rfl _ _ rfl w7.heap.size _ [] rfl O3.out _ l rfl H3.out hx3.out (by simp) ?_;intro v' w8 ho8 hg8 hx8;clear hx8;have Ho8:=hI_ (show OS infoC 3 45 w8 w7.heap.size v' l from ho8);have Hg8:=hI_ (show (w7.alloc (.cells #[] 45)).grownBy w8 (some w7.heap.size) from hg8);clear ho8 hg8);have B11:=hI_ (Below.appS (B10.out.alloc B10.out.size (.cells #[] 45)) O3.out Hg8.out B10.out.size (by simp;exact Nat.le_succ_of_le B10.out.size));go_ret2;rw [hF]
        exact ⟨_,rfl,Ho8.out.mono B10.out.size,B11.out⟩
end Go.Proofs.YtenebmeaoidnoaaGreatDoor
