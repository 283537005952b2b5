/- KC4, KC5, KC7, KC8, KC9, KC10, KC11, KC12, joined. -/
import Derived.Test.YthcmmoibpgcgaaaGreatDoorKLa
set_option maxHeartbeats 4000000
set_option maxRecDepth 100000
set_option linter.all false
open List renaming getElem_set_ne->A1,getElem_set_self->A2,length_set->A3
open Nat renaming le_trans->A4,le_succ_of_le->A5,zero_add->A6,add_zero->A9
open Option.some renaming injEq->A'
open Go.Value renaming slice->A0
open Go.Proofs.Tryz
namespace Go.Proofs.YthcmmoibpgcgaaaGreatDoor
open Go.RowKit Kx
variable {sz base g hi f cap:Nat}{e e':TypeId}{w w' W:World}{v u um ui ue uc:Value}{m:List (List Int)}{k:Kx.Kernel}{cs:List Value}{l:List aG}{fs:List Nat}{d r:Int}
theorem OS.dh {α:Type} {f:α->List Value} {l:List α} {cs:Array Value} (h:OS f sz e w base v l) (hg:w.grownBy w' (some g)) (hb:w.heap[g]?=some (.cells cs e' (0,0))) (hne:e≠e'):OS f sz e w' base v l:=by
 refine h.kept hg ?_
 cases hv:v.ownBlock with
 | none=>exact .inl rfl
 | some k =>
  refine .inr fun eq=>?_
  obtain rfl:k=g:=by simpa using eq
  obtain ⟨c2,h2⟩:=h.kind hv;rw [hb] at h2;simp only [A',Obj.cells.injEq] at h2;exact hne h2.2.1.symm
theorem OM.dh {cs:Array Value} (h:OM w base hi u m) (hg:w.grownBy w' (some g)) (hb:w.heap[g]?=some (.cells cs e' (0,0))) (h1:29≠e') (h2:3≠e'):OM w' base hi u m:=by
 obtain ⟨ss,hl,ho,hr,hs⟩:=h;exact ⟨ss,hl,⟨ho.1.dh hg hb h1,ho.2⟩,fun i h h'=>⟨((hr i h h').1.os.dh hg hb h2).oi,(hr i h h').2⟩,hs⟩
theorem OE.dh {m:List Kx.Env} {cs:Array Value} (h:OE w base hi u m) (hg:w.grownBy w' (some g)) (hb:w.heap[g]?=some (.cells cs e' (0,0))) (h1:86≠e') (h2:9≠e'):OE w' base hi u m:=by
 obtain ⟨ss,hl,ho,hr,hs⟩:=h;exact ⟨ss,hl,⟨ho.1.dh hg hb h1,ho.2⟩,fun i h h'=>⟨(hr i h h').1,(hr i h h').2.1.dh hg hb h2,(hr i h h').2.2⟩,hs⟩
structure KO (w:World) (base:Nat) (um ui ue uc:Value) (k:Kx.Kernel):Prop where
 m:OM w base w.heap.size um k.mem
 i:OS bH 3 98 w base ui k.ag
 e:OE w base w.heap.size ue k.ah
 c:OS b_ 4 103 w base uc k.cache
theorem KO.rk (h:KO w base um ui ue uc k):RK w um ui ue uc k:=⟨h.m.rm,h.i.rs,h.e.re,h.c.rs⟩
theorem KO.below (h:KO w base um ui ue uc k) (hb:Below w.heap.size w w'):KO w' base um ui ue uc k:=
 ⟨(h.m.below hb).mono aW hb.size,h.i.below hb,(h.e.below hb).mono aW hb.size,h.c.below hb⟩
def Box? (e:TypeId):Prop:=29≠e/\3≠e/\98≠e/\86≠e/\9≠e/\103≠e
theorem KO.box (h:KO w base um ui ue uc k) (hb:BX w g e cs) (he:Box? e) (o:Nat) (x:Value):KO (w.setCell ⟨g,o,none⟩ x) base um ui ue uc k:=by
 obtain ⟨h1,h2,h3,h4,h5,h6⟩:=he;have hg:=aK w g o x;have hs:(w.setCell ⟨g,o,none⟩ x).heap.size=w.heap.size:=by simp [World.setCell]
 refine ⟨?_,h.i.dh hg hb h3,?_,h.c.dh hg hb h6⟩
 ·rw [hs];exact h.m.dh hg hb h1 h2
 rw [hs];exact h.e.dh hg hb h4 h5
theorem aJ:Box? 28:=⟨by decide,by decide,by decide,by decide,by decide,by decide⟩
theorem qG {c:Kx.Call} (h:aO k c 1=0):∃ f:Nat,c.a=f/\f<12/\(Kx.inf k.ag f).kind=1:=by
 unfold aO at h;split at h
 ·exact absurd h (by decide)
 rename_i h1
 split at h
 ·exact absurd h (by decide)
 split at h
 ·exact absurd h (by decide)
 rename_i h3
 cases hin:Kx.bK c.a 0 11 with
 | false=>rw [hin] at h1;exact absurd rfl h1
 | true =>
  obtain ⟨a0,a11⟩:=Kx.ay.1 hin;obtain ⟨f,hf⟩:=Int.eq_ofNat_of_zero_le a0;refine ⟨f,hf,by omega,?_⟩;rw [hf] at h3;exact Classical.not_not.1 fun h4=>h3 (.inl ⟨by decide,h4⟩)
theorem P7 {s:qj} {xs:List Int} (h:OI w base (dM s) xs) (hl:0<xs.length):∃ g cap,s=⟨some ⟨g,0,none⟩,xs.length,cap⟩/\base<=g/\g<w.heap.size:=by
 obtain ⟨g,cap,e,h1,h2⟩:=h.os.shape hl;obtain ⟨a,n,c⟩:=s;simp only [dM,Value.slice.injEq] at e;obtain ⟨rfl,rfl,rfl⟩:=e;exact ⟨g,c,rfl,h1,h2⟩
theorem OM.bG (h:OM w base hi u m) {a:Nat} (hf:f<m.length) (ha:a<(Kx.row m f).length) :
  ∃ b cap g cap',u=A0 (some ⟨b,0,none⟩) m.length cap/\w.cell? ⟨b,f,none⟩=some (A0 (some ⟨g,0,none⟩) (Kx.row m f).length cap')/\base<=g/\b≠g/\(∃ cs,w.heap[g]?=some (.cells cs 3 (0,0)))/\(∃ z,w.cell? ⟨g,a,none⟩=some z)/\w.frozen? ⟨g,a,none⟩=false /\
   ∀ x,OM (w.setCell ⟨g,a,none⟩ (I_ x)) base hi u (Kx.bG m f a x):=by
 obtain ⟨ss,hl,ho,hr,hs⟩:=h;have hfs:f<ss.length:=by omega
 have hrow:Kx.row m f=m[f]:=by simp [Kx.row,hf]
 rw [hrow] at ha ⊢;obtain ⟨h1,h2,h3⟩:=hr f hfs hf;obtain ⟨g,cap',es,hg1,hg2⟩:=P7 h1 (by omega);obtain ⟨b,cap,rfl,_,_⟩:=ho.1.shape (by omega);have hg0:(dM ss[f]).ownBlock=some g:=by rw [es];rfl
 obtain ⟨cs,hcs⟩:=h1.os.kind hg0;obtain ⟨b2,mP,cap2,ev,_,hc⟩:=ho.1.rs.at hfs;have e0:=hc 0 _ rfl;obtain ⟨⟨rfl,rfl,_⟩,_,rfl⟩:=Zb ev;clear ev;rw [Nat.mul_one,A9,A6,es] at e0;have hv:dM ss[f]=A0 (some ⟨g,0,none⟩) m[f].length cap':=by rw [es];rfl
 rw [hv] at h1;obtain ⟨z,hz⟩:=h1.os.bP a ha 0 (by decide);rw [Nat.mul_one,A9] at z hz;have hbg:b≠g:=by
  intro e;obtain ⟨c2,h2⟩:=ho.1.kind (g:=b) rfl;rw [e,hcs] at h2;simp at h2
 refine ⟨b,cap,g,cap',by rw [hl],e0,hg1,hbg,⟨cs,hcs⟩,z,hz,fun x=>?_⟩
 have hg:=aK w g a (I_ x);have hst:=(h1.stored rfl a x).1;refine ⟨ss,by simp [Kx.bG,hl],⟨ho.1.dh hg hcs (by decide),ho.2⟩,fun i hi hi'=>?_,hs⟩
 have him:i<m.length:=by omega
 obtain ⟨q1,q2,q3⟩:=hr i hi him;refine ⟨?_,q2,q3⟩
 by_cases e:i=f
 ·subst e;have e2:(Kx.bG m i a x)[i]=m[i].set a x:=by simp [Kx.bG,hrow]
  rw [e2,hv];exact hst
 have e2:(Kx.bG m f a x)[i]=m[i]:=by
  simp [Kx.bG,A1 (Ne.symm e)]
 rw [e2];refine q1.kept hg ?_;rcases Nat.lt_or_gt_of_ne e with hlt | hgt
 ·rcases hs i f hi hfs hlt with h0 | h0
  ·rw [hg0] at h0;exact absurd h0 (by simp)
  rw [hg0] at h0;exact .inr (Ne.symm h0)
 rcases hs f i hfs hi hgt with h0 | h0
 ·exact .inl h0
 rw [hg0] at h0;exact .inr h0
theorem BX.ne {g':Nat} {cs':Array Value} (h:BX w g e cs) (h':w.heap[g']?=some (.cells cs' e' (0,0))) (hne:e≠e'):g≠g':=by
 intro eq;subst eq;have h:w.heap[g]?=some (.cells cs.toArray e (0,0)):=h;rw [h] at h';simp only [A',Obj.cells.injEq] at h';exact hne h'.2.1
theorem KO.bG (h:KO w base um ui ue uc k) {a:Nat} (hf:f<k.mem.length) (ha:a<(Kx.row k.mem f).length) :
  ∃ b cap g cap',um=A0 (some ⟨b,0,none⟩) k.mem.length cap/\w.cell? ⟨b,f,none⟩=some (A0 (some ⟨g,0,none⟩) (Kx.row k.mem f).length cap')/\base<=g/\b≠g/\(∃ cs,w.heap[g]?=some (.cells cs 3 (0,0)))/\(∃ z,w.cell? ⟨g,a,none⟩=some z)/\w.frozen? ⟨g,a,none⟩=false /\
   ∀ x,KO (w.setCell ⟨g,a,none⟩ (I_ x)) base um ui ue uc { k with mem:=Kx.bG k.mem f a x }:=by
 obtain ⟨b,cap,g,cap',h1,h2,h3,hbg,⟨cs,h4⟩,h5,h6,h7⟩:=h.m.bG hf ha;refine ⟨b,cap,g,cap',h1,h2,h3,hbg,⟨cs,h4⟩,h5,h6,fun x=>?_⟩
 have hg:=aK w g a (I_ x);have hs:(w.setCell ⟨g,a,none⟩ (I_ x)).heap.size=w.heap.size:=by simp [World.setCell]
 refine ⟨?_,h.i.dh hg h4 (by decide),?_,h.c.dh hg h4 (by decide)⟩
 ·rw [hs];exact h7 x
 rw [hs];exact h.e.dh hg h4 (by decide) (by decide)
theorem qy {α:Type} {f:α->List Value} {l:List α} (h:OS f sz e w hi u l) (hv:UB v hi):Sep u v:=by
 cases hu:u.ownBlock with
 | none=>exact .inl hu
 | some k =>
  refine .inr fun eq=>?_
  have h1:=(h.lt k hu).1;have h2:=hv k (by rw [<-eq];exact hu);omega
theorem Jz {α:Type} {f:α->List Value} {l:List α} (h:OS f sz e w hi u l) (hv:UB v hi):Sep v u:=by
 cases hu:v.ownBlock with
 | none=>exact .inl hu
 | some k =>
  refine .inr fun eq=>?_
  have h1:=hv k hu;have h2:=(h.lt k (by rw [<-eq,hu])).1;omega
theorem OM.setRow (h:OM w base hi u m) (Dt:base<=hi) (hhi:hi<=w.heap.size) (hf:f<m.length) (s:qj) (xs:List Int) (hn:OI w hi (dM s) xs) :
  ∃ b cap,u=A0 (some ⟨b,0,none⟩) m.length cap/\base<=b/\(∃ cs,w.heap[b]?=some (.cells cs 29 (0,0)))/\(∃ z,w.cell? ⟨b,f,none⟩=some z)/\w.frozen? ⟨b,f,none⟩=false /\
   OM (w.setCell ⟨b,f,none⟩ (dM s)) base w.heap.size u (m.set f xs):=by
 obtain ⟨ss,hl,ho,hr,hs⟩:=h;have hfs:f<ss.length:=by omega
 obtain ⟨b,cap,rfl,hb1,hb2⟩:=ho.1.shape (by omega);obtain ⟨cs,hcs⟩:=ho.1.kind (g:=b) rfl;obtain ⟨hz,hfz⟩:=ho.1.bP f hfs 0 (by decide);rw [Nat.mul_one,A9] at hz hfz;have hst:=(ho.1.jy rfl f s hfs).1;rw [Nat.mul_one] at hst;have hg:=aK w b f (dM s);refine ⟨b,cap,by rw [hl],hb1,⟨cs,hcs⟩,hz,hfz,ss.set f s,by simp [hl],⟨by have:=hst;exact this,ho.2.mono hhi⟩,fun i hi1 hi2=>?_,fun i j hi1 hj1 hij=>?_⟩
 ·by_cases e:i=f
  ·subst e;rw [A2,A2];exact ⟨(hn.os.dh hg hcs (by decide)).oi.mono Dt,hn.os.ub,qy hn.os ho.2⟩
  rw [A1 (Ne.symm e),A1 (Ne.symm e)];obtain ⟨q1,q2,q3⟩:=hr i (by simpa using hi1) (by simpa using hi2);exact ⟨(q1.os.dh hg hcs (by decide)).oi,q2.mono hhi,q3⟩
 have hi0:i<ss.length:=by simpa using hi1
 have hj0:j<ss.length:=by simpa using hj1
 by_cases ei:i=f
 ·subst ei;rw [A2,A1 (by omega)];exact Jz hn.os (hr j hj0 (by omega)).2.1
 by_cases ej:j=f
 ·subst ej;rw [A2,A1 (by omega)];exact qy hn.os (hr i hi0 (by omega)).2.1
 rw [A1 (by omega),A1 (by omega)];exact hs i j hi0 hj0 hij
instance (e:TypeId):Decidable (Box? e):=by unfold Box?;infer_instance
structure Kept (base:Nat) (w w':World):Prop where
 b:Below base w w'
 x:∀ g t l,Box? t->BX w g t l->BX w' g t l
theorem Kept.size (h:Kept base w w'):w.heap.size<=w'.heap.size:=h.b.size
theorem Kept.of (hb:Below w.heap.size w w') (hbase:base<=w.heap.size):Kept base w w':=⟨hb.mono hbase,fun _ _ _ _ h=>h.below hb⟩
theorem Kept.go {V:World} (h:Kept base w W) (hb:Below W.heap.size W V) (hbase:base<=w.heap.size):Kept base w V:=⟨h.b.trans (hb.mono (A4 hbase h.size)),fun g t l ht hx=>(h.x g t l ht hx).below hb⟩
theorem Kept.trans {V:World} (h:Kept base w W) (h':Kept base W V):Kept base w V:=⟨h.b.trans h'.b,fun g t l ht hx=>h'.x g t l ht (h.x g t l ht hx)⟩
theorem Kept.new (h:Kept base w W) (hg:base<=g/\w.heap.size<=g) (o:Nat) (v:Value):Kept base w (W.setCell ⟨g,o,none⟩ v):=
 ⟨h.b.setCell (p:=⟨g,o,none⟩) hg.1 v,fun g' t l ht hx=>(h.x g' t l ht hx).other (by have:=hx.lt;omega) o v⟩
theorem Kept.put (h:Kept base w W) {b t':Nat} {cs:Array Value} (hk:W.heap[b]?=some (.cells cs t' (0,0))) (hg:base<=b) (h3:¬ Box? t') (o:Nat) (v:Value):Kept base w (W.setCell ⟨b,o,none⟩ v):=
 ⟨h.b.setCell (p:=⟨b,o,none⟩) hg v,fun g t l ht hx=>(h.x g t l ht hx).other ((h.x g t l ht hx).ne hk (fun e=>h3 (e ▸ ht))) o v⟩
theorem Yx (w:World):(Instr.makeSlice 29 (I_ 4) (I_ 4)).run prog w=.ok (A0 (some ⟨w.heap.size,0,none⟩) 4 4) (w.alloc (.cells #[I_ 0,I_ 0,I_ 0,I_ 0] 3)):=by kernel_rfl
theorem KO.setRow (h:KO w base um ui ue uc k) (hm:OM w base hi um k.mem) (Dt:base<=hi) (hhi:hi<=w.heap.size) (hf:f<k.mem.length) (s:qj) (xs:List Int) (hn:OI w hi (dM s) xs) :
  ∃ b cap,um=A0 (some ⟨b,0,none⟩) k.mem.length cap/\base<=b/\(∃ cs,w.heap[b]?=some (.cells cs 29 (0,0)))/\(∃ z,w.cell? ⟨b,f,none⟩=some z)/\w.frozen? ⟨b,f,none⟩=false /\
   KO (w.setCell ⟨b,f,none⟩ (dM s)) base um ui ue uc { k with mem:=k.mem.set f xs }:=by
 obtain ⟨b,cap,h1,h2,⟨cs,h3⟩,h4,h5,h6⟩:=hm.setRow Dt hhi hf s xs hn;have hg:=aK w b f (dM s);have hs:(w.setCell ⟨b,f,none⟩ (dM s)).heap.size=w.heap.size:=by simp [World.setCell]
 refine ⟨b,cap,h1,h2,⟨cs,h3⟩,h4,h5,?_,h.i.dh hg h3 (by decide),?_,h.c.dh hg h3 (by decide)⟩
 ·rw [hs];exact h6
 rw [hs];exact h.e.dh hg h3 (by decide) (by decide)
theorem AQ (m:List (List Int)) (l:List aG) (f:Int) (vm v:Value) (w:World) (hm:RM w vm m) (h:bV w v l) (hs:jo l):Calls prog 324 #[vm,v,I_ f] w fun e w'=>e=.returned (.bool (bW m&&Kx.bK f 0 11&&bC l))/\Below w.heap.size w w':=by
 obtain ⟨_,a,cap,rfl,_,_⟩:=hm.len;obtain ⟨a2,cap2,rfl,_,_⟩:=RS.val h;have H1:=af (P8 m f _ w hm);have H2:=af (dX l _ w h hs);clear hm h hs;go_enter func324,ntmps324;go_wp2_with fail;refine H1.o.mono ?_;rintro e w2 ⟨rfl,rfl⟩
 cases hb:(bW m&&Kx.bK f 0 11) with
 | false =>
  have Hb:=af hb;clear hb;go_wp2_with fail;go_ret;exact ⟨ak (by rw [Hb.o,Bool.false_and]),Below.refl _ _⟩
 | true =>
  have Hb:=af hb;clear hb;go_wp2_with fail;refine H2.o.mono ?_;rintro e w3 ⟨rfl,hb⟩;have B:=af hb;clear hb;go_wp2_with fail;go_ret;exact ⟨ak (by rw [Hb.o,Bool.true_and]),B.o⟩
theorem lM {α:Type} {xs:List α} {o:Nat} {c:α} (h:xs[o]?=some c):xs.set o c=xs:=by
 refine List.ext_getElem? fun i=>?_
 rw [List.getElem?_set];split
 ·rename_i e;subst e
  rw [h];have:=(List.getElem?_eq_some_iff.1 h).1;simp [this]
 rfl
theorem OS.aF {n:Nat} (h:OS bH 3 98 w base (A0 (some ⟨g,0,none⟩) n cap) l) (hn:l.length=n) (f:Nat) (r:Int) (hf:f<l.length) :
  OS bH 3 98 (w.setCell ⟨g,f*3+2,none⟩ (I_ r)) base (A0 (some ⟨g,0,none⟩) n cap) (l.set f { Kx.inf l f with refs:=r }):=by
 subst hn;have h2:=(h.1.stored (f*3+2) (I_ r)).1;refine ⟨?_,by simpa using h.2⟩;have e0:=flat_get (f:=bH) (sz:=3) (fun _=>rfl) l f 0 hf (by decide);have e1:=flat_get (f:=bH) (sz:=3) (fun _=>rfl) l f 1 hf (by decide);have ei:Kx.inf l f=l[f]:=by simp [Kx.inf,hf]
 have e2:flat bH (l.set f { Kx.inf l f with refs:=r })=(flat bH l).set (f*3+2) (I_ r):=by
  rw [oz (sz:=3) (fun _=>rfl) l f _ hf,ei];show ((((flat bH l).set (f*3) (I_ l[f].kind)).set (f*3+1) (.string l[f].guard)).set (f*3+1+1) (I_ r))=_;rw [lM (show (flat bH l)[f*3]?=some (I_ l[f].kind) from e0),lM (show (flat bH l)[f*3+1]?=some (.string l[f].guard) from e1)]
 rw [e2,A3];exact h2
theorem dU {x:Int} {b:Bool} (h:Kx.entry x=some (f,b)):f<12:=by
 unfold Kx.entry at h;split at h
 ·rename_i h1
  simp only [A',Prod.mk.injEq] at h;omega
 cases h
theorem nD {ws:List Int} (h:f ∈ ax ws):f<12:=by
 unfold ax at h;obtain ⟨x,_,hx⟩:=List.mem_filterMap.1 h
 cases he:Kx.entry x with
 | none=>rw [he] at hx;cases hx
 | some p=>rw [he] at hx;simp only [Option.map_some,A'] at hx;subst hx;exact dU (b:=p.2) (by rw [he])
theorem BP {k:Nat} (hk:k<fs.length):Kx.bD l (fs.take (k+1)) d=Kx.aF (Kx.bD l (fs.take k) d) fs[k] d:=by
 unfold Kx.bD;rw [List.take_succ_eq_append_getElem hk,List.foldl_append];rfl
theorem fD:(Kx.aF l f d).length=l.length:=by simp [Kx.aF]
theorem h_:∀ l:List aG,(Kx.bD l fs d).length=l.length:=by
 induction fs with
 | nil=>intro l;rfl
 | cons f fs ih=>intro l;show (Kx.bD (Kx.aF l f d) fs d).length=_;rw [ih,fD]
def oI (b:Int) (l:List aG):Prop:=∀ g,-b<=(Kx.inf l g).refs/\(Kx.inf l g).refs<=b
theorem oI.set {b:Int} (h:oI b l) (hd:d=1\/d=-1) (hf:f<l.length):oI (b+1) (Kx.aF l f d):=by
 intro g;have h1:=h g;have h2:=h f
 by_cases e:g=f
 ·subst e;have:Kx.inf (Kx.aF l g d) g={ Kx.inf l g with refs:=(Kx.inf l g).refs+d }:=by simp [Kx.inf,Kx.aF,hf]
  rw [this];rcases hd with rfl | rfl <;> (simp only;omega)
 have:Kx.inf (Kx.aF l f d) g=Kx.inf l g:=by simp [Kx.inf,Kx.aF,List.getElem?_set,Ne.symm e]
 rw [this];omega
theorem DV (m:List (List Int)) (l:List aG) (f:Nat) (d:Int) (vm v:Value) (w:World) (hm:RM w vm m) (hmo:bW m=true) (h:bV w v l) (h12:l.length=12) (hn:oI 1000 l) (hd:d=1\/d=-1) (hf:f<12) :
  Calls prog 325 #[vm,v,I_ f,I_ d] w (yu bH 3 98 w (Kx.bD l (ax (Kx.row m f)) d)):=by
 obtain ⟨uk,hr4,_⟩:=mem_row hmo hf;obtain ⟨bm,om,cm,um,rfl,hcm,m_⟩:=hm.row hmo hf;have Tj:=World.block_lt_of_cell? w _ hcm;obtain ⟨a2,cap2,rfl,_,_⟩:=RS.val h;have H:=af h;have fJ:=af h12;have Hn:=af hn;have Hd:=af hd;have Jo:=af m_;have VT:=af Tj;have HL:=af (show (ax (Kx.row m f)).length<=4 by rw [<-hr4];unfold ax;exact List.length_filterMap_le _ _);have Js:=af (show ∀ x ∈ ax (Kx.row m f),x<12 from fun x hx=>nD hx)
 have wJ:(f:Int)<12:=by omega
 have H1:=af (show RS bH 3 (w.alloc (.cells #[] 98)) (A0 a2 l.length cap2) l from RS.below h (dm));have O1:=af (show OS bH 3 98 (w.alloc (.cells #[] 98)) w.heap.size (A0 (some ⟨w.heap.size,0,none⟩) 0 0) [] from OS.d_ aW);have hx1:=af (show ([]:List aG).length+l.length<=1099511627776 by rw [h12];decide);obtain ⟨ar,cr,rfl⟩:=m_.val;clear h h12 hn hd m_ hm hmo uk hr4 hf Tj;generalize Kx.row m f=row at *;go_enter func325,ntmps325
 go_wp2_with (at_builtin;refine aV qH rfl _ _ rfl w.heap.size _ [] rfl O1.o _ l rfl H1.o hx1.o (by simp) ?_;intro v' w4 iV hg4 hx4;clear hx4;have kH:=af (show OS bH 3 98 w4 w.heap.size v' l from iV);have rU:=af (show (w.alloc (.cells #[] 98)).grownBy w4 (some w.heap.size) from hg4);clear iV hg4;have B4:=af (Below.dN ((Below.refl w.heap.size w).alloc aW (.cells #[] 98)) O1.o rU.o aW (by simp));have hcm:=(B4.o.cell (p:=⟨bm,om+f,none⟩) VT.o).trans hcm;have HN:=af (oC row _ w4 (Jo.o.below B4.o)));refine HN.o.mono ?_;rintro e w5 ⟨u5,rfl,zK,hb5⟩;have B5:=af (B4.o.trans (hb5.mono B4.o.size));obtain ⟨g,cg,rfl,hg1,hg2⟩:=(kH.o.below hb5).shape (by rw [fJ.o];decide);have O5:=af (kH.o.below hb5);have N5:=af zK;obtain ⟨an,cn,rfl⟩:=zK.ri.val
 have hsep:=af (show ∀ k,(Value.slice an (fU (ax row)).length cn).ownBlock=some k->w4.heap.size<=k from fun k hk=>(zK.lt k hk).1)
 have DT:=af (show g<w4.heap.size from (kH.o.lt g rfl).2);have hlen:=aQ (ax row);obtain ⟨fs,hfs⟩:=XP (ax row);rw [hfs] at N5 HL Js hsep hlen ⊢;have N5:=af N5.o.ri;rw [hlen] at N5 hsep ⊢;clear H1 O1 hx1 HN kH rU zK hb5 hcm Jo;have R0:=af (show oI 1000 (Kx.bD l (fs.take 0) d) from Hn.o);go_wp2_with fail;go_loopw [11] (fun i wr=>∃ j:Nat,i=I_ j/\j<=fs.length/\TI (OS bH 3 98 wr w.heap.size (A0 (some ⟨g,0,none⟩) l.length cg) (Kx.bD l (fs.take j) d))/\TI (oI (1000+j) (Kx.bD l (fs.take j) d))/\TI (w5.grownBy wr (some g))/\TI (Below w.heap.size w wr)) (fun i _=>fs.length - (intOf i).toNat)
 case atStart=>exact ⟨0,rfl,Nat.zero_le _,O5.o,R0.o,World.grownBy.refl _ _,B5.o⟩
 case round =>
  clear O5 R0 B5;obtain ⟨j,rfl,hj,ho,hne,hgr,hb⟩:=hrel
  by_cases hlt:j<fs.length
  ·have Q5:(j:Int)<(fs.length:Int):=by omega
   have J3:(fU fs)[j]?=some ((fs[j]:Nat):Int):=by simp [fU,hlt]
   obtain ⟨bn,on,cn',ev,VU,hcn⟩:=N5.o.at (k:=j) (by rw [hlen];exact hlt);rw [hlen] at ev;obtain ⟨rfl,_,rfl⟩:=Za ev;clear ev;have hbn:bn≠g:=by have:=hsep.o bn rfl;have:=DT.o;omega
   have Tm:w5.cell? ⟨bn,on+j,none⟩=some (I_ (fs[j]:Nat)):=by
    rw [hcn,(List.getElem_eq_iff _).2 J3]
   have q0:=(hgr.o.cell_far ⟨bn,on+j,none⟩ VU (by simp;exact fun e=>hbn e)).trans Tm;have sD:=Js.o _ (List.getElem_mem hlt);have jU:=af (BP (l:=l) (d:=d) hlt);generalize hx:fs[j]=x at q0 sD jU;have hlc:(Kx.bD l (fs.take j) d).length=l.length:=h_ l;have hxl:x<(Kx.bD l (fs.take j) d).length:=by rw [hlc,fJ.o];exact sD
   have Oa:(x:Int)<(l.length:Int):=by have:=fJ.o;omega
   have hnr:=hne.o x;have DW:=af (hne.o.set Hd.o hxl);have hrd:=bV.at ho.o.rs hxl;obtain ⟨_,_,_,ev,_,_,_,q1⟩:=hrd;rw [hlc] at ev;obtain ⟨⟨rfl,rfl,_⟩,_,rfl⟩:=Zb ev;clear ev;rw [A6] at q1;obtain ⟨hzz,hfz⟩:=ho.o.bP x hxl 2 (by decide);obtain ⟨r,hr⟩:=XP ((Kx.inf (Kx.bD l (fs.take j) d) x).refs);have zL:=af (ho.o.drewN 1 |>.aF hlc x (r+d) hxl);have Tn:=af (show Kx.aF (Kx.bD l (fs.take j) d) x d=(Kx.bD l (fs.take j) d).set x { Kx.inf (Kx.bD l (fs.take j) d) x with refs:=r+d } by unfold Kx.aF;rw [hr]);rw [hr] at q1 hnr;have hjj:j<4:=by have:=HL.o;omega
   have hwr:wrap64 (r+d)=r+d:=by
    have:=Hd.o
    unfold wrap64;omega
   have hwr2:IntKind.i64.wrap (r+d)=r+d:=by rw [IntKind.wrap_i64];unfold wrap64 at hwr;omega
   obtain ⟨W5,AU⟩:=XP (wr.drew.setCell ⟨g,x*3+2,none⟩ (I_ (r+d)));have OW:=af (show OS bH 3 98 W5 w.heap.size (A0 (some ⟨g,0,none⟩) l.length cg) (Kx.bD l (fs.take (j+1)) d) by rw [jU.o,Tn.o,<-AU];exact zL.o);have GW:=af (show w5.grownBy W5 (some g) from AU ▸ grownBy_trans (grownBy_trans hgr.o (show wr.grownBy wr.drew (some g) from ⟨rfl,rfl,rfl,Nat.le_refl _,fun _ _ _=>rfl⟩)) (aK wr.drew g (x*3+2) (I_ (r+d))))
   have BW:=af (show Below w.heap.size w W5 from AU ▸ (Below.bz hb.o).setCell (p:=⟨g,x*3+2,none⟩) hg1 (I_ (r+d)));have S1:(fun wz:World=>wz.cell? ⟨bn,on+j,none⟩=some (I_ x)) wr:=q0
   have S2:(fun wz:World=>wz.cell? ⟨bn,on+j,none⟩=some (I_ x)) W5:=by
    rw [<-AU];exact (World.cell?_of_block (Below.heap_setCell wr.drew ⟨g,x*3+2,none⟩ _ bn hbn)).trans q0
   obtain ⟨z9,IM⟩:=hzz;have NE:=af jU.o;clear zL Tn jU ho hne hgr hb hnr hcn Tm J3;go_wp2_with fail;refine afT (S:=(fun wz=>wz.cell? ⟨bn,on+j,none⟩=some (I_ x))) fun hHeld=>?_
   refine afW 0 ?_;refine afV 8 ?_;refine tH 13 ?_;refine ahk 12 fun K hK=>?_
   (go_simp)
   refine afS hK fun hHeld=>?_
   clear hK K;refine afU 14 ?_;refine tH 16 ?_;refine ahk 17 fun K hK=>?_
   (go_simp)
   refine afS hK fun hHeld=>?_
   clear hK K;refine wpAnyH_done (by kernel_rfl) ?_ _;go_wp2_with fail;go_roundw
   case rel=>exact ⟨j+1,by go_num,by omega,OW.o,by show oI _ _;rw [NE.o,show (1000:Int)+((j+1:Nat):Int)=1000+j+1 by omega];exact DW.o,GW.o,BW.o⟩
   case measure=>simp [intOf];omega
  have hjn:j=fs.length:=by omega
  have HF:=af (show OS bH 3 98 wr w.heap.size (A0 (some ⟨g,0,none⟩) l.length cg) (Kx.bD l (ax row) d) by rw [hfs];have:=ho.o;rw [hjn,List.take_length] at this;exact this);have HB:=af hb.o;clear hjn;go_wp2_with fail;go_ret;exact ⟨_,rfl,HF.o,HB.o⟩
theorem OS.setKind {n:Nat} (h:OS bH 3 98 w base (A0 (some ⟨g,0,none⟩) n cap) l) (hn:l.length=n) (f:Nat) (r:Int) (hf:f<l.length) :
  OS bH 3 98 (w.setCell ⟨g,f*3,none⟩ (I_ r)) base (A0 (some ⟨g,0,none⟩) n cap) (Kx.setKind l f r):=by
 subst hn;have h2:=(h.1.stored (f*3) (I_ r)).1;have ei:Kx.inf l f=l[f]:=by simp [Kx.inf,hf]
 unfold Kx.setKind;refine ⟨?_,by simpa using h.2⟩;have e1:=flat_get (f:=bH) (sz:=3) (fun _=>rfl) l f 1 hf (by decide);have e2':=flat_get (f:=bH) (sz:=3) (fun _=>rfl) l f 2 hf (by decide);have e2:flat bH (l.set f { Kx.inf l f with kind:=r })=(flat bH l).set (f*3) (I_ r):=by
  rw [oz (sz:=3) (fun _=>rfl) l f _ hf,ei];show ((((flat bH l).set (f*3) (I_ r)).set (f*3+1) (.string l[f].guard)).set (f*3+1+1) (I_ l[f].refs))=_;have q1:((flat bH l).set (f*3) (I_ r))[f*3+1]?=some (.string l[f].guard):=by
   rw [List.getElem?_set_ne (by omega)];exact e1
  rw [lM q1];have q2:((flat bH l).set (f*3) (I_ r))[f*3+1+1]?=some (I_ l[f].refs):=by
   rw [List.getElem?_set_ne (by omega)];exact e2'
  rw [lM q2]
 rw [e2,A3];exact h2
theorem jo.setKind (h:jo l) (hf:f<l.length):jo (Kx.setKind l f r):=by
 intro x hx;unfold Kx.setKind at hx;rcases List.mem_or_eq_of_mem_set hx with h1 | h1
 ·exact h x h1
 subst h1;show (Kx.inf l f).guard.size<=_;exact h _ (ry hf)
theorem jo.aF (h:jo l) (hf:f<l.length):jo (Kx.aF l f d):=by
 intro x hx;unfold Kx.aF at hx;rcases List.mem_or_eq_of_mem_set hx with h1 | h1
 ·exact h x h1
 subst h1;show (Kx.inf l f).guard.size<=_;exact h _ (ry hf)
theorem jo.bD:∀ {l:List aG},jo l->(∀ f ∈ fs,f<l.length)->jo (Kx.bD l fs d):=by
 induction fs with
 | nil=>intro l h _;exact h
 | cons f fs ih =>
  intro l h hf;refine ih (l:=Kx.aF l f d) (h.aF (hf f (List.mem_cons_self ..))) fun g hg=>?_
  rw [fD];exact hf g (List.mem_cons_of_mem _ hg)
theorem oI.MZ (h:bC l=true):oI 1000 l:=by
 intro g
 by_cases hg:g<l.length
 ·have hx:cZ (Kx.inf l g)=true:=by
   have:=Bool.and_eq_true_iff.1 h
   exact List.all_eq_true.1 this.1 _ (ry hg)
  unfold cZ at hx;split at hx
  ·have:Kx.inf l g=aG.zero:=by simpa using hx
   rw [this];decide
  have h2:=Bool.and_eq_true_iff.1 hx;have:=Kx.ay.1 h2.2;omega
 have:Kx.inf l g=aG.zero:=by simp [Kx.inf,Nat.not_lt.1 hg]
 rw [this];decide
theorem oI.setKind {b:Int} (h:oI b l) (hf:f<l.length):oI b (Kx.setKind l f r):=by
 intro g
 by_cases e:g=f
 ·subst e;have:Kx.inf (Kx.setKind l g r) g={ Kx.inf l g with kind:=r }:=by simp [Kx.inf,Kx.setKind,hf]
  rw [this];exact h g
 have:Kx.inf (Kx.setKind l f r) g=Kx.inf l g:=by simp [Kx.inf,Kx.setKind,Ne.symm e]
 rw [this];exact h g
theorem ja:(Kx.setKind l f r).length=l.length:=by simp [Kx.setKind]
theorem yG (m:List (List Int)) (l:List aG) (f:Nat) (kind:Int) (r:List Kx.Str) (vm v u:Value) (w:World) (hm:RM w vm m) (hmo:bW m=true) (h:bV w v l) (hs:jo l) (jI:bC l=true) (h12:l.length=12) (hr:dK w u r) (hro:aS r=true) (hrs:Dw r) (hf:f<12) (hk:kind=2\/kind=3) :
  Calls prog 308 #[vm,v,I_ f,I_ kind,u] w (yH bH 3 98 w (Kx.pin m l f kind r).1 [I_ (Kx.pin m l f kind r).2]):=by
 have hin:Kx.bK f 0 11=true:=by rw [Kx.ay];omega
 have ht:aX kind=true:=by rcases hk with rfl | rfl <;> rfl
 have HV:=af (show Kx.pin m l f kind r=(if (Kx.inf l f).kind≠1\/(Kx.inf l f).refs > 0 then (l,1)
  else if !Kx.rowOk m l f kind r then (l,2)
  else if bC (Kx.bD (Kx.setKind l f kind) (ax (Kx.row m f)) 1) then (Kx.bD (Kx.setKind l f kind) (ax (Kx.row m f)) 1,0)
  else (l,1)) by unfold Kx.pin;rw [hmo,hin,jI,ht,hro];rfl)
 have HA:=af (AQ m l f vm v w hm h hs);have Ha:=af (show (bW m&&Kx.bK f 0 11&&bC l)=true by rw [hmo,hin,jI];rfl);have HR:=af (fun W (hW:Below w.heap.size w W)=>di r u W (RS.below hr hW) hrs)
 have HO:=af (fun W (hW:Below w.heap.size w W)=>BQ m l f kind r vm v u W (hm.below hW) hmo (RS.below h hW) h12 (RS.below hr hW) hk hf)
 have mW:=af hro;have Ht:=af ht;have Hm:=af hm;have kG:=af hmo;have H:=af h;have Hs:=af hs;have nM:=af jI;have fJ:=af h12;have Hf:=af hf;have Hk:=af hk;obtain ⟨_,am,cm,rfl,_,_⟩:=hm.len;obtain ⟨bi,oi,ci,rfl,zN,d0,_,d2⟩:=bV.at h (k:=f) (by omega);obtain ⟨ar,cr,rfl,_,_⟩:=RS.val hr;have wJ:(f:Int)<(l.length:Int):=by omega
 clear hm h hs hr hmo jI h12 hro hrs hf hk hin ht;go_enter func308,ntmps308;go_wp2_with fail;refine HA.o.mono ?_;rintro e w1 ⟨rfl,hb⟩;rw [Ha.o];have B1:=af hb;clear hb;go_wp2_with fail;refine (gu _ _).mono ?_;rintro e w2 ⟨rfl,rfl⟩;rw [Ht.o];go_wp2_with fail;refine (HR.o w1 B1.o).mono ?_;rintro e w2 hq;obtain ⟨rfl,hb⟩:=hq.below;rw [mW.o];have B2:=af (B1.o.trans (hb.mono B1.o.size));clear hb hq;have H2:=af (show RS bH 3 (w2.alloc (.cells #[] 98)) (A0 (some ⟨bi,oi,none⟩) l.length ci) l from (RS.below H.o B2.o).below (dm));have O1:=af (show OS bH 3 98 (w2.alloc (.cells #[] 98)) w2.heap.size (A0 (some ⟨w2.heap.size,0,none⟩) 0 0) [] from OS.d_ aW);have hx1:=af (show ([]:List aG).length+l.length<=1099511627776 by rw [fJ.o];decide)
 go_wp2_with (at_builtin;refine aV qH rfl _ _ rfl w2.heap.size _ [] rfl O1.o _ l rfl H2.o hx1.o (by simp) ?_;intro v' w4 iV hg4 hx4;clear hx4;have kH:=af (show OS bH 3 98 w4 w2.heap.size v' l from iV);have rU:=af (show (w2.alloc (.cells #[] 98)).grownBy w4 (some w2.heap.size) from hg4);clear iV hg4;have B4:=af (Below.dN (B2.o.alloc B2.o.size (.cells #[] 98)) O1.o rU.o B2.o.size (by simp;exact A5 B2.o.size));have d0:=(B4.o.cell (p:=⟨bi,oi+f*3,none⟩) zN).trans d0;have d2:=(B4.o.cell (p:=⟨bi,oi+f*3+2,none⟩) zN).trans d2;obtain ⟨g,cap4,rfl,hg1,hg2⟩:=kH.o.shape (by rw [fJ.o];decide);have B6:=af B4.o;clear H2 O1 hx1 rU;by_cases hk1:(Kx.inf l f).kind=1;(by_cases hrf:(Kx.inf l f).refs > 0))
 ·have hF:Kx.pin m l f kind r=(l,1):=by rw [HV.o,if_pos (.inr (by assumption))]
  go_wp2_with fail;go_ret2;rw [hF];exact ⟨_,rfl,kH.o.mono B2.o.size,B6.o⟩
 ·have HV:=af (show Kx.pin m l f kind r=(if !Kx.rowOk m l f kind r then (l,2)
   else if bC (Kx.bD (Kx.setKind l f kind) (ax (Kx.row m f)) 1) then (Kx.bD (Kx.setKind l f kind) (ax (Kx.row m f)) 1,0)
   else (l,1)) by rw [HV.o,if_neg (by rintro (h1 | h1);contradiction;omega)])
  have Yy:=af (HO.o w4 B6.o);go_wp2_with fail;refine Yy.o.mono ?_;rintro e w5 ⟨rfl,hb⟩;have B7:=af (B6.o.trans (hb.mono B6.o.size));have O7:=af (kH.o.below hb);clear hb Yy
  cases hrw:Kx.rowOk m l f kind r with
  | false =>
   have hF:Kx.pin m l f kind r=(l,2):=by rw [HV.o,hrw];rfl
   clear hrw;go_wp2_with fail;go_ret2;rw [hF];exact ⟨_,rfl,O7.o.mono B2.o.size,B7.o⟩
  | true =>
   have hgw:w.heap.size<=g:=A4 B2.o.size hg1;have hfl:f<l.length:=by rw [fJ.o];exact Hf.o
   obtain ⟨W5,AU⟩:=XP (w5.setCell ⟨g,f*3,none⟩ (I_ kind));have O8:=af (show OS bH 3 98 W5 w2.heap.size (A0 (some ⟨g,0,none⟩) l.length cap4) (Kx.setKind l f kind) from AU ▸ O7.o.setKind rfl f kind hfl);have B8:=af (show Below w.heap.size w W5 from AU ▸ B7.o.setCell (p:=⟨g,f*3,none⟩) hgw (I_ kind));have Tq:=af (DV m (Kx.setKind l f kind) f 1 _ _ W5 (Hm.o.below B8.o) kG.o O8.o.rs (by rw [ja,fJ.o]) ((oI.MZ nM.o).setKind hfl) (.inl rfl) Hf.o);obtain ⟨⟨z0,hz0⟩,hf0⟩:=O7.o.bP f hfl 0 (by decide);rw [A9] at hz0 hf0;rw [hrw] at HV;clear hrw;go_wp2_with fail;go_simp;go_wp2_with fail;refine Tq.o.mono ?_;rintro e w6 ⟨u6,rfl,yI,hb6⟩;have B9:=af (B8.o.trans (hb6.mono B8.o.size))
   have J4:(Kx.bD (Kx.setKind l f kind) (ax (Kx.row m f)) 1).length=12:=by rw [h_,ja,fJ.o]
   have P9:=af J4;have P_:=af (show jo (Kx.bD (Kx.setKind l f kind) (ax (Kx.row m f)) 1) from (Hs.o.setKind hfl).bD fun x hx=>by rw [ja,fJ.o];exact nD hx)
   clear J4;obtain ⟨L6,hL6⟩:=XP (Kx.bD (Kx.setKind l f kind) (ax (Kx.row m f)) 1);rw [hL6] at yI P9 P_ HV;have Tt:=af (dX L6 u6 w6 yI.rs P_.o);obtain ⟨a6,c6,rfl,_,_⟩:=RS.val yI.rs;have O9:=af (yI.mono (show w.heap.size<=W5.heap.size from B8.o.size));clear yI hb6 Tq hz0 hf0 P_;go_wp2_with fail;refine Tt.o.mono ?_;rintro e w7 ⟨rfl,hb7⟩;have VV:=af (O9.o.below hb7);have B10:=af (B9.o.trans (hb7.mono B9.o.size));clear hb7 Tt
   cases hv:bC L6 with
   | true =>
    have hF:Kx.pin m l f kind r=(L6,0):=by rw [HV.o,hv];rfl
    clear hv;go_wp2_with fail;go_ret2;rw [hF];exact ⟨_,rfl,VV.o,B10.o⟩
   | false =>
    have hF:Kx.pin m l f kind r=(l,1):=by rw [HV.o,hv];rfl
    have H3:=af (show RS bH 3 (w7.alloc (.cells #[] 98)) (A0 (some ⟨bi,oi,none⟩) l.length ci) l from (RS.below H.o B10.o).below (dm));have O3:=af (show OS bH 3 98 (w7.alloc (.cells #[] 98)) w7.heap.size (A0 (some ⟨w7.heap.size,0,none⟩) 0 0) [] from OS.d_ aW);have hx3:=af (show ([]:List aG).length+l.length<=1099511627776 by rw [fJ.o];decide);clear hv;go_wp2_with (at_builtin;refine aV qH rfl _ _ rfl w7.heap.size _ [] rfl O3.o _ l rfl H3.o hx3.o (by simp) ?_;intro v' w8 xE J5 VW;clear VW;have Ot:=af (show OS bH 3 98 w8 w7.heap.size v' l from xE);have VX:=af (show (w7.alloc (.cells #[] 98)).grownBy w8 (some w7.heap.size) from J5);clear xE J5);have B11:=af (Below.dN (B10.o.alloc B10.o.size (.cells #[] 98)) O3.o VX.o B10.o.size (by simp;exact A5 B10.o.size));go_ret2;rw [hF]
    exact ⟨_,rfl,Ot.o.mono B10.o.size,B11.o⟩
 have hF:Kx.pin m l f kind r=(l,1):=by rw [HV.o,if_pos (.inl (by assumption))]
 go_wp2_with fail;go_ret2;rw [hF];exact ⟨_,rfl,kH.o.mono B2.o.size,B6.o⟩
theorem vX (m:List (List Int)) (l:List aG) (f:Nat) (vm v:Value) (w:World) (hm:RM w vm m) (hmo:bW m=true) (h:bV w v l) (hs:jo l) (jI:bC l=true) (h12:l.length=12) (hf:f<12) :
  Calls prog 309 #[vm,v,I_ f] w (yH bH 3 98 w (oL m l f).1 [I_ (oL m l f).2]):=by
 have hin:Kx.bK f 0 11=true:=by rw [Kx.ay];omega
 have HV:=af (show oL m l f=(if aX (Kx.inf l f).kind=false\/(Kx.inf l f).refs > 0 then (l,1)
  else if bC (Kx.bD (Kx.setKind l f 1) (ax (Kx.row m f)) (-1)) then (Kx.bD (Kx.setKind l f 1) (ax (Kx.row m f)) (-1),0)
  else (l,2)) by unfold oL;rw [hmo,hin,jI];rfl)
 have HA:=af (AQ m l f vm v w hm h hs);have Ha:=af (show (bW m&&Kx.bK f 0 11&&bC l)=true by rw [hmo,hin,jI];rfl);have Hm:=af hm;have kG:=af hmo;have H:=af h;have Hs:=af hs;have nM:=af jI;have fJ:=af h12;have Hf:=af hf;obtain ⟨_,am,cm,rfl,_,_⟩:=hm.len;obtain ⟨bi,oi,ci,rfl,zN,d0,_,d2⟩:=bV.at h (k:=f) (by omega);have wJ:(f:Int)<(l.length:Int):=by omega
 clear hm h hs hmo jI h12 hf hin;go_enter func309,ntmps309;go_wp2_with fail;refine HA.o.mono ?_;rintro e w2 ⟨rfl,hb⟩;rw [Ha.o];have B2:=af hb;clear hb;have H2:=af (show RS bH 3 (w2.alloc (.cells #[] 98)) (A0 (some ⟨bi,oi,none⟩) l.length ci) l from (RS.below H.o B2.o).below (dm));have O1:=af (show OS bH 3 98 (w2.alloc (.cells #[] 98)) w2.heap.size (A0 (some ⟨w2.heap.size,0,none⟩) 0 0) [] from OS.d_ aW);have hx1:=af (show ([]:List aG).length+l.length<=1099511627776 by rw [fJ.o];decide)
 go_wp2_with (at_builtin;refine aV qH rfl _ _ rfl w2.heap.size _ [] rfl O1.o _ l rfl H2.o hx1.o (by simp) ?_;intro v' w4 iV hg4 hx4;clear hx4;have kH:=af (show OS bH 3 98 w4 w2.heap.size v' l from iV);have rU:=af (show (w2.alloc (.cells #[] 98)).grownBy w4 (some w2.heap.size) from hg4);clear iV hg4;have B4:=af (Below.dN (B2.o.alloc B2.o.size (.cells #[] 98)) O1.o rU.o B2.o.size (by simp;exact A5 B2.o.size));have d0:=(B4.o.cell (p:=⟨bi,oi+f*3,none⟩) zN).trans d0;have d2:=(B4.o.cell (p:=⟨bi,oi+f*3+2,none⟩) zN).trans d2;obtain ⟨g,cap4,rfl,hg1,hg2⟩:=kH.o.shape (by rw [fJ.o];decide);have B6:=af B4.o;clear H2 O1 hx1 rU);have Ou:∀ hh:(aX (Kx.inf l f).kind=false\/(Kx.inf l f).refs > 0),oL m l f=(l,1):=fun hh=>by rw [HV.o,if_pos hh]
 have Ov:=af Ou;clear Ou
 cases ht:aX (Kx.inf l f).kind with
 | false =>
  have hF:=Ov.o (.inl ht);refine (gu _ _).mono ?_;rintro e w5 ⟨rfl,rfl⟩;rw [ht];clear ht;go_wp2_with fail;go_ret2;rw [hF];exact ⟨_,rfl,kH.o.mono B2.o.size,B6.o⟩
 | true =>
  refine (gu _ _).mono ?_;rintro e w5 ⟨rfl,rfl⟩;rw [ht]
  by_cases hrf:(Kx.inf l f).refs > 0
  ·have hF:=Ov.o (.inr hrf);have hrb:decide ((Kx.inf l f).refs > 0)=true:=by simpa using hrf
   clear ht;go_wp2_with fail;go_ret2;rw [hF];exact ⟨_,rfl,kH.o.mono B2.o.size,B6.o⟩
  have HV:=af (show oL m l f=(if bC (Kx.bD (Kx.setKind l f 1) (ax (Kx.row m f)) (-1)) then (Kx.bD (Kx.setKind l f 1) (ax (Kx.row m f)) (-1),0) else (l,2)) by rw [HV.o,if_neg (by rintro (h1 | h1);(rw [ht] at h1;cases h1);exact hrf h1)])
  have hrb:decide ((Kx.inf l f).refs > 0)=false:=by simpa using hrf
  clear ht;have hgw:w.heap.size<=g:=A4 B2.o.size hg1;have hfl:f<l.length:=by rw [fJ.o];exact Hf.o
  obtain ⟨W5,AU⟩:=XP (w4.setCell ⟨g,f*3,none⟩ (I_ 1));have O8:=af (show OS bH 3 98 W5 w2.heap.size (A0 (some ⟨g,0,none⟩) l.length cap4) (Kx.setKind l f 1) from AU ▸ kH.o.setKind rfl f 1 hfl);have B8:=af (show Below w.heap.size w W5 from AU ▸ B6.o.setCell (p:=⟨g,f*3,none⟩) hgw (I_ 1));have Tq:=af (DV m (Kx.setKind l f 1) f (-1) _ _ W5 (Hm.o.below B8.o) kG.o O8.o.rs (by rw [ja,fJ.o]) ((oI.MZ nM.o).setKind hfl) (.inr rfl) Hf.o);obtain ⟨⟨z0,hz0⟩,hf0⟩:=kH.o.bP f hfl 0 (by decide);rw [A9] at hz0 hf0;go_wp2_with fail;go_simp;go_wp2_with fail;refine Tq.o.mono ?_;rintro e w6 ⟨u6,rfl,yI,hb6⟩;have B9:=af (B8.o.trans (hb6.mono B8.o.size));have J4:(Kx.bD (Kx.setKind l f 1) (ax (Kx.row m f)) (-1)).length=12:=by rw [h_,ja,fJ.o]
  have P9:=af J4;have P_:=af (show jo (Kx.bD (Kx.setKind l f 1) (ax (Kx.row m f)) (-1)) from (Hs.o.setKind hfl).bD fun x hx=>by rw [ja,fJ.o];exact nD hx)
  clear J4;obtain ⟨L6,hL6⟩:=XP (Kx.bD (Kx.setKind l f 1) (ax (Kx.row m f)) (-1));rw [hL6] at yI P9 P_ HV;have Tt:=af (dX L6 u6 w6 yI.rs P_.o);obtain ⟨a6,c6,rfl,_,_⟩:=RS.val yI.rs;have O9:=af (yI.mono (show w.heap.size<=W5.heap.size from B8.o.size));clear yI hb6 Tq hz0 hf0 P_;go_wp2_with fail;refine Tt.o.mono ?_;rintro e w7 ⟨rfl,hb7⟩;have VV:=af (O9.o.below hb7);have B10:=af (B9.o.trans (hb7.mono B9.o.size));clear hb7 Tt
  cases hv:bC L6 with
  | true =>
   have hF:oL m l f=(L6,0):=by rw [HV.o,hv];rfl
   clear hv;go_wp2_with fail;go_ret2;rw [hF];exact ⟨_,rfl,VV.o,B10.o⟩
  | false =>
   have hF:oL m l f=(l,2):=by rw [HV.o,hv];rfl
   have H3:=af (show RS bH 3 (w7.alloc (.cells #[] 98)) (A0 (some ⟨bi,oi,none⟩) l.length ci) l from (RS.below H.o B10.o).below (dm));have O3:=af (show OS bH 3 98 (w7.alloc (.cells #[] 98)) w7.heap.size (A0 (some ⟨w7.heap.size,0,none⟩) 0 0) [] from OS.d_ aW);have hx3:=af (show ([]:List aG).length+l.length<=1099511627776 by rw [fJ.o];decide);clear hv;go_wp2_with (at_builtin;refine aV qH rfl _ _ rfl w7.heap.size _ [] rfl O3.o _ l rfl H3.o hx3.o (by simp) ?_;intro v' w8 xE J5 VW;clear VW;have Ot:=af (show OS bH 3 98 w8 w7.heap.size v' l from xE);have VX:=af (show (w7.alloc (.cells #[] 98)).grownBy w8 (some w7.heap.size) from J5);clear xE J5);have B11:=af (Below.dN (B10.o.alloc B10.o.size (.cells #[] 98)) O3.o VX.o B10.o.size (by simp;exact A5 B10.o.size));go_ret2;rw [hF]
   exact ⟨_,rfl,Ot.o.mono B10.o.size,B11.o⟩
end Go.Proofs.YthcmmoibpgcgaaaGreatDoor
