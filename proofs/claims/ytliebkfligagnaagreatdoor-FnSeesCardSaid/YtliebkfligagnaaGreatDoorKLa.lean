/- KL1, KL2, KL3, KL4, KC1, KC2, KC3, joined. -/
import Derived.Test.YtliebkfligagnaaGreatDoorKWb
import Derived.Deep.Fields
set_option maxHeartbeats 4000000
set_option maxRecDepth 100000
set_option linter.all false
namespace Go.Proofs.YtliebkfligagnaaGreatDoor
open Go.RowKit Go.ChangeShapes Go.WideShapes Go.Deep
def RW {α:Type} (f:α→List Value) (sz:Nat) (w:World) (v:Value) (l:List α):Prop:=
 ((l=[]∧∃ a cap,v=.slice a 0 cap∧cap≤maxLen∧(a=none→cap=0)) ∨
  ∃ b off cap,v=.slice (some ⟨b,off,none⟩) l.length cap∧l.length≤cap∧cap≤maxLen∧b<w.heap.size∧∀ k (h:k<l.length) j u,(f l[k])[j]?=some u→w.cell? ⟨b,off+k*sz+j,none⟩=some u)
section
variable {α:Type} {f:α→List Value} {sz:Nat} {w w':World} {v:Value} {l:List α}
theorem RW.rs (h:RW f sz w v l) (hl:l.length≤1099511627776):RS f sz w v l:=⟨hl,h⟩
theorem RW.val (h:RW f sz w v l):∃ a cap,v=.slice a l.length cap∧l.length≤maxLen:=by
 rcases h with ⟨rfl,a,cap,rfl,hc,_⟩ | ⟨b,off,cap,rfl,h1,h2,_⟩
 ·exact ⟨a,cap,rfl,Nat.zero_le _⟩
 exact ⟨_,cap,rfl,Nat.le_trans h1 h2⟩
theorem RW.below (h:RW f sz w v l) (hb:Below w.heap.size w w'):RW f sz w' v l:=by
 rcases h with ⟨rfl,a,cap,rfl,hn⟩ | ⟨b,off,cap,rfl,h1,h2,hlt,hc⟩
 ·exact .inl ⟨rfl,a,cap,rfl,hn⟩
 exact .inr ⟨b,off,cap,rfl,h1,h2,Nat.lt_of_lt_of_le hlt hb.size,fun k hk j u hu=>(hb.cell (p:=⟨b,off+k*sz+j,none⟩) hlt).trans (hc k hk j u hu)⟩
end
section
variable {H:Type} {enc:TypeId×Value→H} {w:World} {base:Nat} {spare:Nat→Bool} {held:Bool}
theorem oQ {α:Type} {f:α→List Value} {sz:Nat} {t e:TypeId} {fuel:Nat} {v:Value} {y:DataW H×List MemPlace} (G:α→Prop) (ht:Tryz.prog.underlying t=some (.slice e)) (hc:Tryz.prog.cellsOf e=sz) (hf:∀ x,(f x).length=sz) (hpos:0<sz)
  (dec:∀ n cs z,DataW.trod enc Tryz.prog w base spare held n e cs=some z→cs.length=sz→∃ x:α,cs=f x∧G x)
  (h:DataW.trod enc Tryz.prog w base spare held fuel t [v]=some y):∃ l:List α,RW f sz w v l∧∀ x ∈ l,G x:=by
 rcases open_slice ht h with ⟨hcs,_⟩ | ⟨a,len,cap,m,n,D,Pl,hcs,_,hl,hm,hmm,_,hi⟩
 ·obtain rfl:v=.slice none 0 0:=by simpa using hcs
  exact ⟨[],.inl ⟨rfl,none,0,rfl,Nat.zero_le _,fun _=>rfl⟩,by simp⟩
 obtain rfl:v=.slice (some a) len cap:=by simpa using hcs
 have hml:len≤m:=by rw [hmm];split <;> omega
 have hex:∀ i:Fin len,∃ x:α,(∀ j u,(f x)[j]?=some u→w.cell? ((a.add (i.val*sz)).add j)=some u)∧G x:=fun i=>by
  obtain ⟨cs',hcs',htr⟩:=hi i.val (by omega);rw [hc] at hcs';obtain ⟨_,hlen,hat⟩:=World.cells?_some hcs';obtain ⟨x,rfl,hg⟩:=dec n cs' _ htr hlen;exact ⟨x,fun j u hu=>by rw [hat j (by have:=(List.getElem?_eq_some_iff.1 hu).1;rw [hf] at this;exact this)];exact hu,hg⟩
 obtain ⟨g,hg⟩:=Classical.axiomOfChoice hex;have hlo:(List.ofFn g).length=len:=List.length_ofFn;refine ⟨List.ofFn g,?_,fun x hx=>?_⟩
 ·by_cases h0:len=0
  ·subst h0;exact .inl ⟨by simp,some a,cap,rfl,hm,fun h=>by cases h⟩
  obtain ⟨b,off,spot⟩:=a;have hc0:∃ u,w.cell? (((⟨b,off,spot⟩:Addr).add (0*sz)).add 0)=some u:=by
   have hp:0<(f (g ⟨0,by omega⟩)).length:=by rw [hf];exact hpos
   exact ⟨_,(hg ⟨0,by omega⟩).1 0 _ (List.getElem?_eq_getElem hp)⟩
  obtain ⟨u,hu⟩:=hc0;have hs:spot=none:=by simpa [Addr.add] using World.cell?_spot hu
  subst hs;rw [Addr.add_lit,Addr.add_lit] at hu;have hb:b<w.heap.size:=World.block_lt_of_cell? w _ hu;refine .inr ⟨b,off,cap,by rw [hlo],by rw [hlo];exact hl,hm,hb,fun k hk j u hu=>?_⟩
  have hk':k<len:=by rw [hlo] at hk;exact hk
  rw [List.getElem_ofFn] at hu;have:=(hg ⟨k,hk'⟩).1 j u hu;rw [Addr.add_lit,Addr.add_lit] at this;exact this
 obtain ⟨i,rfl⟩:=List.mem_ofFn.1 hx;exact (hg i).2
theorem NT {fuel:Nat} {v:Value} {y:DataW H×List MemPlace} (h:DataW.trod enc Tryz.prog w base spare held fuel 47 [v]=some y):∃ xs:List Int,RW iR 1 w v xs:=by
 obtain ⟨l,h1,_⟩:=oQ (f:=iR) (sz:=1) (fun _=>True) Tryz.underlying47 (by kernel_rfl) (fun _=>rfl) (by decide) (fun n cs z hz hl=>by
  obtain ⟨x,rfl,_⟩:=DataW.trod_int Tryz.underlying3 hz;exact ⟨x,rfl,trivial⟩) h
 exact ⟨l,h1⟩
theorem NU {fuel:Nat} {v:Value} {y:DataW H×List MemPlace} (h:DataW.trod enc Tryz.prog w base spare held fuel 62 [v]=some y):∃ l:List Kx.Str,RW df 1 w v l∧∀ s ∈ l,s.size≤9223372036854775807:=
 oQ (f:=df) (sz:=1) (fun s=>s.size≤9223372036854775807) Tryz.underlying62 (by kernel_rfl) (fun _=>rfl) (by decide) (fun n cs z hz hl=>by
  obtain ⟨s,rfl,_,hs⟩:=DataW.trod_string Tryz.underlying9 hz;exact ⟨s,rfl,by unfold maxLen at hs;omega⟩) h
def Pq (w:World) (v:Value) (m:List (List Int)):Prop:=∃ vs:List Value,vs.length=m.length∧RW yL 1 w v vs∧∀ i (h:i<vs.length) (h':i<m.length),RW iR 1 w vs[i] m[i]
theorem pick {α β:Type} (R:α→β→Prop):∀ l:List α,(∀ x ∈ l,∃ y,R x y)→∃ l':List β,l.length=l'.length∧∀ i (h:i<l.length) (h':i<l'.length),R l[i] l'[i]
 | [],_=>⟨[],rfl,fun i h=>by simp at h⟩
 | x :: l,h=>by
  obtain ⟨y,hy⟩:=h x (List.mem_cons_self ..);obtain ⟨l',hl,hr⟩:=pick R l fun z hz=>h z (List.mem_cons_of_mem _ hz)
  refine ⟨y :: l',by simp [hl],fun i hi hi'=>?_⟩
  cases i with
  | zero=>exact hy
  | succ i=>exact hr i (by simpa using hi) (by simpa using hi')
theorem NV {fuel:Nat} {v:Value} {y:DataW H×List MemPlace} (h:DataW.trod enc Tryz.prog w base spare held fuel 22 [v]=some y):∃ m:List (List Int),Pq w v m:=by
 obtain ⟨vs,h1,h2⟩:=oQ (f:=yL) (sz:=1) (fun u=>∃ xs:List Int,RW iR 1 w u xs) Tryz.underlying22 (by kernel_rfl) (fun _=>rfl) (by decide) (fun n cs z hz hl=>by
  match cs,hl with
  | [u],_=>exact ⟨u,rfl,NT hz⟩) h
 obtain ⟨m,hl,hr⟩:=pick _ vs h2;exact ⟨m,vs,hl,h1,hr⟩
theorem len1 {l:List Value} (h:l.length=1):∃ c0,l=[c0]:=by
 match l,h with
 | [c0],_=>exact ⟨c0,rfl⟩
theorem XX {l:List Value} (h:l.length=2):∃ c0 c1,l=[c0,c1]:=by
 match l,h with
 | [c0,c1],_=>exact ⟨c0,c1,rfl⟩
theorem XY {l:List Value} (h:l.length=3):∃ c0 c1 c2,l=[c0,c1,c2]:=by
 match l,h with
 | [c0,c1,c2],_=>exact ⟨c0,c1,c2,rfl⟩
theorem Uu {l:List Value} (h:l.length=4):∃ c0 c1 c2 c3,l=[c0,c1,c2,c3]:=by
 match l,h with
 | [c0,c1,c2,c3],_=>exact ⟨c0,c1,c2,c3,rfl⟩
theorem abo {l:List Value} (h:l.length=9):∃ c0 c1 c2 c3 c4 c5 c6 c7 c8,l=[c0,c1,c2,c3,c4,c5,c6,c7,c8]:=by
 match l,h with
 | [c0,c1,c2,c3,c4,c5,c6,c7,c8],_=>exact ⟨c0,c1,c2,c3,c4,c5,c6,c7,c8,rfl⟩
theorem kF:Tryz.prog.cellsOf 3=1:=by kernel_rfl
theorem zy:Tryz.prog.cellsOf 9=1:=by kernel_rfl
theorem CV:Tryz.prog.cellsOf 4=1:=by kernel_rfl
theorem NW:Tryz.prog.cellsOf 47=1:=by kernel_rfl
theorem CW:Tryz.prog.cellsOf 62=1:=by kernel_rfl
theorem CX:Tryz.prog.cellsOf 22=1:=by kernel_rfl
theorem Af:Tryz.prog.cellsOf 23=1:=by kernel_rfl
theorem CY:Tryz.prog.cellsOf 24=1:=by kernel_rfl
theorem zA:Tryz.prog.cellsOf 25=1:=by kernel_rfl
theorem LM:Tryz.prog.cellsOf 27=4:=by kernel_rfl
theorem lF {cs:List Value} {k n:Nat} (hl:cs.length=n) (hk:k<n):(cs.drop k).take 1=[cs[k]'(by omega)]:=by
 rw [List.drop_eq_getElem_cons (by omega)];rfl
theorem Vj {t:TypeId} {fs:Array Field} {fuel n:Nat} {cs:List Value} {x:DataW H×List MemPlace} (hs:Tryz.prog.underlying t=some (.struct fs)) (hn:Tryz.prog.cellsOf t=n) (h:DataW.trod enc Tryz.prog w base spare held fuel t cs=some x) :
  cs.length=n∧∃ m,∀ (i:Nat) (f:Field),fs[i]?=some f→∃ z,DataW.trod enc Tryz.prog w base spare held m f.type ((cs.drop f.offset).take (Tryz.prog.cellsOf f.type))=some z:=by
 obtain ⟨xs,m,_,_,hl,hx,hf⟩:=DataW.trod_struct hs h;refine ⟨by rw [←hn];exact hl,m,fun i f hi=>?_⟩
 have hi':i<fs.size:=(Array.getElem?_eq_some_iff.1 hi).1;exact ⟨_,(hf i f hi).trans (List.getElem?_eq_getElem (by omega))⟩
theorem LQ {fuel:Nat} {v:Value} {y:DataW H×List MemPlace} (h:DataW.trod enc Tryz.prog w base spare held fuel 23 [v]=some y):∃ l:List Kx.aG,RW bH 3 w v l∧∀ x ∈ l,x.guard.size≤9223372036854775807:=
 oQ (f:=bH) (sz:=3) (fun x=>x.guard.size≤9223372036854775807) Tryz.underlying23 (by kernel_rfl) (fun _=>rfl) (by decide) (fun n cs z hz hl=>by
  obtain ⟨_,m,hf⟩:=Vj Tryz.underlying114 (n:=3) (by kernel_rfl) hz;obtain ⟨_,h0⟩:=hf 0 _ rfl;obtain ⟨_,h1⟩:=hf 1 _ rfl;obtain ⟨_,h2⟩:=hf 2 _ rfl;have g0:DataW.trod enc Tryz.prog w base spare held m 3 ((cs.drop 0).take (Tryz.prog.cellsOf 3))=some _:=h0;rw [kF] at g0;have g1:DataW.trod enc Tryz.prog w base spare held m 9 ((cs.drop 1).take (Tryz.prog.cellsOf 9))=some _:=h1;rw [zy] at g1;have g2:DataW.trod enc Tryz.prog w base spare held m 3 ((cs.drop 2).take (Tryz.prog.cellsOf 3))=some _:=h2;rw [kF] at g2;rw [lF (k:=0) hl (by decide)] at g0;rw [lF (k:=1) hl (by decide)] at g1;rw [lF (k:=2) hl (by decide)] at g2;obtain ⟨a,ha,_⟩:=DataW.trod_int Tryz.underlying3 g0;obtain ⟨b,hb,_,hbs⟩:=DataW.trod_string Tryz.underlying9 g1;obtain ⟨c,hc,_⟩:=DataW.trod_int Tryz.underlying3 g2;clear hf;obtain ⟨c0,c1,c2,rfl⟩:=XY hl;simp at ha hb hc;subst ha hb hc
  exact ⟨⟨a,b,c⟩,rfl,by unfold maxLen at hbs;show b.size≤_;omega⟩) h
theorem Ja {fuel:Nat} {v:Value} {y:DataW H×List MemPlace} (h:DataW.trod enc Tryz.prog w base spare held fuel 25 [v]=some y):∃ l:List Kx.Cached,RW b_ 4 w v l:=by
 obtain ⟨l,h1,_⟩:=oQ (f:=b_) (sz:=4) (fun _=>True) Tryz.underlying25 (by kernel_rfl) (fun _=>rfl) (by decide) (fun n cs z hz hl=>by
  obtain ⟨_,m,hf⟩:=Vj Tryz.underlying122 (n:=4) (by kernel_rfl) hz;obtain ⟨_,h0⟩:=hf 0 _ rfl;obtain ⟨_,h1⟩:=hf 1 _ rfl;obtain ⟨_,h2⟩:=hf 2 _ rfl;obtain ⟨_,h3⟩:=hf 3 _ rfl;have g0:DataW.trod enc Tryz.prog w base spare held m 3 ((cs.drop 0).take (Tryz.prog.cellsOf 3))=some _:=h0;rw [kF] at g0;have g1:DataW.trod enc Tryz.prog w base spare held m 3 ((cs.drop 1).take (Tryz.prog.cellsOf 3))=some _:=h1;rw [kF] at g1;have g2:DataW.trod enc Tryz.prog w base spare held m 3 ((cs.drop 2).take (Tryz.prog.cellsOf 3))=some _:=h2;rw [kF] at g2;have g3:DataW.trod enc Tryz.prog w base spare held m 4 ((cs.drop 3).take (Tryz.prog.cellsOf 4))=some _:=h3;rw [CV] at g3;rw [lF (k:=0) hl (by decide)] at g0;rw [lF (k:=1) hl (by decide)] at g1;rw [lF (k:=2) hl (by decide)] at g2;rw [lF (k:=3) hl (by decide)] at g3
  obtain ⟨a,ha,_⟩:=DataW.trod_int Tryz.underlying3 g0;obtain ⟨b,hb,_⟩:=DataW.trod_int Tryz.underlying3 g1;obtain ⟨c,hc,_⟩:=DataW.trod_int Tryz.underlying3 g2;obtain ⟨d,hd,_⟩:=DataW.trod_bool Tryz.underlying4 g3;clear hf;obtain ⟨c0,c1,c2,c3,rfl⟩:=Uu hl;simp at ha hb hc hd;subst ha hb hc hd;exact ⟨⟨a,b,c,d⟩,rfl,trivial⟩) h
 exact ⟨l,h1⟩
def Pv (w:World) (v:Value) (es:List Kx.Env):Prop:=∃ ps:List (Value×Int),ps.length=es.length∧RW QD 2 w v ps∧∀ i (h:i<ps.length) (h':i<es.length),ps[i].2=es[i].root∧RW df 1 w ps[i].1 es[i].aB
theorem NY {fuel:Nat} {v:Value} {y:DataW H×List MemPlace} (h:DataW.trod enc Tryz.prog w base spare held fuel 24 [v]=some y):∃ l:List Kx.Env,Pv w v l∧∀ x ∈ l,∀ s ∈ x.aB,s.size≤9223372036854775807:=by
 obtain ⟨ps,h1,h2⟩:=oQ (f:=QD) (sz:=2) (fun p:Value×Int=>∃ e:Kx.Env,(p.2=e.root∧RW df 1 w p.1 e.aB)∧∀ s ∈ e.aB,s.size≤9223372036854775807) Tryz.underlying24 (by kernel_rfl) (fun _=>rfl) (by decide) (fun n cs z hz hl=>by
  obtain ⟨_,m,hf⟩:=Vj Tryz.underlying116 (n:=2) (by kernel_rfl) hz;obtain ⟨_,h0⟩:=hf 0 _ rfl;obtain ⟨_,h1⟩:=hf 1 _ rfl;have g1:DataW.trod enc Tryz.prog w base spare held m 3 ((cs.drop 1).take (Tryz.prog.cellsOf 3))=some _:=h1;rw [kF] at g1;have h0':DataW.trod enc Tryz.prog w base spare held m 62 ((cs.drop 0).take (Tryz.prog.cellsOf 62))=some _:=h0;rw [CW] at h0';rw [lF (k:=1) hl (by decide)] at g1;rw [lF (k:=0) hl (by decide)] at h0';obtain ⟨b,hb,_⟩:=DataW.trod_int Tryz.underlying3 g1;obtain ⟨l,r1,r2⟩:=NU h0';clear hf;obtain ⟨c0,c1,rfl⟩:=XX hl;simp at hb;subst hb;exact ⟨(c0,b),rfl,⟨⟨l,b⟩,⟨rfl,r1⟩,r2⟩⟩) h
 obtain ⟨m,hl,hr⟩:=pick _ ps h2;refine ⟨m,⟨ps,hl,h1,fun i h h'=>(hr i h h').1⟩,fun x hx s hs=>?_⟩
 obtain ⟨i,hi,rfl⟩:=List.getElem_of_mem hx;exact (hr i (by omega) hi).2 s hs
structure Uw (w:World) (vm vi ve vc:Value) (k:Kx.Kernel):Prop where
 m:Pq w vm k.mem
 i:RW bH 3 w vi k.ag
 e:Pv w ve k.ah
 c:RW b_ 4 w vc k.cache
def CZ (k:Kx.Kernel):Prop:=(∀ x ∈ k.ag,x.guard.size≤9223372036854775807)∧∀ x ∈ k.ah,∀ s ∈ x.aB,s.size≤9223372036854775807
theorem CZ.PI {k:Kx.Kernel} (h:CZ k):iQ k:=by
 refine ⟨h.1,fun e he s hs=>?_⟩
 have e1:Kx.au k.ah e=k.ah[e]:=by simp [Kx.au,he]
 rw [e1] at hs;exact h.2 _ (List.getElem_mem he) s hs
theorem Rq {fuel:Nat} {cs:List Value} {y:DataW H×List MemPlace} (h:DataW.trod enc Tryz.prog w base spare held fuel 27 cs=some y):∃ vm vi ve vc k,cs=[vm,vi,ve,vc]∧Uw w vm vi ve vc k∧CZ k:=by
 obtain ⟨hl,m,hf⟩:=Vj Tryz.underlying27 (n:=4) (by kernel_rfl) h;obtain ⟨_,h0⟩:=hf 0 _ rfl;obtain ⟨_,h1⟩:=hf 1 _ rfl;obtain ⟨_,h2⟩:=hf 2 _ rfl;obtain ⟨_,h3⟩:=hf 3 _ rfl;have h0':DataW.trod enc Tryz.prog w base spare held m 22 ((cs.drop 0).take (Tryz.prog.cellsOf 22))=some _:=h0;rw [CX] at h0';have h1':DataW.trod enc Tryz.prog w base spare held m 23 ((cs.drop 1).take (Tryz.prog.cellsOf 23))=some _:=h1;rw [Af] at h1';have h2':DataW.trod enc Tryz.prog w base spare held m 24 ((cs.drop 2).take (Tryz.prog.cellsOf 24))=some _:=h2;rw [CY] at h2';have h3':DataW.trod enc Tryz.prog w base spare held m 25 ((cs.drop 3).take (Tryz.prog.cellsOf 25))=some _:=h3;rw [zA] at h3';rw [lF (k:=0) hl (by decide)] at h0';rw [lF (k:=1) hl (by decide)] at h1';rw [lF (k:=2) hl (by decide)] at h2';rw [lF (k:=3) hl (by decide)] at h3'
 obtain ⟨a,ra⟩:=NV h0';obtain ⟨b,rb,sb⟩:=LQ h1';obtain ⟨c,rc,sc⟩:=NY h2';obtain ⟨d,rd⟩:=Ja h3';clear hf;obtain ⟨c0,c1,c2,c3,rfl⟩:=Uu hl;exact ⟨c0,c1,c2,c3,⟨a,b,c,d⟩,rfl,⟨ra,rb,rc,rd⟩,sb,sc⟩
end
theorem Pq.len {w:World} {v:Value} {m:List (List Int)} (h:Pq w v m):∃ a cap,v=.slice a m.length cap∧m.length≤maxLen:=by
 obtain ⟨vs,hl,hs,_⟩:=h;rw [←hl];exact hs.val
theorem Pv.len {w:World} {v:Value} {m:List Kx.Env} (h:Pv w v m):∃ a cap,v=.slice a m.length cap∧m.length≤maxLen:=by
 obtain ⟨vs,hl,hs,_⟩:=h;rw [←hl];exact hs.val
def sumT {α:Type} (g:α→Nat) (l:List α) (k:Nat):Nat:=((l.take k).map g).sum
theorem rG {α:Type} (g:α→Nat) (l:List α):sumT g l 0=0:=by simp [sumT]
theorem rJ {α:Type} (g:α→Nat) (l:List α) (k:Nat) (h:k<l.length):sumT g l (k+1)=sumT g l k+g l[k]:=by
 unfold sumT;rw [List.take_succ_eq_append_getElem h,List.map_append,List.sum_append];simp only [List.map_cons,List.map_nil,List.sum_cons,List.sum_nil,Nat.add_zero]
theorem uU {α:Type} (g:α→Nat) (l:List α):sumT g l l.length=(l.map g).sum:=by unfold sumT;rw [List.take_length]
theorem xY {α:Type} (g:α→Nat) (l:List α) (k:Nat):sumT g l k≤(l.map g).sum:=by
 unfold sumT;conv=>rhs;rw [←List.take_append_drop k l]
 rw [List.map_append,List.sum_append];omega
def Df (lf tot:Nat):Int:=if lf<tot then -1 else ((lf - tot:Nat):Int)
theorem gQ {lf tot:Nat} (h:lf<tot):Df lf tot=-1:=by unfold Df;rw [if_pos h]
theorem iJ {lf tot:Nat} (h:tot≤lf):Df lf tot=((lf - tot:Nat):Int):=by unfold Df;rw [if_neg (by omega)]
def r_ (m:List (List Int)):Nat:=m.length+(m.map List.length).sum
def lW (l:List Kx.Str):Nat:=l.length+(l.map fun s=>s.size).sum
def pR (l:List Kx.aG):Nat:=l.length+(l.map fun x=>x.guard.size).sum
def uV (l:List Kx.Env):Nat:=l.length+(l.map fun x=>lW x.aB).sum
def nK (k:Kx.Kernel):Nat:=r_ k.mem+pR k.ag+uV k.ah+k.cache.length
def XZ (p:Kx.aH):Nat:=nK p.k+r_ p.swap+p.low.length+p.pages.length
def Sz (lf tot:Nat) (w:World) (e:Ending) (w':World):Prop:=e=.returned (.int .i64 (Df lf tot))∧Below w.heap.size w w'
theorem lG {n:Nat} (h:n≤maxLen):(n:Int)≤9223372036854775807:=by unfold maxLen at h;omega
theorem EH (l:List Int) (lf:Nat) (v:Value) (w:World) (h:RW iR 1 w v l) (hl:lf≤1048576):Calls Tryz.prog 96 #[v,.int .i64 lf] w (Sz lf l.length w):=by
 obtain ⟨a,cap,rfl,hm⟩:=h.val;have Rt:=lG hm;clear h hm
 by_cases hlt:lf<l.length
 ·have HR:=af (gQ hlt);have hI:(lf:Int)<(l.length:Int):=by omega
  go_enter Tryz.func96,Tryz.ntmps96;go_wp2_with fail;go_ret;exact ⟨aZ HR.out.symm,Below.refl _ _⟩
 have HR:=af (iJ (Nat.not_lt.1 hlt));have hI:¬ (lf:Int)<(l.length:Int):=by omega
 go_enter Tryz.func96,Tryz.ntmps96;go_wp2_with fail;go_ret;exact ⟨aZ (by rw [HR.out];omega),Below.refl _ _⟩
theorem EI (l:List Kx.Cached) (lf:Nat) (v:Value) (w:World) (h:RW b_ 4 w v l) (hl:lf≤1048576):Calls Tryz.prog 40 #[v,.int .i64 lf] w (Sz lf l.length w):=by
 obtain ⟨a,cap,rfl,hm⟩:=h.val;have Rt:=lG hm;clear h hm
 by_cases hlt:lf<l.length
 ·have HR:=af (gQ hlt);have hI:(lf:Int)<(l.length:Int):=by omega
  go_enter Tryz.func40,Tryz.ntmps40;go_wp2_with fail;go_ret;exact ⟨aZ HR.out.symm,Below.refl _ _⟩
 have HR:=af (iJ (Nat.not_lt.1 hlt));have hI:¬ (lf:Int)<(l.length:Int):=by omega
 go_enter Tryz.func40,Tryz.ntmps40;go_wp2_with fail;go_ret;exact ⟨aZ (by rw [HR.out];omega),Below.refl _ _⟩
theorem EJ (x:Kx.aG) (lf:Nat) (w:World) (hs:x.guard.size≤9223372036854775807) (hl:lf≤1048576):Calls Tryz.prog 97 #[kN x,.int .i64 lf] w (Sz lf x.guard.size w):=by
 have hb:=af (show Below w.heap.size w (w.alloc (.cells #[.int .i64 x.kind,.string x.guard,.int .i64 x.refs] 114)) from fZ.alloc aW _);have Rt:(x.guard.size:Int)≤9223372036854775807:=by omega
 clear hs;unfold kN
 by_cases hlt:lf<x.guard.size
 ·have HR:=af (gQ hlt);have hI:(lf:Int)<(x.guard.size:Int):=by omega
  go_enter Tryz.func97,Tryz.ntmps97;go_wp2_with fail;go_ret;exact ⟨aZ HR.out.symm,hb.out⟩
 have HR:=af (iJ (Nat.not_lt.1 hlt));have hI:¬ (lf:Int)<(x.guard.size:Int):=by omega
 go_enter Tryz.func97,Tryz.ntmps97;go_wp2_with fail;go_ret;exact ⟨aZ (by rw [HR.out];omega),hb.out⟩
theorem Jb (l:List (List Int)) (lf:Nat) (v:Value) (w:World) (h:Pq w v l) (hl:lf≤1048576):Calls Tryz.prog 37 #[v,.int .i64 lf] w (Sz lf (r_ l) w):=by
 obtain ⟨vs,hvl,h1,h2⟩:=h;obtain ⟨a,cap,rfl,hm⟩:=h1.val;rw [hvl] at hm ⊢;have Rt:=lG hm;have HT:=af (show r_ l=l.length+(l.map List.length).sum from rfl)
 by_cases hlt:lf<l.length
 ·have HR:=af (gQ (show lf<r_ l by rw [HT.out];omega));have hI:(lf:Int)<(l.length:Int):=by omega
  clear hm;go_enter Tryz.func37,Tryz.ntmps37;go_wp2_with fail;go_ret;exact ⟨aZ HR.out.symm,Below.refl _ _⟩
 obtain ⟨c0,hc0⟩:=Nat.exists_eq_add_of_le (Nat.not_lt.1 hlt);have hI:¬ (lf:Int)<(l.length:Int):=by omega
 have hsub:(lf:Int) - (l.length:Int)=(c0:Int):=by omega
 have hln:l.length≤1048576:=by omega
 have QP:=af hc0;have zB:c0≤1048576:=by omega
 have H1:=af (h1.rs (by omega));have H2:=af h2;have NZ:=af hvl;clear h1 h2 hvl;clear hm hc0 hlt;go_enter Tryz.func37,Tryz.ntmps37;go_wp2_with fail;clear hsub hI;go_loopw [1,5] (fun L i wr=>∃ k c:Nat,i=.int .i64 k∧k≤l.length∧L=.int .i64 c∧c≤1048576∧Hid (lf=l.length+sumT List.length l k+c)∧Hid (Below w.heap.size w wr)) (fun _ i _=>l.length - (intOf i).toNat)
 case atStart=>exact ⟨0,c0,rfl,Nat.zero_le _,rfl,zB,(by show lf=_;rw [rG];exact QP.out),Below.refl _ _⟩
 case round =>
  clear zB;obtain ⟨k,c,rfl,hk,rfl,hc,hsum,hb⟩:=hrel
  by_cases hlt:k<l.length
  ·have kQ:(k:Int)<(l.length:Int):=by omega
   obtain ⟨b,off,cap1,e,_,hcell⟩:=(RS.below H1.out hb.out).at (k:=k) (by rw [NZ.out];exact hlt);have hcell:=hcell 0 _ rfl;have hrow:=(H2.out k (by rw [NZ.out];exact hlt) hlt).below hb.out;rw [NZ.out] at e;simp only [Value.slice.injEq] at e;obtain ⟨rfl,_,rfl⟩:=e;rw [Nat.mul_one,Nat.add_zero] at hcell;generalize vs[k]'(by rw [NZ.out];exact hlt)=u at hcell hrow;have vW:=af hrow;clear hrow;have jU:=af (rJ List.length l k hlt);have MN:=af (xY List.length l (k+1));have LU:=af (show List.length l[k]=l[k].length from rfl)
   by_cases hx:c<l[k].length
   ·have HR:=af (gQ (show lf<r_ l by have:=hsum.out;have:=jU.out;have:=MN.out;have:=LU.out;rw [HT.out];omega));have Hx:=af (gQ hx);clear hx;go_wp2_with fail;refine (EH l[k] c u _ vW.out hc).mono ?_;rintro e w2 ⟨rfl,hb2⟩;have B2:=af (hb.out.trans (hb2.mono hb.out.size));clear hb2;rw [Hx.out];go_wp2_with fail;go_ret;exact ⟨aZ HR.out.symm,B2.out⟩
   obtain ⟨c2,hc2⟩:=Nat.exists_eq_add_of_le (Nat.not_lt.1 hx);have Hx:=af (show Df c (l[k].length)=(c2:Int) by rw [iJ (by omega)];omega);have Gl:=af (show lf=l.length+sumT List.length l (k+1)+c2 by have:=hsum.out;have:=jU.out;have:=LU.out;omega);have Gm:c2≤1048576:=by omega
   clear hx hc2;go_wp2_with fail;refine (EH l[k] c u _ vW.out hc).mono ?_;rintro e w2 ⟨rfl,hb2⟩;have B2:=af (hb.out.trans (hb2.mono hb.out.size));clear hb2;rw [Hx.out];go_wp2_with fail;go_roundw
   case rel=>exact ⟨k+1,c2,by go_num,by omega,rfl,Gm,Gl.out,B2.out⟩
   case measure=>simp [intOf];omega
  have hkn:k=l.length:=by omega
  have HR:=af (show Df lf (r_ l)=(c:Int) by
   have h1:=hsum.out;rw [hkn,uU] at h1;rw [HT.out,iJ (by omega)];omega)
  clear hkn;go_wp2_with fail;go_ret;exact ⟨aZ HR.out.symm,hb.out⟩
theorem Jc (l:List Kx.aG) (lf:Nat) (v:Value) (w:World) (h:RW bH 3 w v l) (hs:∀ x ∈ l,x.guard.size≤9223372036854775807) (hl:lf≤1048576):Calls Tryz.prog 38 #[v,.int .i64 lf] w (Sz lf (pR l) w):=by
 obtain ⟨a,cap,rfl,hm⟩:=h.val;have Rt:=lG hm;have HT:=af (show pR l=l.length+(l.map (fun x=>x.guard.size)).sum from rfl)
 by_cases hlt:lf<l.length
 ·have HR:=af (gQ (show lf<pR l by rw [HT.out];omega));have hI:(lf:Int)<(l.length:Int):=by omega
  clear hm;go_enter Tryz.func38,Tryz.ntmps38;go_wp2_with fail;go_ret;exact ⟨aZ HR.out.symm,Below.refl _ _⟩
 obtain ⟨c0,hc0⟩:=Nat.exists_eq_add_of_le (Nat.not_lt.1 hlt);have hI:¬ (lf:Int)<(l.length:Int):=by omega
 have hsub:(lf:Int) - (l.length:Int)=(c0:Int):=by omega
 have hln:l.length≤1048576:=by omega
 have QP:=af hc0;have zB:c0≤1048576:=by omega
 have H1:=af (show bV w _ l from h.rs (by omega));have Hs:=af hs;clear h hs;clear hm hc0 hlt;go_enter Tryz.func38,Tryz.ntmps38;go_wp2_with fail;clear hsub hI;go_loopw [1,5] (fun L i wr=>∃ k c:Nat,i=.int .i64 k∧k≤l.length∧L=.int .i64 c∧c≤1048576∧Hid (lf=l.length+sumT (fun x=>x.guard.size) l k+c)∧Hid (Below w.heap.size w wr)) (fun _ i _=>l.length - (intOf i).toNat)
 case atStart=>exact ⟨0,c0,rfl,Nat.zero_le _,rfl,zB,(by show lf=_;rw [rG];exact QP.out),Below.refl _ _⟩
 case round =>
  clear zB;obtain ⟨k,c,rfl,hk,rfl,hc,hsum,hb⟩:=hrel
  by_cases hlt:k<l.length
  ·have kQ:(k:Int)<(l.length:Int):=by omega
   obtain ⟨b,off,cap1,e,_,g0,g1,g2⟩:=bV.at (RS.below H1.out hb.out) hlt;rw [show Kx.inf l k=l[k] from by simp [Kx.inf,hlt]] at g0 g1 g2;have uf:=af (Hs.out _ (List.getElem_mem hlt));simp only [Value.slice.injEq] at e;obtain ⟨rfl,_,rfl⟩:=e;have jU:=af (rJ (fun x=>x.guard.size) l k hlt);have MN:=af (xY (fun x=>x.guard.size) l (k+1));have LU:=af (show (fun x=>x.guard.size) l[k]=l[k].guard.size from rfl)
   by_cases hx:c<l[k].guard.size
   ·have HR:=af (gQ (show lf<pR l by have:=hsum.out;have:=jU.out;have:=MN.out;have:=LU.out;rw [HT.out];omega));have Hx:=af (gQ hx);have HC:=af (fun W=>EJ l[k] c W uf.out hc);unfold kN at HC;clear hx;go_wp2_with fail;refine (HC.out _).mono ?_;rintro e w2 ⟨rfl,hb2⟩;have B2:=af (hb.out.trans (hb2.mono hb.out.size));clear hb2;rw [Hx.out];go_wp2_with fail;go_ret;exact ⟨aZ HR.out.symm,B2.out⟩
   obtain ⟨c2,hc2⟩:=Nat.exists_eq_add_of_le (Nat.not_lt.1 hx);have Hx:=af (show Df c (l[k].guard.size)=(c2:Int) by rw [iJ (by omega)];omega);have Gl:=af (show lf=l.length+sumT (fun x=>x.guard.size) l (k+1)+c2 by have:=hsum.out;have:=jU.out;have:=LU.out;omega);have Gm:c2≤1048576:=by omega
   have HC:=af (fun W=>EJ l[k] c W uf.out hc);unfold kN at HC;clear hx hc2;go_wp2_with fail;refine (HC.out _).mono ?_;rintro e w2 ⟨rfl,hb2⟩;have B2:=af (hb.out.trans (hb2.mono hb.out.size));clear hb2;rw [Hx.out];go_wp2_with fail;go_roundw
   case rel=>exact ⟨k+1,c2,by go_num,by omega,rfl,Gm,Gl.out,B2.out⟩
   case measure=>simp [intOf];omega
  have hkn:k=l.length:=by omega
  have HR:=af (show Df lf (pR l)=(c:Int) by
   have h1:=hsum.out;rw [hkn,uU] at h1;rw [HT.out,iJ (by omega)];omega)
  clear hkn;go_wp2_with fail;go_ret;exact ⟨aZ HR.out.symm,hb.out⟩
theorem EK (l:List Kx.Str) (lf:Nat) (v:Value) (w:World) (h:RW df 1 w v l) (hs:∀ s ∈ l,s.size≤9223372036854775807) (hl:lf≤1048576):Calls Tryz.prog 159 #[v,.int .i64 lf] w (Sz lf (lW l) w):=by
 obtain ⟨a,cap,rfl,hm⟩:=h.val;have Rt:=lG hm;have HT:=af (show lW l=l.length+(l.map (fun s=>s.size)).sum from rfl)
 by_cases hlt:lf<l.length
 ·have HR:=af (gQ (show lf<lW l by rw [HT.out];omega));have hI:(lf:Int)<(l.length:Int):=by omega
  clear hm;go_enter Tryz.func159,Tryz.ntmps159;go_wp2_with fail;go_ret;exact ⟨aZ HR.out.symm,Below.refl _ _⟩
 obtain ⟨c0,hc0⟩:=Nat.exists_eq_add_of_le (Nat.not_lt.1 hlt);have hI:¬ (lf:Int)<(l.length:Int):=by omega
 have hsub:(lf:Int) - (l.length:Int)=(c0:Int):=by omega
 have hln:l.length≤1048576:=by omega
 have QP:=af hc0;have zB:c0≤1048576:=by omega
 have H1:=af (show dK w _ l from h.rs (by omega));have Hs:=af hs;clear h hs;clear hm hc0 hlt;go_enter Tryz.func159,Tryz.ntmps159;go_wp2_with fail;clear hsub hI;go_loopw [1,5] (fun L i wr=>∃ k c:Nat,i=.int .i64 k∧k≤l.length∧L=.int .i64 c∧c≤1048576∧Hid (lf=l.length+sumT (fun s=>s.size) l k+c)∧Hid (Below w.heap.size w wr)) (fun _ i _=>l.length - (intOf i).toNat)
 case atStart=>exact ⟨0,c0,rfl,Nat.zero_le _,rfl,zB,(by show lf=_;rw [rG];exact QP.out),Below.refl _ _⟩
 case round =>
  clear zB;obtain ⟨k,c,rfl,hk,rfl,hc,hsum,hb⟩:=hrel
  by_cases hlt:k<l.length
  ·have kQ:(k:Int)<(l.length:Int):=by omega
   obtain ⟨b,off,cap1,e,_,g0⟩:=dK.at (RS.below H1.out hb.out) hlt;have hszI:(l[k].size:Int)≤9223372036854775807:=by have:=Hs.out _ (List.getElem_mem hlt);omega
   simp only [Value.slice.injEq] at e;obtain ⟨rfl,_,rfl⟩:=e;have jU:=af (rJ (fun s=>s.size) l k hlt);have MN:=af (xY (fun s=>s.size) l (k+1));have LU:=af (show (fun s=>s.size) l[k]=l[k].size from rfl)
   by_cases hx:c<l[k].size
   ·have HR:=af (gQ (show lf<lW l by have:=hsum.out;have:=jU.out;have:=MN.out;have:=LU.out;rw [HT.out];omega));have Hx:=af (gQ hx);have Oa:(c:Int)<(l[k].size:Int):=by omega
    clear hx;go_wp2_with fail;have B2:=af hb.out;go_wp2_with fail;go_ret;exact ⟨aZ HR.out.symm,B2.out⟩
   obtain ⟨c2,hc2⟩:=Nat.exists_eq_add_of_le (Nat.not_lt.1 hx);have Hx:=af (show Df c (l[k].size)=(c2:Int) by rw [iJ (by omega)];omega);have Gl:=af (show lf=l.length+sumT (fun s=>s.size) l (k+1)+c2 by have:=hsum.out;have:=jU.out;have:=LU.out;omega);have Gm:c2≤1048576:=by omega
   have Oa:¬ (c:Int)<(l[k].size:Int):=by omega
   have hsub2:(c:Int) - (l[k].size:Int)=(c2:Int):=by omega
   clear hx hc2;go_wp2_with fail;have B2:=af hb.out;go_wp2_with fail;go_roundw
   case rel=>exact ⟨k+1,c2,by go_num,by omega,rfl,Gm,Gl.out,B2.out⟩
   case measure=>simp [intOf];omega
  have hkn:k=l.length:=by omega
  have HR:=af (show Df lf (lW l)=(c:Int) by
   have h1:=hsum.out;rw [hkn,uU] at h1;rw [HT.out,iJ (by omega)];omega)
  clear hkn;go_wp2_with fail;go_ret;exact ⟨aZ HR.out.symm,hb.out⟩
theorem N7 (l:List Kx.Str) (u:Value) (r:Int) (lf:Nat) (w:World) (h:RW df 1 w u l) (hs:∀ s ∈ l,s.size≤9223372036854775807) (hl:lf≤1048576):Calls Tryz.prog 98 #[.agg #[u,.int .i64 r],.int .i64 lf] w (Sz lf (lW l) w):=by
 obtain ⟨w0,hw0⟩:∃ w0,w.alloc (.cells #[u,.int .i64 r] 116)=w0:=⟨_,rfl⟩;have B0:=af (show Below w.heap.size w w0 from hw0 ▸ dm);obtain ⟨c0,c1,_⟩:=(show w0.cell? ⟨w.heap.size,0,none⟩=some u∧w0.cell? ⟨w.heap.size,1,none⟩=some (.int .i64 r)∧w.heap.size<w0.heap.size from hw0 ▸ Pz.new w u (.int .i64 r) 116);have HC:=af (EK l lf u w0 (h.below B0.out) hs hl);obtain ⟨a,cap,rfl,_⟩:=h.val;clear h hs;generalize lW l=tot at HC ⊢
 by_cases hlt:lf<tot
 ·have HR:=af (gQ hlt);unfold Sz at HC;rw [HR.out] at HC;go_enter Tryz.func98,Tryz.ntmps98;go_wp2_with fail;refine HC.out.mono ?_;rintro e w2 ⟨rfl,hb2⟩;have B2:=af (B0.out.trans (hb2.mono B0.out.size));clear hb2;go_wp2_with fail;go_ret;exact ⟨aZ HR.out.symm,B2.out⟩
 have HR:=af (iJ (Nat.not_lt.1 hlt));unfold Sz at HC;rw [HR.out] at HC;go_enter Tryz.func98,Tryz.ntmps98;go_wp2_with fail;refine HC.out.mono ?_;rintro e w2 ⟨rfl,hb2⟩;have B2:=af (B0.out.trans (hb2.mono B0.out.size));clear hb2;go_wp2_with fail;go_ret;exact ⟨aZ HR.out.symm,B2.out⟩
theorem LV (l:List Kx.Env) (lf:Nat) (v:Value) (w:World) (h:Pv w v l) (hs:∀ x ∈ l,∀ s ∈ x.aB,s.size≤9223372036854775807) (hl:lf≤1048576):Calls Tryz.prog 39 #[v,.int .i64 lf] w (Sz lf (uV l) w):=by
 obtain ⟨ps,hvl,h1,h2⟩:=h;obtain ⟨a,cap,rfl,hm⟩:=h1.val;rw [hvl] at hm ⊢;have Rt:=lG hm;have HT:=af (show uV l=l.length+(l.map (fun x=>lW x.aB)).sum from rfl)
 by_cases hlt:lf<l.length
 ·have HR:=af (gQ (show lf<uV l by rw [HT.out];omega));have hI:(lf:Int)<(l.length:Int):=by omega
  clear hm;go_enter Tryz.func39,Tryz.ntmps39;go_wp2_with fail;go_ret;exact ⟨aZ HR.out.symm,Below.refl _ _⟩
 obtain ⟨c0,hc0⟩:=Nat.exists_eq_add_of_le (Nat.not_lt.1 hlt);have hI:¬ (lf:Int)<(l.length:Int):=by omega
 have hsub:(lf:Int) - (l.length:Int)=(c0:Int):=by omega
 have hln:l.length≤1048576:=by omega
 have QP:=af hc0;have zB:c0≤1048576:=by omega
 have H1:=af (h1.rs (by omega));have H2:=af h2;have NZ:=af hvl;have Hs:=af hs;clear h1 h2 hvl hs;clear hm hc0 hlt;go_enter Tryz.func39,Tryz.ntmps39;go_wp2_with fail;clear hsub hI;go_loopw [1,5] (fun L i wr=>∃ k c:Nat,i=.int .i64 k∧k≤l.length∧L=.int .i64 c∧c≤1048576∧Hid (lf=l.length+sumT (fun x=>lW x.aB) l k+c)∧Hid (Below w.heap.size w wr)) (fun _ i _=>l.length - (intOf i).toNat)
 case atStart=>exact ⟨0,c0,rfl,Nat.zero_le _,rfl,zB,(by show lf=_;rw [rG];exact QP.out),Below.refl _ _⟩
 case round =>
  clear zB;obtain ⟨k,c,rfl,hk,rfl,hc,hsum,hb⟩:=hrel
  by_cases hlt:k<l.length
  ·have kQ:(k:Int)<(l.length:Int):=by omega
   obtain ⟨b,off,cap1,e,_,hcell⟩:=(RS.below H1.out hb.out).at (k:=k) (by rw [NZ.out];exact hlt);have g0:=hcell 0 _ rfl;have g1:=hcell 1 _ rfl;have hrow:=(H2.out k (by rw [NZ.out];exact hlt) hlt).2.below hb.out;rw [NZ.out] at e;simp only [Value.slice.injEq] at e;obtain ⟨rfl,_,rfl⟩:=e;rw [Nat.add_zero] at g0;generalize (ps[k]'(by rw [NZ.out];exact hlt))=pr at g0 g1 hrow;obtain ⟨u,r⟩:=pr;dsimp only at g0 g1 hrow;have uf:=af (Hs.out _ (List.getElem_mem hlt));have HC:=af (fun W (hW:RW df 1 W u l[k].aB)=>N7 l[k].aB u r c W hW uf.out hc)
   have vW:=af hrow;obtain ⟨x9,y9,rfl,_⟩:=hrow.val;clear hcell hrow;have jU:=af (rJ (fun x=>lW x.aB) l k hlt);have MN:=af (xY (fun x=>lW x.aB) l (k+1));have LU:=af (show (fun x=>lW x.aB) l[k]=lW l[k].aB from rfl)
   by_cases hx:c<lW l[k].aB
   ·have HR:=af (gQ (show lf<uV l by have:=hsum.out;have:=jU.out;have:=MN.out;have:=LU.out;rw [HT.out];omega));have Hx:=af (gQ hx);clear hx;go_wp2_with fail;refine (HC.out _ vW.out).mono ?_;rintro e w2 ⟨rfl,hb2⟩;have B2:=af (hb.out.trans (hb2.mono hb.out.size));clear hb2;rw [Hx.out];go_wp2_with fail;go_ret;exact ⟨aZ HR.out.symm,B2.out⟩
   obtain ⟨c2,hc2⟩:=Nat.exists_eq_add_of_le (Nat.not_lt.1 hx);have Hx:=af (show Df c (lW l[k].aB)=(c2:Int) by rw [iJ (by omega)];omega);have Gl:=af (show lf=l.length+sumT (fun x=>lW x.aB) l (k+1)+c2 by have:=hsum.out;have:=jU.out;have:=LU.out;omega);have Gm:c2≤1048576:=by omega
   clear hx hc2;go_wp2_with fail;refine (HC.out _ vW.out).mono ?_;rintro e w2 ⟨rfl,hb2⟩;have B2:=af (hb.out.trans (hb2.mono hb.out.size));clear hb2;rw [Hx.out];go_wp2_with fail;go_roundw
   case rel=>exact ⟨k+1,c2,by go_num,by omega,rfl,Gm,Gl.out,B2.out⟩
   case measure=>simp [intOf];omega
  have hkn:k=l.length:=by omega
  have HR:=af (show Df lf (uV l)=(c:Int) by
   have h1:=hsum.out;rw [hkn,uU] at h1;rw [HT.out,iJ (by omega)];omega)
  clear hkn;go_wp2_with fail;go_ret;exact ⟨aZ HR.out.symm,hb.out⟩
theorem Pq.below {w w':World} {v:Value} {m:List (List Int)} (h:Pq w v m) (hb:Below w.heap.size w w'):Pq w' v m:=by
 obtain ⟨vs,hl,hs,hr⟩:=h;exact ⟨vs,hl,hs.below hb,fun i h h'=>(hr i h h').below hb⟩
theorem Pv.below {w w':World} {v:Value} {m:List Kx.Env} (h:Pv w v m) (hb:Below w.heap.size w w'):Pv w' v m:=by
 obtain ⟨vs,hl,hs,hr⟩:=h;exact ⟨vs,hl,hs.below hb,fun i h h'=>⟨(hr i h h').1,(hr i h h').2.below hb⟩⟩
theorem Uw.below {w w':World} {vm vi ve vc:Value} {k:Kx.Kernel} (h:Uw w vm vi ve vc k) (hb:Below w.heap.size w w'):Uw w' vm vi ve vc k:=
 ⟨h.m.below hb,h.i.below hb,h.e.below hb,h.c.below hb⟩
theorem QQ (k:Kx.Kernel) (vm vi ve vc:Value) (w:World) (h:Uw w vm vi ve vc k) (hs:CZ k) (lf:Nat) (hl:lf≤1048576):Calls Tryz.prog 8 #[.agg #[vm,vi,ve,vc],.int .i64 lf] w (Sz lf (nK k) w):=by
 obtain ⟨w0,hw0⟩:∃ w0,w.alloc (.cells #[vm,vi,ve,vc] 27)=w0:=⟨_,rfl⟩;have dB:=af (show Below w.heap.size w w0 from hw0 ▸ (Below.refl w.heap.size w).alloc aW _);have jF:=af (show kK w0 w.heap.size vm vi ve vc from hw0 ▸ kK.new w vm vi ve vc _);have HT:=af (show nK k=r_ k.mem+pR k.ag+uV k.ah+k.cache.length from rfl);have HK:=af (h.below dB.out);have Hs:=af hs;obtain ⟨am,cm,rfl,_⟩:=h.m.len;obtain ⟨ai,ci,rfl,_⟩:=h.i.val;obtain ⟨ae,ce,rfl,_⟩:=h.e.len;obtain ⟨ac,cc,rfl,_⟩:=h.c.val;obtain ⟨k0,k1,k2,k3,_⟩:=jF.out;clear h hs;go_enter Tryz.func8,Tryz.ntmps8;go_wp2_with fail;clear hw0;refine (Jb k.mem lf _ _ (HK.out.m.below fZ) hl).mono ?_;rintro e w1 ⟨rfl,hb⟩;have B1:=af hb;clear hb;obtain ⟨a0,a1,a2,a3,_⟩:=jF.out.below B1.out;clear k0 k1 k2 k3
 by_cases hx:lf<r_ k.mem
 ·have HR:=af (gQ (show lf<nK k by rw [HT.out];omega));rw [gQ hx];clear hx;go_wp2_with fail;go_ret;exact ⟨aZ HR.out.symm,dB.out.trans (B1.out.mono dB.out.size)⟩
 obtain ⟨l1,Ux⟩:=Nat.exists_eq_add_of_le (Nat.not_lt.1 hx);rw [show Df lf (r_ k.mem)=(l1:Int) from by rw [iJ (Nat.not_lt.1 hx)];omega];have hl1:l1≤1048576:=by omega
 have Vk:=af Ux;clear hx Ux;go_wp2_with fail;refine (Jc k.ag l1 _ _ (HK.out.i.below B1.out) Hs.out.1 hl1).mono ?_;rintro e w2 ⟨rfl,hb⟩;have B2:=af (B1.out.trans (hb.mono B1.out.size));clear hb;obtain ⟨k0,k1,k2,k3,_⟩:=jF.out.below B2.out;clear a0 a1 a2 a3
 by_cases hx:l1<pR k.ag
 ·have HR:=af (gQ (show lf<nK k by rw [HT.out];have:=Vk.out;omega));rw [gQ hx];clear hx;go_wp2_with fail;go_ret;exact ⟨aZ HR.out.symm,dB.out.trans (B2.out.mono dB.out.size)⟩
 obtain ⟨l2,Uy⟩:=Nat.exists_eq_add_of_le (Nat.not_lt.1 hx);rw [show Df l1 (pR k.ag)=(l2:Int) from by rw [iJ (Nat.not_lt.1 hx)];omega];have hl2:l2≤1048576:=by omega
 have HE2:=af Uy;clear hx Uy;go_wp2_with fail;refine (LV k.ah l2 _ _ (HK.out.e.below B2.out) Hs.out.2 hl2).mono ?_;rintro e w3 ⟨rfl,hb⟩;have B3:=af (B2.out.trans (hb.mono B2.out.size));clear hb;obtain ⟨a0,a1,a2,a3,_⟩:=jF.out.below B3.out;clear k0 k1 k2 k3
 by_cases hx:l2<uV k.ah
 ·have HR:=af (gQ (show lf<nK k by rw [HT.out];have:=Vk.out;have:=HE2.out;omega));rw [gQ hx];clear hx;go_wp2_with fail;go_ret;exact ⟨aZ HR.out.symm,dB.out.trans (B3.out.mono dB.out.size)⟩
 obtain ⟨l3,Uz⟩:=Nat.exists_eq_add_of_le (Nat.not_lt.1 hx);rw [show Df l2 (uV k.ah)=(l3:Int) from by rw [iJ (Nat.not_lt.1 hx)];omega];have hl3:l3≤1048576:=by omega
 have Zu:=af Uz;clear hx Uz;go_wp2_with fail;refine (EI k.cache l3 _ _ (HK.out.c.below B3.out) hl3).mono ?_;rintro e w4 ⟨rfl,hb⟩;have B4:=af (B3.out.trans (hb.mono B3.out.size));clear hb;clear a0 a1 a2 a3
 by_cases hx:l3<k.cache.length
 ·have HR:=af (gQ (show lf<nK k by rw [HT.out];have:=Vk.out;have:=HE2.out;have:=Zu.out;omega));rw [gQ hx];clear hx;go_wp2_with fail;go_ret;exact ⟨aZ HR.out.symm,dB.out.trans (B4.out.mono dB.out.size)⟩
 obtain ⟨l4,UA⟩:=Nat.exists_eq_add_of_le (Nat.not_lt.1 hx);rw [show Df l3 (k.cache.length)=(l4:Int) from by rw [iJ (Nat.not_lt.1 hx)];omega];have hl4:l4≤1048576:=by omega
 have HE4:=af UA;clear hx UA;go_wp2_with fail;have HR:=af (show Df lf (nK k)=(l4:Int) by rw [HT.out];have:=Vk.out;have:=HE2.out;have:=Zu.out;have:=HE4.out;rw [iJ (by omega)];omega);go_ret;exact ⟨aZ HR.out.symm,dB.out.trans (B4.out.mono dB.out.size)⟩
def setAt:List Value→Nat→List Value→List Value
 | xs,_,[]=>xs
 | xs,o,c :: cs=>setAt (xs.set o c) (o+1) cs
def kP:World→Nat→Nat→List Value→World
 | w,_,_,[]=>w
 | w,g,o,c :: cs=>kP (w.setCell ⟨g,o,none⟩ c) g (o+1) cs
theorem EL:∀ (cs xs:List Value) (o:Nat),o+cs.length≤xs.length→setAt xs o cs=xs.take o ++ cs ++ xs.drop (o+cs.length)
 | [],xs,o,_=>by simp [setAt]
 | c :: cs,xs,o,h=>by
  have h':o+1+cs.length≤(xs.set o c).length:=by rw [List.length_set];simp at h;omega
  have ho:o<xs.length:=by simp at h;omega
  have e:setAt xs o (c :: cs)=setAt (xs.set o c) (o+1) cs:=rfl;rw [e,EL cs (xs.set o c) (o+1) h'];have e1:(xs.set o c).take (o+1)=xs.take o ++ [c]:=by
   rw [List.take_succ_eq_append_getElem (by simpa using ho)];simp [List.take_set_of_le]
  have e2:(xs.set o c).drop (o+1+cs.length)=xs.drop (o+(c :: cs).length):=by
   rw [List.drop_set_of_lt (by omega)];congr 1;simp;omega
  rw [e1,e2];simp
theorem oz {α:Type} {f:α→List Value} {sz:Nat} (hf:∀ x,(f x).length=sz) (l:List α) (k:Nat) (x:α) (hk:k<l.length):flat f (l.set k x)=setAt (flat f l) (k*sz) (f x):=by
 have hl:l=l.take k ++ l[k] :: l.drop (k+1):=by rw [List.getElem_cons_drop];simp
 have e1:l.set k x=l.take k ++ x :: l.drop (k+1):=by
  conv=>lhs;rw [hl]
  rw [List.set_append_right _ _ (by simp;omega)];have:k - (l.take k).length=0:=by simp;omega
  rw [this,List.set_cons_zero]
 have ht:(flat f (l.take k)).length=k*sz:=by rw [flat_length hf,List.length_take,Nat.min_eq_left (by omega)]
 have e2:flat f l=flat f (l.take k) ++ (f l[k] ++ flat f (l.drop (k+1))):=by
  conv=>lhs;rw [hl]
  rw [qM];congr 1
 have hlen:k*sz+(f x).length≤(flat f l).length:=by rw [e2,List.length_append,List.length_append,ht,hf,hf];omega
 rw [EL _ _ _ hlen,e1,qM];have e3:(flat f l).take (k*sz)=flat f (l.take k):=by rw [e2,←ht,List.take_left'];rfl
 have e4:(flat f l).drop (k*sz+(f x).length)=flat f (l.drop (k+1)):=by
  have e5:(flat f (l.take k) ++ f l[k]).length=(flat f (l.take k)).length+(f x).length:=by rw [List.length_append,hf,hf]
  rw [e2,←ht,←List.append_assoc,←e5,List.drop_left]
 rw [e3,e4];unfold flat;simp
theorem zC {base e sz g n cap:Nat}:∀ (cs xs:List Value) (o:Nat) (w:World),w.ownsRow base e sz (.slice (some ⟨g,0,none⟩) n cap) n xs →
  (kP w g o cs).ownsRow base e sz (.slice (some ⟨g,0,none⟩) n cap) n (setAt xs o cs)∧w.grownBy (kP w g o cs) (some g)
 | [],xs,o,w,h=>⟨h,World.grownBy.refl _ _⟩
 | c :: cs,xs,o,w,h=>by
  obtain ⟨h1,h2⟩:=h.stored o c;obtain ⟨h3,h4⟩:=zC cs (xs.set o c) (o+1) _ h1;exact ⟨h3,grownBy_trans h2 h4⟩
theorem OS.jy {α:Type} {f:α→List Value} {sz:Nat} [E:IV f sz] {e:TypeId} {w:World} {base g n cap:Nat} {l:List α} (h:OS f sz e w base (.slice (some ⟨g,0,none⟩) n cap) l) (hn:l.length=n) (k:Nat) (x:α) (hk:k<l.length) :
  OS f sz e (kP w g (k*sz) (f x)) base (.slice (some ⟨g,0,none⟩) n cap) (l.set k x)∧w.grownBy (kP w g (k*sz) (f x)) (some g):=by
 subst hn;obtain ⟨h1,h2⟩:=zC (f x) (flat f l) (k*sz) w h.1;refine ⟨⟨?_,by simpa using h.2⟩,h2⟩;rw [oz E.len l k x hk,List.length_set];exact h1
theorem iK {B:Nat} {a:World} {g:Nat} (hg:B≤g):∀ (cs:List Value) (o:Nat) (w:World),Below B a w→Below B a (kP w g o cs)
 | [],_,_,h=>h
 | c :: cs,o,_,h=>iK hg cs (o+1) _ (h.setCell (p:=⟨g,o,none⟩) hg c)
theorem OS.bP {α:Type} {f:α→List Value} {sz:Nat} [E:IV f sz] {e:TypeId} {w:World} {base g n cap:Nat} {l:List α} (h:OS f sz e w base (.slice (some ⟨g,0,none⟩) n cap) l) (k:Nat) (hk:k<l.length) (j:Nat) (hj:j<sz) :
  (∃ u,w.cell? ⟨g,k*sz+j,none⟩=some u)∧w.frozen? ⟨g,k*sz+j,none⟩=false:=by
 have h1:(f l[k])[j]?=some ((f l[k])[j]'(by rw [E.len];exact hj)):=List.getElem?_eq_getElem (by rw [E.len];exact hj);obtain ⟨b,off,cap',e,_,hc⟩:=h.rs.at hk;simp only [Value.slice.injEq,Option.some.injEq,Addr.mk.injEq] at e;obtain ⟨⟨rfl,rfl,_⟩,_⟩:=e;have:=hc j _ h1;rw [Nat.zero_add] at this;obtain rfl:=(RS.len h.rs rfl).1;exact ⟨⟨_,this⟩,h.1.frozenAt _⟩
theorem jM {α:Type} {f:α→List Value} {sz:Nat} (hf:∀ x,(f x).length=sz) (hs:0<sz) (z:α) (zc:Array Value) (hz:zc.toList=f z) (n:Nat):(madeCells zc (n*sz)).toList=flat f (List.replicate n z):=by
 have hzs:zc.size=sz:=by rw [←hf z,←hz];simp
 have hl:(flat f (List.replicate n z)).length=n*sz:=by rw [flat_length hf];simp
 refine List.ext_getElem (by rw [hl,Array.length_toList,size_madeCells]) fun i h1 h2=>?_
 have hi:i<n*sz:=by rw [hl] at h2;exact h2
 obtain ⟨k,hk,j,hj,e,hg⟩:=Ej hf hs (List.replicate n z) i _ (List.getElem?_eq_getElem h2);have hz2:(f z)[j]?=some ((flat f (List.replicate n z))[i]):=by simpa using hg
 simp only [madeCells,Array.getElem_toList,Array.getElem_map,Array.getElem_range];have hm:i % zc.size=j:=by rw [hzs,e,Nat.mul_comm,Nat.mul_add_mod,Nat.mod_eq_of_lt hj]
 rw [hm,←hz] at *;rw [getElem!_pos zc j (by omega)];have:zc.toList[j]?=some (zc[j]'(by omega)):=by simp [show j<zc.size by omega]
 rw [this] at hz2;exact Option.some.inj hz2
theorem Below.Vl {w w':World} (h:w.grownBy w' none):Below w.heap.size w w':=Below.lC h
def yu {α:Type} (f:α→List Value) (sz:Nat) (e:TypeId) (w:World) (l:List α) (en:Ending) (w':World):Prop:=∃ u,en=.returned u∧OS f sz e w' w.heap.size u l∧Below w.heap.size w w'
theorem wG {α:Type} (l:List α) (z:α) (k:Nat) (hk:k<l.length):(l.take k ++ List.replicate (l.length - k) z).set k l[k]=l.take (k+1) ++ List.replicate (l.length - (k+1)) z:=by
 have e:List.replicate (l.length - k) z=z :: List.replicate (l.length - (k+1)) z:=by
  rw [show l.length - k=(l.length - (k+1))+1 by omega];rfl
 rw [e,List.set_append_right _ _ (by simp;omega)];have:k - (l.take k).length=0:=by simp;omega
 rw [this,List.set_cons_zero,show l.take (k+1)=l.take k ++ [l[k]] from List.take_succ_eq_append_getElem hk,List.append_assoc];rfl
theorem EM:(Tryz.prog.info? 9).map (fun i=>(i.zero,i.size,i.bytes))=some (some (.string ⟨#[]⟩),1,16):=by kernel_rfl
theorem Bj:(Tryz.prog.info? 108).map (fun i=>(i.zero,i.size,i.bytes))=some (some (.agg #[.int .i64 0,.string ⟨#[]⟩,.int .i64 0]),3,32):=by kernel_rfl
theorem xy:(Tryz.prog.info? 112).map (fun i=>(i.zero,i.size,i.bytes))=some (some (.agg #[.int .i64 0,.int .i64 0,.int .i64 0,.bool false]),4,32):=by kernel_rfl
theorem EN:(Tryz.prog.info? 64).map (fun i=>(i.zero,i.size,i.bytes))=some (some (.agg #[.slice none 0 0,.int .i64 0]),2,32):=by kernel_rfl
theorem Bo:(Tryz.prog.info? 47).map (fun i=>(i.zero,i.size,i.bytes))=some (some (.slice none 0 0),1,24):=by kernel_rfl
theorem LW (x:Kx.aG) (w:World):Calls Tryz.prog 102 #[kN x] w fun e w'=>e=.returned (kN x)∧Below w.heap.size w w':=by
 have Hb:=af (show ∀ a b c,Below w.heap.size w (((w.alloc (.cells a 114)).alloc (.cells b 108)).alloc (.cells c 108)) from fun a b c=>(((Below.refl w.heap.size w).alloc aW _).alloc (by simp) _).alloc (by simp;omega) _)
 unfold kN;go_enter Tryz.func102,Tryz.ntmps102;go_wp2_with fail;exact bodyPost_ret (v:=.agg #[.int .i64 x.kind,.string x.guard,.int .i64 x.refs]) (by simp [results,Tryz.results102,go_sem]) rfl ⟨rfl,Hb.out _ _ _⟩
theorem Gn (x:Kx.Cached) (w:World):Calls Tryz.prog 104 #[iT x] w fun e w'=>e=.returned (iT x)∧Below w.heap.size w w':=by
 have Hb:=af (show ∀ a b c,Below w.heap.size w (((w.alloc (.cells a 122)).alloc (.cells b 112)).alloc (.cells c 112)) from fun a b c=>(((Below.refl w.heap.size w).alloc aW _).alloc (by simp) _).alloc (by simp;omega) _)
 unfold iT;go_enter Tryz.func104,Tryz.ntmps104;go_wp2_with fail;exact bodyPost_ret (v:=.agg #[.int .i64 x.env,.int .i64 x.page,.int .i64 x.frame,.bool x.write]) (by simp [results,Tryz.results104,go_sem]) rfl ⟨rfl,Hb.out _ _ _⟩
theorem EO (l:List Kx.Str) (v:Value) (w:World) (h:RS df 1 w v l) (Jd:l.length≤1048576):Calls Tryz.prog 168 #[v] w (yu df 1 9 w l):=by
 obtain ⟨a,cap,rfl,_,_⟩:=RS.val h;have H:=af (show dK w _ l from h);clear h;obtain ⟨i0,hi,hz0,hz1,hz2⟩:=info_parts EM;have hc1:i0.bytes*l.length≤281474976710656:=by rw [hz2];omega
 have hc2:l.length≤maxLen:=by unfold maxLen;omega
 go_enter Tryz.func168,Tryz.ntmps168;go_wp2_with (at_make;refine wpList_make_full _ rfl _ _ 62 rfl w.heap.size 9 i0 (.string ⟨#[]⟩) 1 Tryz.underlying62 hi hz0 hz1 .i64 .i64 _ _ l.length rfl rfl rfl rfl hc1 hc2 aW ?_;intro w1 hown hgrow);have B1:=af (Below.lC hgrow);have O1:=af (show OS df 1 9 w1 w.heap.size (.slice (some ⟨w.heap.size,0,none⟩) l.length l.length) (List.replicate l.length (ByteArray.empty:Kx.Str)) from ⟨by rw [←jM (f:=df) (sz:=1) (fun _=>rfl) (by decide) (ByteArray.empty:Kx.Str) _ rfl l.length,List.length_replicate];exact hown,by simp;omega⟩);clear hi hz0 hz1 hz2 hgrow hown
 go_loopw [4] (fun i wr=>∃ k:Nat,i=.int .i64 k∧k≤l.length∧Hid (OS df 1 9 wr w.heap.size (.slice (some ⟨w.heap.size,0,none⟩) l.length l.length) (l.take k ++ List.replicate (l.length - k) (ByteArray.empty:Kx.Str)))∧Hid (Below w.heap.size w wr)) (fun i _=>l.length - (intOf i).toNat)
 case atStart=>exact ⟨0,rfl,Nat.zero_le _,by simpa [Hid] using O1.out,B1.out⟩
 case round =>
  clear O1 B1;obtain ⟨k,rfl,hk,ho,hb⟩:=hrel
  by_cases hlt:k<l.length
  ·obtain ⟨b,off,cap1,e,hbl,hx0⟩:=dK.at (RS.below H.out hb.out) hlt;simp only [Value.slice.injEq] at e;obtain ⟨rfl,_,rfl⟩:=e;have kQ:(k:Int)<(l.length:Int):=by omega
   obtain ⟨hst,hgr⟩:=ho.out.jy (by simp;omega) k l[k] (by simp;omega);rw [wG l _ k hlt] at hst;rw [Nat.mul_one] at hst;have uh:=af hst;have B2:=af hb.out;obtain ⟨⟨z0,hz0⟩,hf0⟩:=ho.out.bP k (by simp;omega) 0 (by decide);clear hst hgr;rw [Nat.add_zero,Nat.mul_one] at hz0 hf0;generalize l[k]=x at hx0 uh;go_wp2_with fail;go_roundw
   case rel=>exact ⟨k+1,by go_num,by omega,uh.out,iK aW (df x) k _ B2.out⟩
   case measure=>simp [intOf];omega
  have hkn:k=l.length:=by omega
  have HF:=af (show OS df 1 9 wr w.heap.size (.slice (some ⟨w.heap.size,0,none⟩) l.length l.length) l by
   have h9:=ho.out;rw [hkn,List.take_length,Nat.sub_self,List.replicate_zero,List.append_nil] at h9;exact h9)
  clear hkn;go_wp2_with fail;go_ret;exact ⟨_,rfl,HF.out,hb.out⟩
theorem Je (l:List Kx.aG) (v:Value) (w:World) (h:RS bH 3 w v l) (Jd:l.length≤1048576):Calls Tryz.prog 44 #[v] w (yu bH 3 108 w l):=by
 obtain ⟨a,cap,rfl,_,_⟩:=RS.val h;have H:=af (show bV w _ l from h);clear h;obtain ⟨i0,hi,hz0,hz1,hz2⟩:=info_parts Bj;have hc1:i0.bytes*l.length≤281474976710656:=by rw [hz2];omega
 have hc2:l.length≤maxLen:=by unfold maxLen;omega
 go_enter Tryz.func44,Tryz.ntmps44;go_wp2_with (at_make;refine wpList_make_full _ rfl _ _ 32 rfl w.heap.size 108 i0 (.agg #[.int .i64 0,.string ⟨#[]⟩,.int .i64 0]) 3 Tryz.underlying32 hi hz0 hz1 .i64 .i64 _ _ l.length rfl rfl rfl rfl hc1 hc2 aW ?_;intro w1 hown hgrow);have B1:=af (Below.lC hgrow);have O1:=af (show OS bH 3 108 w1 w.heap.size (.slice (some ⟨w.heap.size,0,none⟩) l.length l.length) (List.replicate l.length Kx.aG.zero) from ⟨by rw [←jM (f:=bH) (sz:=3) (fun _=>rfl) (by decide) Kx.aG.zero _ rfl l.length,List.length_replicate];exact hown,by simp;omega⟩);clear hi hz0 hz1 hz2 hgrow hown
 go_loopw [4] (fun i wr=>∃ k:Nat,i=.int .i64 k∧k≤l.length∧Hid (OS bH 3 108 wr w.heap.size (.slice (some ⟨w.heap.size,0,none⟩) l.length l.length) (l.take k ++ List.replicate (l.length - k) Kx.aG.zero))∧Hid (Below w.heap.size w wr)) (fun i _=>l.length - (intOf i).toNat)
 case atStart=>exact ⟨0,rfl,Nat.zero_le _,by simpa [Hid] using O1.out,B1.out⟩
 case round =>
  clear O1 B1;obtain ⟨k,rfl,hk,ho,hb⟩:=hrel
  by_cases hlt:k<l.length
  ·obtain ⟨b,off,cap1,e,hbl,hx0,hx1,hx2⟩:=bV.at (RS.below H.out hb.out) hlt;rw [show Kx.inf l k=l[k] from by simp [Kx.inf,hlt]] at hx0 hx1 hx2;simp only [Value.slice.injEq] at e;obtain ⟨rfl,_,rfl⟩:=e;have kQ:(k:Int)<(l.length:Int):=by omega
   have HC:=af (fun W=>LW l[k] W);unfold kN at HC;go_wp2_with fail;refine (HC.out _).mono ?_;rintro e w2 ⟨rfl,hb2⟩;have l7:=af (ho.out.below hb2);have B2:=af (hb.out.trans (hb2.mono hb.out.size));clear hb2;obtain ⟨hst,hgr⟩:=l7.out.jy (by simp;omega) k l[k] (by simp;omega);rw [wG l _ k hlt] at hst;have uh:=af hst;obtain ⟨⟨z0,hz0⟩,hf0⟩:=l7.out.bP k (by simp;omega) 0 (by decide);obtain ⟨⟨z1,hz1⟩,hf1⟩:=l7.out.bP k (by simp;omega) 1 (by decide);obtain ⟨⟨z2,hz2⟩,hf2⟩:=l7.out.bP k (by simp;omega) 2 (by decide);clear hst hgr
   try rw [Nat.add_zero] at hz0 hf0
   generalize l[k]=x at hx0 hx1 hx2 uh;go_wp2_with fail;go_roundw
   case rel=>exact ⟨k+1,by go_num,by omega,uh.out,iK aW (bH x) (k*3) _ B2.out⟩
   case measure=>simp [intOf];omega
  have hkn:k=l.length:=by omega
  have HF:=af (show OS bH 3 108 wr w.heap.size (.slice (some ⟨w.heap.size,0,none⟩) l.length l.length) l by
   have h9:=ho.out;rw [hkn,List.take_length,Nat.sub_self,List.replicate_zero,List.append_nil] at h9;exact h9)
  clear hkn;go_wp2_with fail;go_ret;exact ⟨_,rfl,HF.out,hb.out⟩
theorem EP (l:List Kx.Cached) (v:Value) (w:World) (h:RS b_ 4 w v l) (Jd:l.length≤1048576):Calls Tryz.prog 46 #[v] w (yu b_ 4 112 w l):=by
 obtain ⟨a,cap,rfl,_,_⟩:=RS.val h;have H:=af (show dZ w _ l from h);clear h;obtain ⟨i0,hi,hz0,hz1,hz2⟩:=info_parts xy;have hc1:i0.bytes*l.length≤281474976710656:=by rw [hz2];omega
 have hc2:l.length≤maxLen:=by unfold maxLen;omega
 go_enter Tryz.func46,Tryz.ntmps46;go_wp2_with (at_make;refine wpList_make_full _ rfl _ _ 34 rfl w.heap.size 112 i0 (.agg #[.int .i64 0,.int .i64 0,.int .i64 0,.bool false]) 4 Tryz.underlying34 hi hz0 hz1 .i64 .i64 _ _ l.length rfl rfl rfl rfl hc1 hc2 aW ?_;intro w1 hown hgrow);have B1:=af (Below.lC hgrow);have O1:=af (show OS b_ 4 112 w1 w.heap.size (.slice (some ⟨w.heap.size,0,none⟩) l.length l.length) (List.replicate l.length Kx.Cached.zero) from ⟨by rw [←jM (f:=b_) (sz:=4) (fun _=>rfl) (by decide) Kx.Cached.zero _ rfl l.length,List.length_replicate];exact hown,by simp;omega⟩);clear hi hz0 hz1 hz2 hgrow hown
 go_loopw [4] (fun i wr=>∃ k:Nat,i=.int .i64 k∧k≤l.length∧Hid (OS b_ 4 112 wr w.heap.size (.slice (some ⟨w.heap.size,0,none⟩) l.length l.length) (l.take k ++ List.replicate (l.length - k) Kx.Cached.zero))∧Hid (Below w.heap.size w wr)) (fun i _=>l.length - (intOf i).toNat)
 case atStart=>exact ⟨0,rfl,Nat.zero_le _,by simpa [Hid] using O1.out,B1.out⟩
 case round =>
  clear O1 B1;obtain ⟨k,rfl,hk,ho,hb⟩:=hrel
  by_cases hlt:k<l.length
  ·obtain ⟨b,off,cap1,e,hbl,hx0,hx1,hx2,hx3⟩:=dZ.at (RS.below H.out hb.out) hlt;rw [show l.getD k Kx.Cached.zero=l[k] from by simp [hlt]] at hx0 hx1 hx2 hx3;simp only [Value.slice.injEq] at e;obtain ⟨rfl,_,rfl⟩:=e;have kQ:(k:Int)<(l.length:Int):=by omega
   have HC:=af (fun W=>Gn l[k] W);unfold iT at HC;go_wp2_with fail;refine (HC.out _).mono ?_;rintro e w2 ⟨rfl,hb2⟩;have l7:=af (ho.out.below hb2);have B2:=af (hb.out.trans (hb2.mono hb.out.size));clear hb2;obtain ⟨hst,hgr⟩:=l7.out.jy (by simp;omega) k l[k] (by simp;omega);rw [wG l _ k hlt] at hst;have uh:=af hst;obtain ⟨⟨z0,hz0⟩,hf0⟩:=l7.out.bP k (by simp;omega) 0 (by decide);obtain ⟨⟨z1,hz1⟩,hf1⟩:=l7.out.bP k (by simp;omega) 1 (by decide);obtain ⟨⟨z2,hz2⟩,hf2⟩:=l7.out.bP k (by simp;omega) 2 (by decide);obtain ⟨⟨z3,hz3⟩,hf3⟩:=l7.out.bP k (by simp;omega) 3 (by decide);clear hst hgr
   try rw [Nat.add_zero] at hz0 hf0
   generalize l[k]=x at hx0 hx1 hx2 hx3 uh;go_wp2_with fail;go_roundw
   case rel=>exact ⟨k+1,by go_num,by omega,uh.out,iK aW (b_ x) (k*4) _ B2.out⟩
   case measure=>simp [intOf];omega
  have hkn:k=l.length:=by omega
  have HF:=af (show OS b_ 4 112 wr w.heap.size (.slice (some ⟨w.heap.size,0,none⟩) l.length l.length) l by
   have h9:=ho.out;rw [hkn,List.take_length,Nat.sub_self,List.replicate_zero,List.append_nil] at h9;exact h9)
  clear hkn;go_wp2_with fail;go_ret;exact ⟨_,rfl,HF.out,hb.out⟩
structure qj where
 a:Option Addr
 n:Nat
 c:Nat
def dM (s:qj):Value:=.slice s.a s.n s.c
def rO (s:qj):List Value:=[dM s]
def jG (x:qj×Int):List Value:=[dM x.1,.int .i64 x.2]
instance:IV rO 1:=⟨fun _=>rfl,by decide,fun x u hu=>by simp [rO] at hu;subst hu;rfl⟩
instance:IV jG 2:=⟨fun _=>rfl,by decide,fun x u hu=>by simp [jG] at hu;rcases hu with rfl | rfl <;> rfl⟩
theorem RS.map {α β:Type} {f:α→List Value} {g:β→List Value} {sz:Nat} {w:World} {v:Value} {l:List α} (h:RS f sz w v l) (m:α→β) (hm:∀ x,f x=g (m x)):RS g sz w v (l.map m):=by
 obtain ⟨h1,h2⟩:=h;refine ⟨by simpa using h1,?_⟩;rcases h2 with ⟨rfl,a,cap,rfl,hc,hn⟩ | ⟨b,off,cap,rfl,h3,h4,hb,hc⟩
 ·exact .inl ⟨rfl,a,cap,rfl,hc,hn⟩
 refine .inr ⟨b,off,cap,by simp,by simpa using h3,h4,hb,fun k hk j u hu=>?_⟩
 have hk':k<l.length:=by simpa using hk
 refine hc k hk' j u ?_;rw [hm];simpa using hu
def UB (v:Value) (hi:Nat):Prop:=∀ k,v.ownBlock=some k→k<hi
theorem UB.mono {v:Value} {a b:Nat} (h:UB v a) (hab:a≤b):UB v b:=fun k e=>Nat.lt_of_lt_of_le (h k e) hab
theorem OS.ub {α:Type} {f:α→List Value} {sz:Nat} {e:TypeId} {w:World} {base:Nat} {v:Value} {l:List α} (h:OS f sz e w base v l):UB v w.heap.size:=fun k hk=>(h.lt k hk).2
theorem aK (w:World) (g k:Nat) (v:Value):w.grownBy (w.setCell ⟨g,k,none⟩ v) (some g):=⟨rfl,rfl,rfl,by simp [World.setCell],fun i hi hne=>Below.heap_setCell w ⟨g,k,none⟩ v i (by intro e;exact hne (by rw [e]))⟩
theorem OI.qW {w w':World} {base g:Nat} {v:Value} {xs:List Int} (h:OI w base v xs) (hr:g<base) (hg:w.grownBy w' (some g)):OI w' base v xs:=h.jT hr hg
theorem OS.qW {α:Type} {f:α→List Value} {sz:Nat} {e:TypeId} {w w':World} {base g:Nat} {v:Value} {l:List α} (h:OS f sz e w base v l) (hr:g<base) (hg:w.grownBy w' (some g)):OS f sz e w' base v l:=by
 refine h.kept hg ?_
 cases hv:v.ownBlock with
 | none=>exact .inl rfl
 | some k=>refine .inr fun e=>?_;have:=(h.lt k hv).1;simp at e;omega
def OM (w:World) (base hi:Nat) (u:Value) (m:List (List Int)):Prop:=
 ∃ ss:List qj,ss.length=m.length∧(OS rO 1 47 w base u ss∧UB u hi)∧(∀ i (h:i<ss.length) (h':i<m.length),OI w base (dM ss[i]) m[i]∧UB (dM ss[i]) hi∧Sep (dM ss[i]) u) ∧
  ∀ i j (h:i<ss.length) (h':j<ss.length),i<j→Sep (dM ss[j]) (dM ss[i])
theorem OM.rm {w:World} {base hi:Nat} {u:Value} {m:List (List Int)} (h:OM w base hi u m):RM w u m:=by
 obtain ⟨ss,hl,ho,hr,_⟩:=h;refine ⟨ss.map dM,by simpa using hl,ho.1.rs.map dM (fun _=>rfl),fun i h h'=>?_⟩
 have hi:i<ss.length:=by simpa using h
 have:=(hr i hi h').1.ri
 simpa using this
theorem OM.below {w w':World} {base hi:Nat} {u:Value} {m:List (List Int)} (h:OM w base hi u m) (hb:Below w.heap.size w w'):OM w' base hi u m:=by
 obtain ⟨ss,hl,ho,hr,hs⟩:=h;exact ⟨ss,hl,⟨ho.1.below hb,ho.2⟩,fun i h h'=>⟨(hr i h h').1.below hb,(hr i h h').2⟩,hs⟩
theorem OM.jb {w:World} {base hi g:Nat} {u:Value} {m:List (List Int)} (h:OM w base hi u m) (hg:g<base) (k:Nat) (x:Value):OM (w.setCell ⟨g,k,none⟩ x) base hi u m:=by
 obtain ⟨ss,hl,ho,hr,hs⟩:=h;exact ⟨ss,hl,⟨ho.1.qW hg (aK w g k x),ho.2⟩,fun i h h'=>⟨(hr i h h').1.qW hg (aK w g k x),(hr i h h').2⟩,hs⟩
theorem OM.mono {w:World} {base base' hi hi':Nat} {u:Value} {m:List (List Int)} (h:OM w base hi u m) (hb:base'≤base) (hh:hi≤hi'):OM w base' hi' u m:=by
 obtain ⟨ss,hl,ho,hr,hs⟩:=h;exact ⟨ss,hl,⟨ho.1.mono hb,ho.2.mono hh⟩,fun i h h'=>⟨(hr i h h').1.mono hb,(hr i h h').2.1.mono hh,(hr i h h').2.2⟩,hs⟩
def OE (w:World) (base hi:Nat) (u:Value) (es:List Kx.Env):Prop:=
 ∃ ss:List (qj×Int),ss.length=es.length∧(OS jG 2 64 w base u ss∧UB u hi)∧(∀ i (h:i<ss.length) (h':i<es.length),ss[i].2=es[i].root∧OS df 1 9 w base (dM ss[i].1) es[i].aB∧UB (dM ss[i].1) hi∧Sep (dM ss[i].1) u) ∧
  ∀ i j (h:i<ss.length) (h':j<ss.length),i<j→Sep (dM ss[j].1) (dM ss[i].1)
theorem OE.re {w:World} {base hi:Nat} {u:Value} {es:List Kx.Env} (h:OE w base hi u es):uo w u es:=by
 obtain ⟨ss,hl,ho,hr,_⟩:=h;refine ⟨ss.map fun x=>(dM x.1,x.2),by simpa using hl,ho.1.rs.map _ (fun _=>rfl),fun i h h'=>?_⟩
 have hi:i<ss.length:=by simpa using h
 obtain ⟨h1,h2,_⟩:=hr i hi h';exact ⟨by simpa using h1,by have:=h2.rs;unfold dK;simpa using this⟩
theorem OE.below {w w':World} {base hi:Nat} {u:Value} {m:List Kx.Env} (h:OE w base hi u m) (hb:Below w.heap.size w w'):OE w' base hi u m:=by
 obtain ⟨ss,hl,ho,hr,hs⟩:=h;exact ⟨ss,hl,⟨ho.1.below hb,ho.2⟩,fun i h h'=>⟨(hr i h h').1,(hr i h h').2.1.below hb,(hr i h h').2.2⟩,hs⟩
theorem OE.jb {w:World} {base hi g:Nat} {u:Value} {m:List Kx.Env} (h:OE w base hi u m) (hg:g<base) (k:Nat) (x:Value):OE (w.setCell ⟨g,k,none⟩ x) base hi u m:=by
 obtain ⟨ss,hl,ho,hr,hs⟩:=h;exact ⟨ss,hl,⟨ho.1.qW hg (aK w g k x),ho.2⟩,fun i h h'=>⟨(hr i h h').1,(hr i h h').2.1.qW hg (aK w g k x),(hr i h h').2.2⟩,hs⟩
theorem OE.mono {w:World} {base base' hi hi':Nat} {u:Value} {m:List Kx.Env} (h:OE w base hi u m) (hb:base'≤base) (hh:hi≤hi'):OE w base' hi' u m:=by
 obtain ⟨ss,hl,ho,hr,hs⟩:=h;exact ⟨ss,hl,⟨ho.1.mono hb,ho.2.mono hh⟩,fun i h h'=>⟨(hr i h h').1,(hr i h h').2.1.mono hb,(hr i h h').2.2.1.mono hh,(hr i h h').2.2.2⟩,hs⟩
theorem OI.Oy {w:World} {base g:Nat} {v:Value} {xs:List Int} (h:OI w base v xs) (hr:g<base) (k:Nat) (x:Value):OI (w.setCell ⟨g,k,none⟩ x) base v xs:=h.qW hr (aK w g k x)
theorem xA {α:Type} {f:α→List Value} {sz:Nat} {e:TypeId} {w:World} {base g:Nat} {v u:Value} {l:List α} (h:OS f sz e w base v l) (hu:u.ownBlock=some g) (hg:g<base):Sep v u:=by
 cases hv:v.ownBlock with
 | none=>exact .inl hv
 | some k=>refine .inr fun e=>?_;have:=(h.lt k hv).1;rw [hv,hu] at e;simp at e;omega
def MI (w:World) (g:Nat) (m:List (List Int)) (ss:List qj) (k:Nat):Prop:=
 (∀ i (h:i<ss.length) (h':i<m.length),i<k→OI w (g+1) (dM ss[i]) m[i])∧∀ i j (h:i<ss.length) (h':j<ss.length),i<j→j<k→Sep (dM ss[j]) (dM ss[i])
theorem MI.step {w w2 w3:World} {g:Nat} {m:List (List Int)} {ss:List qj} {k:Nat} (h:MI w g m ss k) (hb:Below w.heap.size w w2) (s:qj) (hk:k<ss.length) (hkm:k<m.length) (ho:OI w2 w.heap.size (dM s) m[k]) (hgw:g<w.heap.size) (hg:w2.grownBy w3 (some g)):MI w3 g m (ss.set k s) (k+1):=by
 obtain ⟨h1,h2⟩:=h;have ho':OI w2 (g+1) (dM s) m[k]:=ho.mono (by omega);refine ⟨fun i hi hi' hik=>?_,fun i j hi hj hij hjk=>?_⟩
 ·by_cases e:i=k
  ·subst e;rw [List.getElem_set_self];exact ho'.qW (by omega) hg
  rw [List.getElem_set_ne (Ne.symm e)];exact ((h1 i (by simpa using hi) hi' (by omega)).below hb).qW (by omega) hg
 have hi0:i<ss.length:=by simpa using hi
 have hj0:j<ss.length:=by simpa using hj
 by_cases e:j=k
 ·subst e;rw [List.getElem_set_self,List.getElem_set_ne (by omega)];have hA:=h1 i hi0 (by omega) hij;exact Sep.later hA.os ho.os aW
 rw [List.getElem_set_ne (by omega),List.getElem_set_ne (by omega)];exact h2 i j hi0 hj0 hij (by omega)
theorem Jf (l:List (List Int)) (v:Value) (w:World) (h:RM w v l) (Jd:l.length≤1048576):Calls Tryz.prog 43 #[v] w fun e w'=>∃ u,e=.returned u∧OM w' w.heap.size w'.heap.size u l∧Below w.heap.size w w':=by
 obtain ⟨_,a,cap,rfl,_,_⟩:=h.len;have H:=af h;clear h;obtain ⟨i0,hi,hz0,hz1,hz2⟩:=info_parts Bo;have hc1:i0.bytes*l.length≤281474976710656:=by rw [hz2];omega
 have hc2:l.length≤maxLen:=by unfold maxLen;omega
 go_enter Tryz.func43,Tryz.ntmps43;go_wp2_with (at_make;refine wpList_make_full _ rfl _ _ 22 rfl w.heap.size 47 i0 (.slice none 0 0) 1 Tryz.underlying22 hi hz0 hz1 .i64 .i64 _ _ l.length rfl rfl rfl rfl hc1 hc2 aW ?_;intro w1 hown hgrow);have B1:=af (Below.lC hgrow);have O1:=af (show OS rO 1 47 w1 w.heap.size (.slice (some ⟨w.heap.size,0,none⟩) l.length l.length) (List.replicate l.length ⟨none,0,0⟩) from ⟨by rw [←jM (f:=rO) (sz:=1) (fun _=>rfl) (by decide) ⟨none,0,0⟩ _ rfl l.length,List.length_replicate];exact hown,by simp;omega⟩);clear hi hz0 hz1 hz2 hgrow hown
 go_loopw [4] (fun i wr=>∃ (k:Nat) (ss:List qj),i=.int .i64 k∧k≤l.length∧Hid (ss.length=l.length)∧Hid (OS rO 1 47 wr w.heap.size (.slice (some ⟨w.heap.size,0,none⟩) l.length l.length) ss)∧Hid (MI wr w.heap.size l ss k)∧Hid (Below w.heap.size w wr)∧Hid (w.heap.size<wr.heap.size∨l.length=0)) (fun i _=>l.length - (intOf i).toNat)
 case atStart =>
  refine ⟨0,List.replicate l.length ⟨none,0,0⟩,rfl,Nat.zero_le _,by simp [Hid],O1.out,⟨fun i h h' hk=>absurd hk (Nat.not_lt_zero _),fun i j h h' _ hk=>absurd hk (Nat.not_lt_zero _)⟩,B1.out,?_⟩
  by_cases h0:l.length=0
  ·exact .inr h0
  exact .inl ((O1.out.lt w.heap.size rfl).2)
 case round =>
  clear O1 B1;obtain ⟨k,ss,rfl,hk,hsl,ho,Jt,hb,hgw⟩:=hrel
  by_cases hlt:k<l.length
  ·obtain ⟨b,off,cap1,u,e,_,hx0,m_⟩:=(H.out.below hb.out).at hlt;rw [show Kx.row l k=l[k] from by simp [Kx.row,hlt]] at m_;simp only [Value.slice.injEq] at e;obtain ⟨rfl,_,rfl⟩:=e;have kQ:(k:Int)<(l.length:Int):=by omega
   have UC:=af (show w.heap.size<wr.heap.size by rcases hgw.out with h | h;exact h;omega)
   have HC:=af (KZ l[k] u wr m_);obtain ⟨a9,c9,rfl⟩:=m_.val;clear m_;go_wp2_with fail;refine HC.out.mono ?_;rintro e w2 ⟨u2,rfl,ho2,hb2⟩;obtain ⟨a8,c8,rfl⟩:=ho2.ri.val;have l7:=af (ho.out.below hb2);have B2:=af (hb.out.trans (hb2.mono hb.out.size));obtain ⟨hst,hgr⟩:=l7.out.jy hsl.out k ⟨a8,l[k].length,c8⟩ (by have:=hsl.out;omega);rw [Nat.mul_one] at hst hgr;have uh:=af hst;have Vm:=af (Jt.out.step hb2 ⟨a8,l[k].length,c8⟩ (by have:=hsl.out;omega) hlt ho2 UC.out hgr);have Vo:=af (show (ss.set k ⟨a8,l[k].length,c8⟩).length=l.length by rw [List.length_set];exact hsl.out);have N8:=af (show w.heap.size<(kP w2 w.heap.size k (rO ⟨a8,l[k].length,c8⟩)).heap.size from Nat.lt_of_lt_of_le UC.out (Nat.le_trans hb2.size hgr.size));obtain ⟨⟨z0,hz0⟩,hf0⟩:=l7.out.bP k (by have:=hsl.out;omega) 0 (by decide);rw [Nat.add_zero,Nat.mul_one] at hz0 hf0
   clear hst hgr ho2 hb2 HC;generalize l[k].length=n8 at uh Vm Vo N8 ⊢;go_wp2_with fail;go_roundw
   case rel=>exact ⟨k+1,_,by go_num,by omega,Vo.out,uh.out,Vm.out,iK aW (rO ⟨a8,n8,c8⟩) k _ B2.out,.inl N8.out⟩
   case measure=>simp [intOf];omega
  have hkn:k=l.length:=by omega
  have HF:=af (show OM wr w.heap.size wr.heap.size (.slice (some ⟨w.heap.size,0,none⟩) l.length l.length) l from
   ⟨ss,hsl.out,⟨ho.out,ho.out.ub⟩,fun i h h'=>⟨(Jt.out.1 i h h' (by omega)).mono (Nat.le_succ _),(Jt.out.1 i h h' (by omega)).os.ub,xA (Jt.out.1 i h h' (by omega)).os rfl (Nat.lt_succ_self _)⟩,fun i j h h' hij=>Jt.out.2 i j h h' hij (by have:=hsl.out;omega)⟩)
  clear hkn;go_wp2_with fail;go_ret;exact ⟨_,rfl,HF.out,hb.out⟩
def BX (w:World) (g:Nat) (e:TypeId) (cs:List Value):Prop:=w.heap[g]?=some (.cells cs.toArray e (0,0))
theorem BX.new (w:World) (e:TypeId) (cs:Array Value):BX (w.alloc (.cells cs e)) w.heap.size e cs.toList:=by
 show (w.alloc (.cells cs e)).heap[w.heap.size]?=_
 rw [heap_alloc_new]
theorem BX.lt {w:World} {g:Nat} {e:TypeId} {cs:List Value} (h:BX w g e cs):g<w.heap.size:=by
 have h:w.heap[g]?=some (.cells cs.toArray e (0,0)):=h;exact (Array.getElem?_eq_some_iff.1 h).1
theorem BX.below {w wz:World} {g:Nat} {e:TypeId} {cs:List Value} (h:BX w g e cs) (hb:Below w.heap.size w wz):BX wz g e cs:=(hb.block g h.lt).trans h
theorem BX.set {w:World} {g:Nat} {e:TypeId} {cs:List Value} (h:BX w g e cs) (k:Nat) (v:Value):BX (w.setCell ⟨g,k,none⟩ v) g e (cs.set k v):=by
 have:=heap_setCell_same w g k cs.toArray e v h
 unfold BX;rw [this];simp
theorem BX.other {w:World} {g:Nat} {e:TypeId} {cs:List Value} (h:BX w g e cs) {g':Nat} (hne:g≠g') (k:Nat) (v:Value):BX (w.setCell ⟨g',k,none⟩ v) g e cs:=(Below.heap_setCell w ⟨g',k,none⟩ v g hne).trans h
theorem BX.cell {w:World} {g:Nat} {e:TypeId} {cs:List Value} (h:BX w g e cs) (k:Nat):w.cell? ⟨g,k,none⟩=cs[k]?:=by
 have h:w.heap[g]?=some (.cells cs.toArray e (0,0)):=h;simp [World.cell?,h]
theorem BX.frozen {w:World} {g:Nat} {e:TypeId} {cs:List Value} (h:BX w g e cs) (k:Nat):w.frozen? ⟨g,k,none⟩=false:=by
 have h:w.heap[g]?=some (.cells cs.toArray e (0,0)):=h;simp [World.frozen?,h]
theorem OS.jb {α:Type} {f:α→List Value} {sz:Nat} {e:TypeId} {w:World} {base g:Nat} {v:Value} {l:List α} (h:OS f sz e w base v l) (hg:g<base) (k:Nat) (x:Value):OS f sz e (w.setCell ⟨g,k,none⟩ x) base v l:=h.qW hg (aK w g k x)
theorem N9 (l:List Kx.Str) (u:Value) (r:Int) (w:World) (h:dK w u l) (Jd:l.length≤1048576):Calls Tryz.prog 103 #[.agg #[u,.int .i64 r]] w fun e w'=>∃ s:qj,e=.returned (.agg #[dM s,.int .i64 r])∧OS df 1 9 w' w.heap.size (dM s) l∧Below w.heap.size w w':=by
 obtain ⟨a,cap,rfl,_,_⟩:=RS.val h;obtain ⟨w0,hw0⟩:∃ w0,w.alloc (.cells #[.slice a l.length cap,.int .i64 r] 116)=w0:=⟨_,rfl⟩;obtain ⟨w1,hw1⟩:∃ w1,w0.alloc (.cells #[.slice none 0 0,.int .i64 0] 64)=w1:=⟨_,rfl⟩;obtain ⟨w2,hw2⟩:∃ w2,w1.alloc (.cells #[.slice none 0 0,.int .i64 0] 64)=w2:=⟨_,rfl⟩;have B0:=af (show Below w.heap.size w w0 from hw0 ▸ dm);have B1:=af (show Below w0.heap.size w0 w1 from hw1 ▸ dm);have B2:=af (show Below w1.heap.size w1 w2 from hw2 ▸ dm);have X0:=af (show BX w2 w.heap.size 116 [.slice a l.length cap,.int .i64 r] from ((hw0 ▸ BX.new w _ _:BX w0 _ _ _).below B1.out).below B2.out);have X1:=af (show BX w2 w0.heap.size 64 [.slice none 0 0,.int .i64 0] from (hw1 ▸ BX.new w0 _ _:BX w1 _ _ _).below B2.out);have X2:=af (show BX w2 w1.heap.size 64 [.slice none 0 0,.int .i64 0] from (hw2 ▸ BX.new w1 _ _:BX w2 _ _ _))
 have X5:=af (B0.out.trans ((B1.out.trans (B2.out.mono B1.out.size)).mono B0.out.size));have s0:w.heap.size<w0.heap.size:=by rw [←hw0];simp
 have s1:w0.heap.size<w1.heap.size:=by rw [←hw1];simp
 have s2:w1.heap.size<w2.heap.size:=by rw [←hw2];simp
 have HC:=af (EO l _ w2 (RS.below h X5.out) Jd);have e0:=X0.out.cell 0;clear h B0 B1 B2;go_enter Tryz.func103,Tryz.ntmps103
 -- RW
 go_wp2_with fail;refine HC.out.mono ?_;rintro e w3 ⟨u2,rfl,ho2,hb2⟩;obtain ⟨a2,c2,rfl,_,_⟩:=RS.val ho2.rs;have Y0:=af (X0.out.below hb2);have Y1:=af (X1.out.below hb2);have Y2:=af (X2.out.below hb2);have Ho:=af ho2;have Hb:=af (X5.out.trans (hb2.mono X5.out.size));have y01:w3.cell? ⟨w.heap.size,1,none⟩=some (.int .i64 r):=Y0.out.cell 1;have y10:w3.cell? ⟨w0.heap.size,0,none⟩=some (.slice none 0 0):=Y1.out.cell 0;have ZG:w3.cell? ⟨w0.heap.size,1,none⟩=some (.int .i64 0):=Y1.out.cell 1;have y20:w3.cell? ⟨w1.heap.size,0,none⟩=some (.slice none 0 0):=Y2.out.cell 0;have y21:w3.cell? ⟨w1.heap.size,1,none⟩=some (.int .i64 0):=Y2.out.cell 1;have g10:=Y1.out.frozen 0;have g11:=Y1.out.frozen 1;have g20:=Y2.out.frozen 0;have g21:=Y2.out.frozen 1;clear ho2 hb2 X0 X1 X2 HC e0;go_wp2_with fail
 have Z:=(((Y1.out.other (g':=w1.heap.size) (by omega) 0 (.slice a2 l.length c2)).other (g':=w1.heap.size) (by omega) 1 (.int .i64 r)).set 0 (.slice a2 l.length c2)).set 1 (.int .i64 r);have z0:=Z.cell 0;have z1:=Z.cell 1;refine bodyPost_ret (v:=.agg #[.slice a2 l.length c2,.int .i64 r]) (by simp [results,Tryz.results103,go_sem,z0,z1]) rfl ⟨⟨a2,l.length,c2⟩,rfl,?_,?_⟩
 ·exact ((((Ho.out.jb (by omega) _ _).jb (by omega) _ _).jb (by omega) _ _).jb (by omega) _ _).mono (by omega)
 exact (((Hb.out.setCell (p:=⟨w1.heap.size,0,none⟩) (by show w.heap.size≤w1.heap.size;omega) _).setCell (p:=⟨w1.heap.size,1,none⟩) (by show w.heap.size≤w1.heap.size;omega) _).setCell (p:=⟨w0.heap.size,0,none⟩) (by show w.heap.size≤w0.heap.size;omega) _).setCell (p:=⟨w0.heap.size,1,none⟩) (by show w.heap.size≤w0.heap.size;omega) _
def ME (w:World) (g:Nat) (m:List Kx.Env) (ss:List (qj×Int)) (k:Nat):Prop:=
 (∀ i (h:i<ss.length) (h':i<m.length),i<k→ss[i].2=m[i].root∧OS df 1 9 w (g+1) (dM ss[i].1) m[i].aB)∧∀ i j (h:i<ss.length) (h':j<ss.length),i<j→j<k→Sep (dM ss[j].1) (dM ss[i].1)
theorem ME.step {w w2 w3:World} {g:Nat} {m:List Kx.Env} {ss:List (qj×Int)} {k:Nat} (h:ME w g m ss k) (hb:Below w.heap.size w w2) (s:qj) (r:Int) (hk:k<ss.length) (hkm:k<m.length) (hr:r=m[k].root) (ho:OS df 1 9 w2 w.heap.size (dM s) m[k].aB) (hgw:g<w.heap.size) (hg:w2.grownBy w3 (some g)):ME w3 g m (ss.set k (s,r)) (k+1):=by
 obtain ⟨h1,h2⟩:=h;have ho':OS df 1 9 w2 (g+1) (dM s) m[k].aB:=ho.mono (by omega);refine ⟨fun i hi hi' hik=>?_,fun i j hi hj hij hjk=>?_⟩
 ·by_cases e:i=k
  ·subst e;rw [List.getElem_set_self];exact ⟨hr,ho'.qW (by omega) hg⟩
  rw [List.getElem_set_ne (Ne.symm e)];have:=h1 i (by simpa using hi) hi' (by omega);exact ⟨this.1,(this.2.below hb).qW (by omega) hg⟩
 have hi0:i<ss.length:=by simpa using hi
 have hj0:j<ss.length:=by simpa using hj
 by_cases e:j=k
 ·subst e;rw [List.getElem_set_self,List.getElem_set_ne (by omega)];have hA:=(h1 i hi0 (by omega) hij).2;exact Sep.later hA ho aW
 rw [List.getElem_set_ne (by omega),List.getElem_set_ne (by omega)];exact h2 i j hi0 hj0 hij (by omega)
theorem LX (l:List Kx.Env) (v:Value) (w:World) (h:uo w v l) (Jd:l.length≤1048576) (hlr:∀ x ∈ l,x.aB.length≤1048576):Calls Tryz.prog 45 #[v] w fun e w'=>∃ u,e=.returned u∧OE w' w.heap.size w'.heap.size u l∧Below w.heap.size w w':=by
 obtain ⟨_,a,cap,rfl,_,_⟩:=h.len;have H:=af h;clear h;have Hlr:=af hlr;clear hlr;obtain ⟨i0,hi,hz0,hz1,hz2⟩:=info_parts EN;have hc1:i0.bytes*l.length≤281474976710656:=by rw [hz2];omega
 have hc2:l.length≤maxLen:=by unfold maxLen;omega
 go_enter Tryz.func45,Tryz.ntmps45;go_wp2_with (at_make;refine wpList_make_full _ rfl _ _ 33 rfl w.heap.size 64 i0 (.agg #[.slice none 0 0,.int .i64 0]) 2 Tryz.underlying33 hi hz0 hz1 .i64 .i64 _ _ l.length rfl rfl rfl rfl hc1 hc2 aW ?_;intro w1 hown hgrow);have B1:=af (Below.lC hgrow);have O1:=af (show OS jG 2 64 w1 w.heap.size (.slice (some ⟨w.heap.size,0,none⟩) l.length l.length) (List.replicate l.length (⟨none,0,0⟩,0)) from ⟨by rw [←jM (f:=jG) (sz:=2) (fun _=>rfl) (by decide) (⟨none,0,0⟩,0) _ rfl l.length,List.length_replicate];exact hown,by simp;omega⟩);clear hi hz0 hz1 hz2 hgrow hown
 go_loopw [4] (fun i wr=>∃ (k:Nat) (ss:List (qj×Int)),i=.int .i64 k∧k≤l.length∧Hid (ss.length=l.length)∧Hid (OS jG 2 64 wr w.heap.size (.slice (some ⟨w.heap.size,0,none⟩) l.length l.length) ss)∧Hid (ME wr w.heap.size l ss k)∧Hid (Below w.heap.size w wr)∧Hid (w.heap.size<wr.heap.size∨l.length=0)) (fun i _=>l.length - (intOf i).toNat)
 case atStart =>
  refine ⟨0,List.replicate l.length (⟨none,0,0⟩,0),rfl,Nat.zero_le _,by simp [Hid],O1.out,⟨fun i h h' hk=>absurd hk (Nat.not_lt_zero _),fun i j h h' _ hk=>absurd hk (Nat.not_lt_zero _)⟩,B1.out,?_⟩
  by_cases h0:l.length=0
  ·exact .inr h0
  exact .inl ((O1.out.lt w.heap.size rfl).2)
 case round =>
  clear O1 B1;obtain ⟨k,ss,rfl,hk,hsl,ho,Jt,hb,hgw⟩:=hrel
  by_cases hlt:k<l.length
  ·obtain ⟨b,off,cap1,u,e,_,hx0,hx1,m_⟩:=(H.out.below hb.out).at hlt;rw [show Kx.au l k=l[k] from by simp [Kx.au,hlt]] at hx1 m_;simp only [Value.slice.injEq] at e;obtain ⟨rfl,_,rfl⟩:=e;have kQ:(k:Int)<(l.length:Int):=by omega
   have UC:=af (show w.heap.size<wr.heap.size by rcases hgw.out with h | h;exact h;omega)
   have HC:=af (N9 l[k].aB u l[k].root wr m_ (Hlr.out _ (List.getElem_mem hlt)));obtain ⟨a9,c9,rfl,_,_⟩:=RS.val m_;clear m_;generalize hrt:l[k].root=r at HC hx1;have MX:=af hrt;clear hrt;go_wp2_with fail;refine HC.out.mono ?_;rintro e w2 ⟨⟨a8,n8,c8⟩,rfl,ho2,hb2⟩;have l7:=af (ho.out.below hb2);have B2:=af (hb.out.trans (hb2.mono hb.out.size));obtain ⟨hst,hgr⟩:=l7.out.jy hsl.out k (⟨a8,n8,c8⟩,r) (by have:=hsl.out;omega);have uh:=af hst;have Vm:=af (Jt.out.step hb2 ⟨a8,n8,c8⟩ r (by have:=hsl.out;omega) hlt MX.out.symm ho2 UC.out hgr);have Vo:=af (show (ss.set k (⟨a8,n8,c8⟩,r)).length=l.length by rw [List.length_set];exact hsl.out);have N8:=af (show w.heap.size<(kP w2 w.heap.size (k*2) (jG (⟨a8,n8,c8⟩,r))).heap.size from Nat.lt_of_lt_of_le UC.out (Nat.le_trans hb2.size hgr.size))
   obtain ⟨⟨z0,hz0⟩,hf0⟩:=l7.out.bP k (by have:=hsl.out;omega) 0 (by decide);obtain ⟨⟨z1,hz1⟩,hf1⟩:=l7.out.bP k (by have:=hsl.out;omega) 1 (by decide);rw [Nat.add_zero] at hz0 hf0;clear hst hgr ho2 hb2 HC;unfold dM;go_wp2_with fail;go_roundw
   case rel=>exact ⟨k+1,_,by go_num,by omega,Vo.out,uh.out,Vm.out,iK aW (jG (⟨a8,n8,c8⟩,r)) (k*2) _ B2.out,.inl N8.out⟩
   case measure=>simp [intOf];omega
  have hkn:k=l.length:=by omega
  have HF:=af (show OE wr w.heap.size wr.heap.size (.slice (some ⟨w.heap.size,0,none⟩) l.length l.length) l from
   ⟨ss,hsl.out,⟨ho.out,ho.out.ub⟩,fun i h h'=>⟨(Jt.out.1 i h h' (by omega)).1,(Jt.out.1 i h h' (by omega)).2.mono (Nat.le_succ _),(Jt.out.1 i h h' (by omega)).2.ub,xA (Jt.out.1 i h h' (by omega)).2 rfl (Nat.lt_succ_self _)⟩,fun i j h h' hij=>Jt.out.2 i j h h' hij (by have:=hsl.out;omega)⟩)
  clear hkn;go_wp2_with fail;go_ret;exact ⟨_,rfl,HF.out,hb.out⟩
def OK (w:World) (base hi:Nat) (um ui ue uc:Value) (k:Kx.Kernel):Prop:=
 ∃ b1 b2 b3,(base≤b1∧b1≤b2∧b2≤b3∧b3≤hi)∧OM w base b1 um k.mem∧(OS bH 3 108 w b1 ui k.ag∧UB ui b2)∧OE w b2 b3 ue k.ah∧(OS b_ 4 112 w b3 uc k.cache∧UB uc hi)
theorem OK.rk {w:World} {base hi:Nat} {um ui ue uc:Value} {k:Kx.Kernel} (h:OK w base hi um ui ue uc k):RK w um ui ue uc k:=by
 obtain ⟨b1,b2,b3,_,h1,h2,h3,h4⟩:=h;exact ⟨h1.rm,h2.1.rs,h3.re,h4.1.rs⟩
theorem OK.below {w w':World} {base hi:Nat} {um ui ue uc:Value} {k:Kx.Kernel} (h:OK w base hi um ui ue uc k) (hb:Below w.heap.size w w'):OK w' base hi um ui ue uc k:=by
 obtain ⟨b1,b2,b3,h0,h1,h2,h3,h4⟩:=h;exact ⟨b1,b2,b3,h0,h1.below hb,⟨h2.1.below hb,h2.2⟩,h3.below hb,⟨h4.1.below hb,h4.2⟩⟩
theorem OK.jb {w:World} {base hi g:Nat} {um ui ue uc:Value} {k:Kx.Kernel} (h:OK w base hi um ui ue uc k) (hg:g<base) (o:Nat) (x:Value):OK (w.setCell ⟨g,o,none⟩ x) base hi um ui ue uc k:=by
 obtain ⟨b1,b2,b3,h0,h1,h2,h3,h4⟩:=h;exact ⟨b1,b2,b3,h0,h1.jb hg o x,⟨h2.1.jb (by omega) o x,h2.2⟩,h3.jb (by omega) o x,⟨h4.1.jb (by omega) o x,h4.2⟩⟩
theorem OK.mono {w:World} {base base' hi hi':Nat} {um ui ue uc:Value} {k:Kx.Kernel} (h:OK w base hi um ui ue uc k) (hb:base'≤base) (hh:hi≤hi'):OK w base' hi' um ui ue uc k:=by
 obtain ⟨b1,b2,b3,h0,h1,h2,h3,h4⟩:=h;exact ⟨b1,b2,b3,by omega,h1.mono hb aW,h2,h3,⟨h4.1,h4.2.mono hh⟩⟩
def OP (w:World) (base hi:Nat) (um ui ue uc us ul up:Value) (p:Kx.aH):Prop:=
 ∃ b1 b2 b3,(base≤b1∧b1≤b2∧b2≤b3∧b3≤hi)∧OK w base b1 um ui ue uc p.k∧OM w b1 b2 us p.swap∧(OI w b2 ul p.low∧UB ul b3)∧(OS jr 3 252 w b3 up p.pages∧UB up hi)
theorem OP.rp {w:World} {base hi:Nat} {um ui ue uc us ul up:Value} {p:Kx.aH} (h:OP w base hi um ui ue uc us ul up p):RP w um ui ue uc us ul up p:=by
 obtain ⟨b1,b2,b3,_,h1,h2,h3,h4⟩:=h;exact ⟨h1.rk,h2.rm,h3.1.ri,h4.1.rs⟩
theorem QR (k:Kx.Kernel) (vm vi ve vc:Value) (w:World) (h:RK w vm vi ve vc k) (h1:k.mem.length≤1048576) (h2:k.ag.length≤1048576) (h3:k.ah.length≤1048576) (h3':∀ x ∈ k.ah,x.aB.length≤1048576) (h4:k.cache.length≤1048576) :
  Calls Tryz.prog 11 #[.agg #[vm,vi,ve,vc]] w fun e w'=>∃ um ui ue uc,e=.returned (.agg #[um,ui,ue,uc])∧OK w' w.heap.size w'.heap.size um ui ue uc k∧Below w.heap.size w w':=by
 have H:=af h;have H3:=af h3';obtain ⟨_,am,cm,rfl,_,_⟩:=h.m.len;obtain ⟨ai,ci,rfl,_,_⟩:=RS.val h.i;obtain ⟨_,ae,ce,rfl,_,_⟩:=h.e.len;obtain ⟨ac,cc,rfl,_,_⟩:=RS.val h.c;clear h h3';obtain ⟨w0,hw0⟩:∃ w0,w.alloc (.cells #[.slice am k.mem.length cm,.slice ai k.ag.length ci,.slice ae k.ah.length ce,.slice ac k.cache.length cc] 27)=w0:=⟨_,rfl⟩;obtain ⟨w1,hw1⟩:∃ w1,w0.alloc (.cells #[.slice none 0 0,.slice none 0 0,.slice none 0 0,.slice none 0 0] 36)=w1:=⟨_,rfl⟩;obtain ⟨w2,hw2⟩:∃ w2,w1.alloc (.cells #[.slice none 0 0,.slice none 0 0,.slice none 0 0,.slice none 0 0] 36)=w2:=⟨_,rfl⟩;have B0:=af (show Below w.heap.size w w0 from hw0 ▸ dm);have B1:=af (show Below w0.heap.size w0 w1 from hw1 ▸ dm);have B2:=af (show Below w1.heap.size w1 w2 from hw2 ▸ dm)
 have X0:=af (show BX w2 w.heap.size 27 [.slice am k.mem.length cm,.slice ai k.ag.length ci,.slice ae k.ah.length ce,.slice ac k.cache.length cc] from ((hw0 ▸ BX.new w _ _:BX w0 _ _ _).below B1.out).below B2.out);have X1:=af (show BX w2 w0.heap.size 36 [.slice none 0 0,.slice none 0 0,.slice none 0 0,.slice none 0 0] from (hw1 ▸ BX.new w0 _ _:BX w1 _ _ _).below B2.out);have X2:=af (show BX w2 w1.heap.size 36 [.slice none 0 0,.slice none 0 0,.slice none 0 0,.slice none 0 0] from (hw2 ▸ BX.new w1 _ _:BX w2 _ _ _));have Bw:=af (B0.out.trans ((B1.out.trans (B2.out.mono B1.out.size)).mono B0.out.size));have s0:w.heap.size<w0.heap.size:=by rw [←hw0];simp
 have s1:w0.heap.size<w1.heap.size:=by rw [←hw1];simp
 have s2:w1.heap.size<w2.heap.size:=by rw [←hw2];simp
 clear B0 B1 B2;have HC:=af (Jf k.mem _ w2 (H.out.m.below Bw.out) h1);have p0:w2.cell? ⟨w.heap.size,0,none⟩=some (.slice am k.mem.length cm):=X0.out.cell 0;have p1:w2.cell? ⟨w.heap.size,1,none⟩=some (.slice ai k.ag.length ci):=X0.out.cell 1;have p2:w2.cell? ⟨w.heap.size,2,none⟩=some (.slice ae k.ah.length ce):=X0.out.cell 2;have p3:w2.cell? ⟨w.heap.size,3,none⟩=some (.slice ac k.cache.length cc):=X0.out.cell 3;go_enter Tryz.func11,Tryz.ntmps11;go_wp2_with fail;clear p0 p1 p2 p3;refine HC.out.mono ?_;rintro e w3 ⟨u0,rfl,ho,hb⟩;obtain ⟨_,a0,c0,rfl,_,_⟩:=ho.rm.len;have zw3:w2.heap.size≤w3.heap.size:=hb.size;replace X0:=af (X0.out.below hb);replace X1:=af (X1.out.below hb);replace X2:=af (X2.out.below hb);replace Bw:=af (Bw.out.trans (hb.mono Bw.out.size));have Q0:=af (ho );clear ho hb HC;have o0:w3.cell? ⟨w1.heap.size,0,none⟩=some (.slice none 0 0):=X2.out.cell 0
 have Zv:=X2.out.frozen 0;obtain ⟨w4,hw4⟩:∃ W,w3.setCell ⟨w1.heap.size,0,none⟩ (.slice a0 k.mem.length c0)=W:=⟨_,rfl⟩;replace X0:=af (hw4 ▸ (X0.out.other (g':=w1.heap.size) (by omega) 0 (.slice a0 k.mem.length c0)):BX w4 w.heap.size _ _);replace X1:=af (hw4 ▸ (X1.out.other (g':=w1.heap.size) (by omega) 0 (.slice a0 k.mem.length c0)):BX w4 w0.heap.size _ _);replace X2:=af (hw4 ▸ (X2.out.set 0 (.slice a0 k.mem.length c0)):BX w4 w1.heap.size _ _);replace Bw:=af (hw4 ▸ (Bw.out.setCell (p:=⟨w1.heap.size,0,none⟩) (show w.heap.size≤w1.heap.size by omega) (.slice a0 k.mem.length c0)):Below w.heap.size w w4);replace Q0:=af (hw4 ▸ (Q0.out.jb (g:=w1.heap.size) (by omega) 0 (.slice a0 k.mem.length c0)):OM w4 _ _ _ _);have zw4:w4.heap.size=w3.heap.size:=by rw [←hw4];simp [World.setCell]
 have p0:w4.cell? ⟨w.heap.size,0,none⟩=some (.slice am k.mem.length cm):=X0.out.cell 0;have p1:w4.cell? ⟨w.heap.size,1,none⟩=some (.slice ai k.ag.length ci):=X0.out.cell 1;have p2:w4.cell? ⟨w.heap.size,2,none⟩=some (.slice ae k.ah.length ce):=X0.out.cell 2;have p3:w4.cell? ⟨w.heap.size,3,none⟩=some (.slice ac k.cache.length cc):=X0.out.cell 3;have HC:=af (Je k.ag _ w4 (RS.below H.out.i Bw.out) h2);go_wp2_with fail;clear p0 p1 p2 p3 o0 Zv;refine HC.out.mono ?_;rintro e w5 ⟨u1,rfl,ho,hb⟩;obtain ⟨a1,c1,rfl,_,_⟩:=RS.val ho.rs;have zw5:w4.heap.size≤w5.heap.size:=hb.size;replace X0:=af (X0.out.below hb);replace X1:=af (X1.out.below hb);replace X2:=af (X2.out.below hb);replace Q0:=af (Q0.out.below hb);replace Bw:=af (Bw.out.trans (hb.mono Bw.out.size));have Q1:=af ((show OS bH 3 108 w5 _ _ k.ag from ho) );have U1:=af ho.ub;clear ho hb HC
 have o1:w5.cell? ⟨w1.heap.size,1,none⟩=some (.slice none 0 0):=X2.out.cell 1;have Zw:=X2.out.frozen 1;obtain ⟨w6,hw6⟩:∃ W,w5.setCell ⟨w1.heap.size,1,none⟩ (.slice a1 k.ag.length c1)=W:=⟨_,rfl⟩;replace X0:=af (hw6 ▸ (X0.out.other (g':=w1.heap.size) (by omega) 1 (.slice a1 k.ag.length c1)):BX w6 w.heap.size _ _);replace X1:=af (hw6 ▸ (X1.out.other (g':=w1.heap.size) (by omega) 1 (.slice a1 k.ag.length c1)):BX w6 w0.heap.size _ _);replace X2:=af (hw6 ▸ (X2.out.set 1 (.slice a1 k.ag.length c1)):BX w6 w1.heap.size _ _);replace Bw:=af (hw6 ▸ (Bw.out.setCell (p:=⟨w1.heap.size,1,none⟩) (show w.heap.size≤w1.heap.size by omega) (.slice a1 k.ag.length c1)):Below w.heap.size w w6);replace Q0:=af (hw6 ▸ (Q0.out.jb (g:=w1.heap.size) (by omega) 1 (.slice a1 k.ag.length c1)):OM w6 _ _ _ _)
 replace Q1:=af (hw6 ▸ (Q1.out.jb (g:=w1.heap.size) (by omega) 1 (.slice a1 k.ag.length c1)):OS bH 3 108 w6 _ _ _);have zw6:w6.heap.size=w5.heap.size:=by rw [←hw6];simp [World.setCell]
 have p0:w6.cell? ⟨w.heap.size,0,none⟩=some (.slice am k.mem.length cm):=X0.out.cell 0;have p1:w6.cell? ⟨w.heap.size,1,none⟩=some (.slice ai k.ag.length ci):=X0.out.cell 1;have p2:w6.cell? ⟨w.heap.size,2,none⟩=some (.slice ae k.ah.length ce):=X0.out.cell 2;have p3:w6.cell? ⟨w.heap.size,3,none⟩=some (.slice ac k.cache.length cc):=X0.out.cell 3;have HC:=af (LX k.ah _ w6 (H.out.e.below Bw.out) h3 H3.out);go_wp2_with fail;clear p0 p1 p2 p3 o1 Zw;refine HC.out.mono ?_;rintro e w7 ⟨u2,rfl,ho,hb⟩;obtain ⟨_,a2,c2,rfl,_,_⟩:=ho.re.len;have zw7:w6.heap.size≤w7.heap.size:=hb.size;replace X0:=af (X0.out.below hb);replace X1:=af (X1.out.below hb);replace X2:=af (X2.out.below hb);replace Q0:=af (Q0.out.below hb);replace Q1:=af (Q1.out.below hb);replace Bw:=af (Bw.out.trans (hb.mono Bw.out.size));have Q2:=af (ho );clear ho hb HC
 have o2:w7.cell? ⟨w1.heap.size,2,none⟩=some (.slice none 0 0):=X2.out.cell 2;have Zx:=X2.out.frozen 2;obtain ⟨w8,hw8⟩:∃ W,w7.setCell ⟨w1.heap.size,2,none⟩ (.slice a2 k.ah.length c2)=W:=⟨_,rfl⟩;replace X0:=af (hw8 ▸ (X0.out.other (g':=w1.heap.size) (by omega) 2 (.slice a2 k.ah.length c2)):BX w8 w.heap.size _ _);replace X1:=af (hw8 ▸ (X1.out.other (g':=w1.heap.size) (by omega) 2 (.slice a2 k.ah.length c2)):BX w8 w0.heap.size _ _);replace X2:=af (hw8 ▸ (X2.out.set 2 (.slice a2 k.ah.length c2)):BX w8 w1.heap.size _ _);replace Bw:=af (hw8 ▸ (Bw.out.setCell (p:=⟨w1.heap.size,2,none⟩) (show w.heap.size≤w1.heap.size by omega) (.slice a2 k.ah.length c2)):Below w.heap.size w w8);replace Q0:=af (hw8 ▸ (Q0.out.jb (g:=w1.heap.size) (by omega) 2 (.slice a2 k.ah.length c2)):OM w8 _ _ _ _)
 replace Q1:=af (hw8 ▸ (Q1.out.jb (g:=w1.heap.size) (by omega) 2 (.slice a2 k.ah.length c2)):OS bH 3 108 w8 _ _ _);replace Q2:=af (hw8 ▸ (Q2.out.jb (g:=w1.heap.size) (by omega) 2 (.slice a2 k.ah.length c2)):OE w8 _ _ _ _);have zw8:w8.heap.size=w7.heap.size:=by rw [←hw8];simp [World.setCell]
 have p0:w8.cell? ⟨w.heap.size,0,none⟩=some (.slice am k.mem.length cm):=X0.out.cell 0;have p1:w8.cell? ⟨w.heap.size,1,none⟩=some (.slice ai k.ag.length ci):=X0.out.cell 1;have p2:w8.cell? ⟨w.heap.size,2,none⟩=some (.slice ae k.ah.length ce):=X0.out.cell 2;have p3:w8.cell? ⟨w.heap.size,3,none⟩=some (.slice ac k.cache.length cc):=X0.out.cell 3;have HC:=af (EP k.cache _ w8 (RS.below H.out.c Bw.out) h4);go_wp2_with fail;clear p0 p1 p2 p3 o2 Zx;refine HC.out.mono ?_;rintro e w9 ⟨u3,rfl,ho,hb⟩;obtain ⟨a3,c3,rfl,_,_⟩:=RS.val ho.rs;have zw9:w8.heap.size≤w9.heap.size:=hb.size;replace X0:=af (X0.out.below hb);replace X1:=af (X1.out.below hb);replace X2:=af (X2.out.below hb);replace Q0:=af (Q0.out.below hb);replace Q1:=af (Q1.out.below hb);replace Q2:=af (Q2.out.below hb);replace Bw:=af (Bw.out.trans (hb.mono Bw.out.size))
 have Q3:=af ((show OS b_ 4 112 w9 _ _ k.cache from ho) );have U3:=af ho.ub;clear ho hb HC;have o3:w9.cell? ⟨w1.heap.size,3,none⟩=some (.slice none 0 0):=X2.out.cell 3;have fo3:=X2.out.frozen 3;have p0:w9.cell? ⟨w.heap.size,0,none⟩=some (.slice am k.mem.length cm):=X0.out.cell 0;have p1:w9.cell? ⟨w.heap.size,1,none⟩=some (.slice ai k.ag.length ci):=X0.out.cell 1;have p2:w9.cell? ⟨w.heap.size,2,none⟩=some (.slice ae k.ah.length ce):=X0.out.cell 2;have p3:w9.cell? ⟨w.heap.size,3,none⟩=some (.slice ac k.cache.length cc):=X0.out.cell 3;have r0:w9.cell? ⟨w0.heap.size,0,none⟩=some (.slice none 0 0):=X1.out.cell 0;have jh:=X1.out.frozen 0;have o0:w9.cell? ⟨w1.heap.size,0,none⟩=some (.slice a0 k.mem.length c0):=X2.out.cell 0;have Zv:=X2.out.frozen 0;have r1:w9.cell? ⟨w0.heap.size,1,none⟩=some (.slice none 0 0):=X1.out.cell 1;have ji:=X1.out.frozen 1
 have o1:w9.cell? ⟨w1.heap.size,1,none⟩=some (.slice a1 k.ag.length c1):=X2.out.cell 1;have Zw:=X2.out.frozen 1;have r2:w9.cell? ⟨w0.heap.size,2,none⟩=some (.slice none 0 0):=X1.out.cell 2;have jk:=X1.out.frozen 2;have o2:w9.cell? ⟨w1.heap.size,2,none⟩=some (.slice a2 k.ah.length c2):=X2.out.cell 2;have Zx:=X2.out.frozen 2;have r3:w9.cell? ⟨w0.heap.size,3,none⟩=some (.slice none 0 0):=X1.out.cell 3;have jl:=X1.out.frozen 3;go_wp2_with fail;have Z:=(((((X1.out.other (g':=w1.heap.size) (by omega) 3 (.slice a3 k.cache.length c3)).set 0 (.slice a0 k.mem.length c0)).set 1 (.slice a1 k.ag.length c1)).set 2 (.slice a2 k.ah.length c2)).set 3 (.slice a3 k.cache.length c3));have e0:=Z.cell 0;have e1:=Z.cell 1;have e2:=Z.cell 2;have e3:=Z.cell 3
 have BF:=af (((((Bw.out.setCell (p:=⟨w1.heap.size,3,none⟩) (show w.heap.size≤w1.heap.size by omega) (.slice a3 k.cache.length c3)).setCell (p:=⟨w0.heap.size,0,none⟩) (show w.heap.size≤w0.heap.size by omega) (.slice a0 k.mem.length c0)).setCell (p:=⟨w0.heap.size,1,none⟩) (show w.heap.size≤w0.heap.size by omega) (.slice a1 k.ag.length c1)).setCell (p:=⟨w0.heap.size,2,none⟩) (show w.heap.size≤w0.heap.size by omega) (.slice a2 k.ah.length c2)).setCell (p:=⟨w0.heap.size,3,none⟩) (show w.heap.size≤w0.heap.size by omega) (.slice a3 k.cache.length c3))
 have F0:=af (((((Q0.out.jb (g:=w1.heap.size) (by omega) 3 (.slice a3 k.cache.length c3)).jb (g:=w0.heap.size) (by omega) 0 (.slice a0 k.mem.length c0)).jb (g:=w0.heap.size) (by omega) 1 (.slice a1 k.ag.length c1)).jb (g:=w0.heap.size) (by omega) 2 (.slice a2 k.ah.length c2)).jb (g:=w0.heap.size) (by omega) 3 (.slice a3 k.cache.length c3));have F1:=af (((((Q1.out.jb (g:=w1.heap.size) (by omega) 3 (.slice a3 k.cache.length c3)).jb (g:=w0.heap.size) (by omega) 0 (.slice a0 k.mem.length c0)).jb (g:=w0.heap.size) (by omega) 1 (.slice a1 k.ag.length c1)).jb (g:=w0.heap.size) (by omega) 2 (.slice a2 k.ah.length c2)).jb (g:=w0.heap.size) (by omega) 3 (.slice a3 k.cache.length c3))
 have F2:=af (((((Q2.out.jb (g:=w1.heap.size) (by omega) 3 (.slice a3 k.cache.length c3)).jb (g:=w0.heap.size) (by omega) 0 (.slice a0 k.mem.length c0)).jb (g:=w0.heap.size) (by omega) 1 (.slice a1 k.ag.length c1)).jb (g:=w0.heap.size) (by omega) 2 (.slice a2 k.ah.length c2)).jb (g:=w0.heap.size) (by omega) 3 (.slice a3 k.cache.length c3));have F3:=af (((((Q3.out.jb (g:=w1.heap.size) (by omega) 3 (.slice a3 k.cache.length c3)).jb (g:=w0.heap.size) (by omega) 0 (.slice a0 k.mem.length c0)).jb (g:=w0.heap.size) (by omega) 1 (.slice a1 k.ag.length c1)).jb (g:=w0.heap.size) (by omega) 2 (.slice a2 k.ah.length c2)).jb (g:=w0.heap.size) (by omega) 3 (.slice a3 k.cache.length c3))
 refine bodyPost_ret (v:=.agg #[.slice a0 k.mem.length c0,.slice a1 k.ag.length c1,.slice a2 k.ah.length c2,.slice a3 k.cache.length c3]) (by simp [results,Tryz.results11,go_sem,e0,e1,e2,e3]) rfl ?_;exact ⟨_,_,_,_,rfl,⟨w4.heap.size,w6.heap.size,w8.heap.size,⟨by omega,by omega,by omega,by simp [World.setCell];omega⟩,F0.out.mono (by omega) (by omega),⟨F1.out,U1.out.mono (by omega)⟩,F2.out.mono (by omega) (by omega),⟨F3.out,U3.out.mono (by simp [World.setCell])⟩⟩,BF.out⟩
theorem qH:TI 32 108 (.agg #[.int .i64 0,.string ⟨#[]⟩,.int .i64 0]) 3:=TI.mk Tryz.underlying32 Bj (by decide) rfl
theorem gB:TI 34 112 (.agg #[.int .i64 0,.int .i64 0,.int .i64 0,.bool false]) 4:=TI.mk Tryz.underlying34 xy (by decide) rfl
theorem OJ:TI 33 64 (.agg #[.slice none 0 0,.int .i64 0]) 2:=TI.mk Tryz.underlying33 EN (by decide) rfl
theorem gX:TI 62 9 (.string ⟨#[]⟩) 1:=TI.mk Tryz.underlying62 EM (by decide) rfl
theorem Kt:TI 22 47 (.slice none 0 0) 1:=TI.mk Tryz.underlying22 Bo (by decide) rfl
def uX (l:List Kx.aG):Int:=match Kx.free l with | some i=>(i:Int) | none=>-1
theorem LY {l:List Kx.aG} {k:Nat} (hk:k<l.length) (h:l[k].kind=0) (hall:∀ j (hj:j<l.length),j<k→l[j].kind≠0):Kx.free l=some k:=by
 unfold Kx.free;rw [List.findIdx?_eq_some_iff_getElem];exact ⟨hk,by simpa using h,fun j hj=>by simpa using hall j (by omega) hj⟩
theorem Jg {l:List Kx.aG} (hall:∀ j (hj:j<l.length),l[j].kind≠0):Kx.free l=none:=by
 unfold Kx.free;rw [List.findIdx?_eq_none_iff];intro x hx;obtain ⟨j,hj,rfl⟩:=List.getElem_of_mem hx;simpa using hall j hj
theorem Bq (l:List Kx.aG) (v:Value) (w:World) (h:bV w v l):Calls Tryz.prog 209 #[v] w fun e w'=>e=.returned (.int .i64 (uX l))∧w=w':=by
 obtain ⟨a,cap,rfl,_,_⟩:=RS.val h;have hl:=h.1;have H:=af h;clear h;go_enter Tryz.func209,Tryz.ntmps209;go_wp2_with fail;go_loop [3] (fun i=>∃ k:Nat,i=.int .i64 k∧k≤l.length∧Hid (∀ j (hj:j<l.length),j<k→l[j].kind≠0)) (fun i=>l.length - (intOf i).toNat)
 case atStart=>exact ⟨0,rfl,Nat.zero_le _,fun j _ hj=>absurd hj (Nat.not_lt_zero _)⟩
 case round =>
  obtain ⟨k,rfl,hk,hall⟩:=hrel
  by_cases hlt:k<l.length
  ·have kQ:(k:Int)<(l.length:Int):=by omega
   obtain ⟨b,off,cap',ev,_,hc⟩:=RS.at H.out hlt;simp only [Value.slice.injEq] at ev;obtain ⟨rfl,_,rfl⟩:=ev;have g0:=hc 0 _ rfl;rw [Nat.add_zero] at g0;clear hc;have BC:=af (show l[k].kind=0→uX l=k from fun h=>by unfold uX;rw [LY hlt h hall.out]);have ET:=af (show l[k].kind≠0→∀ j (hj:j<l.length),j<k+1→l[j].kind≠0 from fun h j hj hjk=>by
    by_cases ej:j=k
    ·subst ej;exact h
    exact hall.out j hj (by omega))
   generalize l[k].kind=x at g0 BC ET
   by_cases hx:x=0
   ·have HF:=af (BC.out hx);subst hx;clear BC ET;go_wp2_with fail;go_ret;exact ⟨aZ HF.out.symm,rfl⟩
   have HM:=af (ET.out hx);have hxb:(x==0)=false:=by simpa using hx
   clear hx BC ET;go_wp2_with fail;go_round
   case rel=>exact ⟨k+1,by go_num,by omega,HM.out⟩
   case measure=>simp [intOf];omega
  have HF:=af (show uX l=-1 by unfold uX;rw [Jg fun j hj=>hall.out j hj (by omega)])
  go_wp2_with fail;go_ret;exact ⟨aZ HF.out.symm,rfl⟩
theorem qE (k:Kx.Kernel) (e:Nat) (g:Kx.Str) (vm vi ve vc:Value) (w:World) (h:uo w ve k.ah) (he:e<k.ah.length):Calls Tryz.prog 208 #[.agg #[vm,vi,ve,vc],.int .i64 e,.string g] w fun en w'=>en=.returned (.bool (Kx.jQ k e g))∧Below w.heap.size w w':=by
 obtain ⟨w0,hw0⟩:∃ w0,w.alloc (.cells #[vm,vi,ve,vc] 36)=w0:=⟨_,rfl⟩;have Bw:=af (show Below w.heap.size w w0 from hw0 ▸ dm);have X0:=af (show BX w0 w.heap.size 36 [vm,vi,ve,vc] from hw0 ▸ BX.new w _ _);obtain ⟨b,off,cap1,u,rfl,hbl,g0,_,hr⟩:=(h.below Bw.out).at he;have HC:=af (mO (Kx.au k.ah e).aB g u w0 hr);have Hm:=af (show Kx.jQ k e g=Kx.may (Kx.au k.ah e).aB g from rfl);obtain ⟨a9,c9,rfl,_,_⟩:=RS.val hr;have PG:(e:Int)<(k.ah.length:Int):=by omega
 have p2:w0.cell? ⟨w.heap.size,2,none⟩=some (.slice (some ⟨b,off,none⟩) k.ah.length cap1):=X0.out.cell 2;clear h hr X0;go_enter Tryz.func208,Tryz.ntmps208;go_wp2_with fail;refine HC.out.mono ?_;rintro en w2 ⟨rfl,rfl⟩;go_wp2_with fail;go_ret;exact ⟨ak Hm.out.symm,Bw.out⟩
theorem DF (c:List Kx.Cached) (e:Int) (v:Value) (w:World) (h:dZ w v c):Calls Tryz.prog 216 #[v,.int .i64 e] w (yu b_ 4 112 w (Kx.fP c e)):=by
 obtain ⟨a,cap,rfl,_,_⟩:=RS.val h;have hl:=h.1;have H:=af (show dZ w _ c from h);clear h;go_enter Tryz.func216,Tryz.ntmps216;go_wp2_with fail;go_loopw [5,6] (fun out i wr=>∃ k:Nat,i=.int .i64 k∧k≤c.length∧Hid (OS b_ 4 112 wr w.heap.size out (Kx.fP (c.take k) e))∧Hid (Below w.heap.size w wr)) (fun _ i _=>c.length - (intOf i).toNat)
 case atStart=>exact ⟨0,rfl,Nat.zero_le _,OS.d_ aW,fZ.alloc aW _⟩
 case round =>
  obtain ⟨k,rfl,hk,ho,hb⟩:=hrel
  by_cases hlt:k<c.length
  ·have kQ:(k:Int)<(c.length:Int):=by omega
   obtain ⟨b,off,cap',ev,hbl,hc⟩:=RS.at (RS.below H.out hb.out) (k:=k) hlt;simp only [Value.slice.injEq] at ev;obtain ⟨rfl,_,rfl⟩:=ev;have htk:c.take (k+1)=c.take k ++ [c[k]]:=by rw [List.take_succ_eq_append_getElem hlt]
   generalize c[k]=x at hc htk;have g0:=hc 0 _ rfl;have g1:=hc 1 _ rfl;have g2:=hc 2 _ rfl;have g3:=hc 3 _ rfl;rw [Nat.add_zero] at g0;have Ht:=af (show Kx.fP (c.take (k+1)) e=Kx.fP (c.take k) e ++ Kx.fP [x] e by rw [htk];simp [Kx.fP]);have Hlen:=af (show (Kx.fP (c.take k) e).length≤k from Nat.le_trans (List.length_filter_le _ _) (List.length_take_le _ _));clear hc htk hbl
   by_cases hx:x.env=e
   ·have Hx:=af (show Kx.fP [x] e=[] by simp [Kx.fP,hx]);have hxb:(x.env != e)=false:=by simpa using hx
    clear hx;go_wp2_with fail;go_roundw
    case rel=>exact ⟨k+1,by go_num,by omega,by show OS _ _ _ _ _ _ _;rw [Ht.out,Hx.out,List.append_nil];exact ho.out,hb.out⟩
    case measure=>simp [intOf];omega
   have Hx:=af (show Kx.fP [x] e=[x] by simp [Kx.fP,hx]);have hxb:(x.env != e)=true:=by simpa using hx
   have hsz:=af hb.out.size;have hxl:=af (show (Kx.fP (c.take k) e).length+1≤1099511627776 by have:=Hlen.out;omega);clear hx;go_wp2_with (at_builtin;refine aV gB rfl _ _ rfl w.heap.size _ (Kx.fP (c.take k) e) rfl (ho.out.alloc _) _ [x] rfl (RS.one x #[.int .i64 x.env,.int .i64 x.page,.int .i64 x.frame,.bool x.write] rfl _ _) hxl.out (by simp;exact Nat.le_succ_of_le hsz.out) ?_;intro v' w3 ho3 hg3 _;have jJ:=af ho3;have ql:=af hg3;clear ho3 hg3);go_roundw
   case rel =>
    refine ⟨k+1,by go_num,by omega,?_,?_⟩
    ·show OS _ _ _ _ _ _ _;rw [Ht.out,Hx.out];exact jJ.out
    exact Below.dN (hb.out.alloc hb.out.size _) (ho.out.alloc _) ql.out aW (by simp;exact Nat.le_succ_of_le hsz.out)
   case measure=>simp [intOf];omega
  have hkn:k=c.length:=by omega
  subst hkn;go_wp2_with fail;go_ret;exact ⟨_,rfl,by have:=ho.out;rw [List.take_length] at this;exact this,hb.out⟩
theorem OS.shape {α:Type} {f:α→List Value} {sz:Nat} {e:TypeId} {w:World} {base:Nat} {v:Value} {l:List α} (h:OS f sz e w base v l) (hl:0<l.length):∃ g cap,v=.slice (some ⟨g,0,none⟩) l.length cap∧base≤g∧g<w.heap.size:=by
 rcases h.1.2 with ⟨_,h0⟩ | ⟨g,cap,cur,e1,hb,hg,_⟩
 ·omega
 exact ⟨g,cap,e1,hb,(Array.getElem?_eq_some_iff.1 hg).1⟩
theorem zD {l:List Kx.aG} {f:Nat} (h:Kx.free l=some f):f<l.length∧uX l=f:=by
 refine ⟨?_,by unfold uX;rw [h]⟩;unfold Kx.free at h;rw [List.findIdx?_eq_some_iff_getElem] at h;exact h.1
def yH {α:Type} (f:α→List Value) (sz:Nat) (t:TypeId) (w:World) (l:List α) (more:List Value) (e:Ending) (w':World):Prop:=∃ u,e=.returned (.tuple (u :: more).toArray)∧OS f sz t w' w.heap.size u l∧Below w.heap.size w w'
theorem xI (l:List Kx.aG) (s:Kx.Str) (f:Nat) (v:Value) (w:World) (h:bV w v l) (hs:jo l) (hv:Kx.bC l=true) (hr:Kx.bT s=true) (hss:s.size≤9223372036854775807) (hf:Kx.free l=some f) (hl12:l.length=12) :
  Calls Tryz.prog 210 #[v,.string s] w (yH bH 3 108 w (l.set f ⟨1,s,0⟩) [.int .i64 f,.bool true]):=by
 obtain ⟨hfl,hfi⟩:=zD hf;obtain ⟨a,cap,rfl,_,_⟩:=RS.val h;have H:=af h;have Zy:=af (Bq l _ w h);have HC2:=af (dX l _ w h hs);have TG:=af (fun W=>bY s W hss);have Hfi:=af hfi;have Hv:=af hv;have Hr:=af hr;have Hl:=af hl12;have zW:=af (show f<12 by omega);clear h hs hv hr hss hf hfi hfl;clear hl12;go_enter Tryz.func210,Tryz.ntmps210;go_wp2_with fail;refine Zy.out.mono ?_;rintro e w1 ⟨rfl,rfl⟩;rw [Hfi.out];go_wp2_with fail;refine HC2.out.mono ?_;rintro e w2 ⟨rfl,hb⟩;rw [Hv.out];have B2:=af hb;clear hb;go_wp2_with fail;refine (TG.out w2).mono ?_;rintro e w3 ⟨rfl,rfl⟩;rw [Hr.out];have H2:=af (show RS bH 3 (w2.alloc (.cells #[] 108)) (.slice a l.length cap) l from (RS.below H.out B2.out).below (dm))
 have O1:=af (show OS bH 3 108 (w2.alloc (.cells #[] 108)) w2.heap.size (.slice (some ⟨w2.heap.size,0,none⟩) 0 0) [] from OS.d_ aW);have hx1:=af (show ([]:List Kx.aG).length+l.length≤1099511627776 by rw [Hl.out];decide);go_wp2_with (at_builtin;refine aV qH rfl _ _ rfl w2.heap.size _ [] rfl O1.out _ l rfl H2.out hx1.out (by simp) ?_;intro v' w4 iV hg4 hx4;clear hx4;have kH:=af (show OS bH 3 108 w4 w2.heap.size v' l from iV);have rU:=af (show (w2.alloc (.cells #[] 108)).grownBy w4 (some w2.heap.size) from hg4);clear iV hg4);have B4:=af (Below.dN (B2.out.alloc B2.out.size (.cells #[] 108)) O1.out rU.out B2.out.size (by simp;exact Nat.le_succ_of_le B2.out.size));obtain ⟨g,cap4,rfl,hg1,hg2⟩:=kH.out.shape (by rw [Hl.out];decide);have hgw:w.heap.size≤g:=Nat.le_trans B2.out.size hg1
 obtain ⟨hst,hgr⟩:=kH.out.jy rfl f ⟨1,s,0⟩ (by rw [Hl.out];exact zW.out);have uh:=af hst;obtain ⟨⟨z0,hz0⟩,hf0⟩:=kH.out.bP f (by rw [Hl.out];exact zW.out) 0 (by decide);obtain ⟨⟨z1,hz1⟩,hf1⟩:=kH.out.bP f (by rw [Hl.out];exact zW.out) 1 (by decide);obtain ⟨⟨z2,hz2⟩,hf2⟩:=kH.out.bP f (by rw [Hl.out];exact zW.out) 2 (by decide);rw [Nat.add_zero] at hz0 hf0;have wJ:(f:Int)<(l.length:Int):=by have:=zW.out;have:=Hl.out;omega
 have Hb5:=af (iK hgw (bH ⟨1,s,0⟩) (f*3) _ B4.out);clear hst hgr H2 O1 hx1 Zy HC2 TG hg1 hg2 hgw;go_wp2_with fail;go_simp;go_wp2_with fail;go_ret3;refine ⟨_,rfl,?_,Hb5.out⟩;exact uh.out.mono B2.out.size
theorem wH (l:List Kx.aG) (f:Nat) (v:Value) (w:World) (h:bV w v l) (hs:jo l) (hv:Kx.bC l=true) (hf:f<12) (hl12:l.length=12) (hk:(Kx.inf l f).kind=1) (hr:0<(Kx.inf l f).refs) :
  Calls Tryz.prog 212 #[v,.int .i64 f] w fun e w'=>(∃ u,e=.returned (.tuple #[u,.bool false]))∧Below w.heap.size w w':=by
 have HC2:=af (dX l _ w h hs);have Hv:=af hv;have jR:=af (show Kx.bK f 0 11=true by rw [Kx.ay];omega);have hlt:f<l.length:=by omega
 have H:=af h;have wJ:(f:Int)<(l.length:Int):=by omega
 have hre:decide ((Kx.inf l f).refs > 0)=true:=by simpa using hr
 obtain ⟨b,off,cap,rfl,hbl,c0,_,c2⟩:=bV.at h hlt;have ND:=af hbl;rw [hk] at c0;generalize (Kx.inf l f).refs=r at c2 hre;clear h hs hv hf hl12 hk hr hbl;go_enter Tryz.func212,Tryz.ntmps212;go_wp2_with fail;refine HC2.out.mono ?_;rintro e w2 ⟨rfl,hb⟩;rw [Hv.out];have B2:=af hb;clear hb;have d0:=(B2.out.cell (p:=⟨b,off+f*3,none⟩) ND.out).trans c0;have d2:=(B2.out.cell (p:=⟨b,off+f*3+2,none⟩) ND.out).trans c2;clear c0 c2;go_wp2_with fail;refine (dI _ _).mono ?_;rintro e w3 ⟨rfl,rfl⟩;rw [jR.out];go_wp2_with fail;go_ret2;exact ⟨⟨_,rfl⟩,B2.out.alloc B2.out.size _⟩
theorem xJ (l:List Kx.aG) (f:Nat) (v:Value) (w:World) (h:bV w v l) (hs:jo l) (hv:Kx.bC l=true) (hf:f<12) (hl12:l.length=12) (hk:(Kx.inf l f).kind=1) (hr:¬ 0<(Kx.inf l f).refs) :
  Calls Tryz.prog 212 #[v,.int .i64 f] w (yH bH 3 108 w (l.set f Kx.aG.zero) [.bool true]):=by
 have HC2:=af (dX l _ w h hs);have Hv:=af hv;have jR:=af (show Kx.bK f 0 11=true by rw [Kx.ay];omega);have hlt:f<l.length:=by omega
 have H:=af h;have Hl:=af hl12;have Js:=af hlt;have wJ:(f:Int)<(l.length:Int):=by omega
 have hre:decide ((Kx.inf l f).refs > 0)=false:=by simpa using hr
 obtain ⟨b,off,cap,rfl,hbl,c0,_,c2⟩:=bV.at h hlt;have ND:=af hbl;rw [hk] at c0;generalize (Kx.inf l f).refs=r at c2 hre;clear h hs hv hf hl12 hk hr hbl hlt;go_enter Tryz.func212,Tryz.ntmps212;go_wp2_with fail;refine HC2.out.mono ?_;rintro e w2 ⟨rfl,hb⟩;rw [Hv.out];have B2:=af hb;clear hb;have d0:=(B2.out.cell (p:=⟨b,off+f*3,none⟩) ND.out).trans c0;have d2:=(B2.out.cell (p:=⟨b,off+f*3+2,none⟩) ND.out).trans c2;clear c0 c2;go_wp2_with fail;refine (dI _ _).mono ?_;rintro e w3 ⟨rfl,rfl⟩;rw [jR.out];have H2:=af (show RS bH 3 (w2.alloc (.cells #[] 108)) (.slice (some ⟨b,off,none⟩) l.length cap) l from (RS.below H.out B2.out).below (dm));have O1:=af (show OS bH 3 108 (w2.alloc (.cells #[] 108)) w2.heap.size (.slice (some ⟨w2.heap.size,0,none⟩) 0 0) [] from OS.d_ aW);have hx1:=af (show ([]:List Kx.aG).length+l.length≤1099511627776 by rw [Hl.out];decide)
 go_wp2_with (at_builtin;refine aV qH rfl _ _ rfl w2.heap.size _ [] rfl O1.out _ l rfl H2.out hx1.out (by simp) ?_;intro v' w4 iV hg4 hx4;clear hx4;have kH:=af (show OS bH 3 108 w4 w2.heap.size v' l from iV);have rU:=af (show (w2.alloc (.cells #[] 108)).grownBy w4 (some w2.heap.size) from hg4);clear iV hg4);have B4:=af (Below.dN (B2.out.alloc B2.out.size (.cells #[] 108)) O1.out rU.out B2.out.size (by simp;exact Nat.le_succ_of_le B2.out.size));obtain ⟨g,cap4,rfl,hg1,hg2⟩:=kH.out.shape (by rw [Hl.out];decide);have hgw:w.heap.size≤g:=Nat.le_trans B2.out.size hg1;obtain ⟨hst,hgr⟩:=kH.out.jy rfl f Kx.aG.zero Js.out;have uh:=af hst;obtain ⟨⟨z0,hz0⟩,hf0⟩:=kH.out.bP f Js.out 0 (by decide);obtain ⟨⟨z1,hz1⟩,hf1⟩:=kH.out.bP f Js.out 1 (by decide);obtain ⟨⟨z2,hz2⟩,hf2⟩:=kH.out.bP f Js.out 2 (by decide);rw [Nat.add_zero] at hz0 hf0
 have Hb5:=af (iK hgw (bH Kx.aG.zero) (f*3) _ B4.out);clear hst hgr H2 O1 hx1 HC2 hg1 hg2 hgw d0 d2;go_wp2_with fail;go_simp;go_wp2_with fail;go_ret2;exact ⟨_,rfl,uh.out.mono B2.out.size,Hb5.out⟩
def dW (c:Kx.Call):Value:=.agg #[.int .i64 c.kind,.int .i64 c.env,.int .i64 c.a,.int .i64 c.b,.int .i64 c.c,.string c.name]
theorem sZ (k:Kx.Kernel) (c:Kx.Call) (e:Nat) (kind:Int) (vm vi ve vc:Value) (w:World) (h:RK w vm vi ve vc k) (h12:k.ag.length=12) (h3:k.ah.length=3) (hce:c.env=e) (he:e<3) (hk:kind=1∨kind=0) :
  Calls Tryz.prog 211 #[.agg #[vm,vi,ve,vc],dW c,.int .i64 kind] w fun en w'=>en=.returned (.int .i64 (Kx.aO k c kind))∧Below w.heap.size w w':=by
 obtain ⟨bQ,JF,a,cb,cc,bg⟩:=c;simp only at hce;subst hce;obtain ⟨w0,hw0⟩:∃ w0,w.alloc (.cells #[vm,vi,ve,vc] 36)=w0:=⟨_,rfl⟩;obtain ⟨w1,hw1⟩:∃ w1,w0.alloc (.cells #[.int .i64 bQ,.int .i64 (e:Int),.int .i64 a,.int .i64 cb,.int .i64 cc,.string bg] 40)=w1:=⟨_,rfl⟩;have B0:=af (show Below w.heap.size w w0 from hw0 ▸ dm);have B1:=af (show Below w0.heap.size w0 w1 from hw1 ▸ dm);have X0:=af (show BX w1 w.heap.size 36 [vm,vi,ve,vc] from (hw0 ▸ BX.new w _ _:BX w0 _ _ _).below B1.out);have X1:=af (show BX w1 w0.heap.size 40 [.int .i64 bQ,.int .i64 (e:Int),.int .i64 a,.int .i64 cb,.int .i64 cc,.string bg] from (hw1 ▸ BX.new w0 _ _:BX w1 _ _ _));have Bw:=af (B0.out.trans (B1.out.mono B0.out.size));have HV:=af (show Kx.aO k ⟨bQ,e,a,cb,cc,bg⟩ kind=(if !Kx.bK a 0 11||(Kx.inf k.ag a.toNat).kind==0 then 3
  else if !Kx.jQ k (e:Int) (Kx.inf k.ag a.toNat).guard then 1
  else if 0<kind∧(Kx.inf k.ag a.toNat).kind≠kind∨kind=0∧Kx.aX (Kx.inf k.ag a.toNat).kind=false then 3
  else 0) from rfl)
 have HM:=af (fun W (hW:Below w.heap.size w W) g=>qE k e g vm vi ve vc W (h.e.below hW) (by omega))
 have H:=af h;obtain ⟨ai,ci,rfl,_,_⟩:=RS.val h.i;have fJ:=af h12;unfold dW;have p1:w1.cell? ⟨w.heap.size,1,none⟩=some (.slice ai k.ag.length ci):=X0.out.cell 1;have p2:w1.cell? ⟨w0.heap.size,2,none⟩=some (.int .i64 a):=X1.out.cell 2;have p3:w1.cell? ⟨w0.heap.size,1,none⟩=some (.int .i64 (e:Int)):=X1.out.cell 1;clear h12 h3 he B0 B1
 cases hin:Kx.bK a 0 11 with
 | false =>
  have HF:=af (show Kx.aO k ⟨bQ,e,a,cb,cc,bg⟩ kind=3 by rw [HV.out,hin];rfl);have jR:=af hin;clear hin HV hk h;go_enter Tryz.func211,Tryz.ntmps211;go_wp2_with fail;refine (dI _ _).mono ?_;rintro en w2 ⟨rfl,rfl⟩;rw [jR.out];go_wp2_with fail;go_ret;exact ⟨aZ HF.out.symm,Bw.out⟩
 | true =>
  obtain ⟨a0,a11⟩:=Kx.ay.1 hin;obtain ⟨f,rfl⟩:=Int.eq_ofNat_of_zero_le a0;have hfl:f<k.ag.length:=by have:=fJ.out;omega
  have wJ:(f:Int)<(k.ag.length:Int):=by omega
  obtain ⟨bi,oi,ci',ev,hbl,d0,d1,_⟩:=bV.at h.i hfl;simp only [Value.slice.injEq] at ev;obtain ⟨rfl,_,rfl⟩:=ev;have jR:=af hin;rw [show ((f:Int)).toNat=f from rfl,hin] at HV;generalize Kx.inf k.ag f=y at d0 d1 HV;have HM:=af (fun W (hW:Below w.heap.size w W)=>HM.out W hW y.guard)
  have ik:=af (show ∀ wz,Below w1.heap.size w1 wz→(wz.cell? ⟨w.heap.size,0,none⟩=some (vm)∧wz.cell? ⟨w.heap.size,1,none⟩=some (.slice (some ⟨bi,oi,none⟩) k.ag.length ci)∧wz.cell? ⟨w.heap.size,2,none⟩=some (ve)∧wz.cell? ⟨w.heap.size,3,none⟩=some (vc)∧wz.cell? ⟨w0.heap.size,1,none⟩=some (.int .i64 e)∧wz.cell? ⟨w0.heap.size,2,none⟩=some (.int .i64 f)∧wz.cell? ⟨bi,oi+f*3,none⟩=some (.int .i64 y.kind)∧wz.cell? ⟨bi,oi+f*3+1,none⟩=some (.string y.guard)) from fun wz hz=>by
   have Vp:=X0.out.below hz;have Zz:=X1.out.below hz;have hz2:=Bw.out.trans (hz.mono Bw.out.size);exact ⟨Vp.cell 0,Vp.cell 1,Vp.cell 2,Vp.cell 3,Zz.cell 1,Zz.cell 2,(hz2.cell (p:=⟨bi,oi+f*3,none⟩) hbl).trans d0,(hz2.cell (p:=⟨bi,oi+f*3+1,none⟩) hbl).trans d1⟩)
  have S0:=ik.out w1 fZ;obtain ⟨s0,s1,s2,s3,s4,s5,s6,s7⟩:=S0;clear hin h a0 a11 hbl d0 d1 p1 p2 p3 X0 X1
  by_cases hk0:y.kind=0
  ·have HF:=af (show Kx.aO k ⟨bQ,e,f,cb,cc,bg⟩ kind=3 by rw [HV.out,hk0];rfl);rw [hk0] at s6;clear hk0 HV hk;go_enter Tryz.func211,Tryz.ntmps211;go_wp2_with fail;refine (dI _ _).mono ?_;rintro en w2 ⟨rfl,rfl⟩;rw [jR.out];go_wp2_with fail;go_ret;exact ⟨aZ HF.out.symm,Bw.out⟩
  have hkb:(y.kind==0)=false:=by simpa using hk0
  have HV:=af (show Kx.aO k ⟨bQ,e,f,cb,cc,bg⟩ kind=(if !Kx.jQ k e y.guard then 1 else if 0<kind∧y.kind≠kind∨kind=0∧Kx.aX y.kind=false then 3 else 0) by rw [HV.out,hkb];rfl);have Bd:=af (Below.bz (Below.refl w1.heap.size w1));have HC:=af (HM.out w1.drew (Bw.out.trans (Bd.out.mono Bw.out.size)));have S1:=ik.out w1 fZ;go_enter Tryz.func211,Tryz.ntmps211;go_wp2_with fail;refine (dI _ _).mono ?_;rintro en w2 ⟨rfl,rfl⟩;rw [jR.out];go_wp2_with fail
  refine wp_region_held_drew (S:=(fun wz=>wz.cell? ⟨w.heap.size,0,none⟩=some (vm)∧wz.cell? ⟨w.heap.size,1,none⟩=some (.slice (some ⟨bi,oi,none⟩) k.ag.length ci)∧wz.cell? ⟨w.heap.size,2,none⟩=some (ve)∧wz.cell? ⟨w.heap.size,3,none⟩=some (vc)∧wz.cell? ⟨w0.heap.size,1,none⟩=some (.int .i64 e)∧wz.cell? ⟨w0.heap.size,2,none⟩=some (.int .i64 f)∧wz.cell? ⟨bi,oi+f*3,none⟩=some (.int .i64 y.kind)∧wz.cell? ⟨bi,oi+f*3+1,none⟩=some (.string y.guard))) (by kernel_rfl) (by first | assumption | go_keep) (fun hHeld=>?_)
  refine tH 0 ?_;refine tH 1 ?_;refine tH 2 ?_;refine tH 3 ?_;refine tH 4 ?_;refine tH 5 ?_;refine tH 6 ?_;refine tH 7 ?_;refine tH 8 ?_;refine tH 9 ?_;refine rH 10 (fun K hK=>?_)
  (rw [if_pos (by rfl)];go_simp;go_at_call 208;refine HC.out.mono ?_;rintro en w3 ⟨rfl,hb⟩;have hb:=Below.gG hb;have S2:=ik.out w3 hb;clear HC;go_wp2_with fail)
  refine hK.out _ _ ?_ (fun hHeld=>?_)
  ·first | assumption | go_keep
  clear hK K;refine nH ?_;refine tH 11 ?_;refine tH 12 ?_;refine wpAnyH_done (by kernel_rfl) ?_ _;have Bz:=af (Bw.out.trans (hb.mono Bw.out.size));obtain ⟨t0,t1,t2,t3,t4,t5,t6,t7⟩:=ik.out w3 hb
  cases wR:Kx.jQ k e y.guard with
  | false =>
   have HF:=af (show Kx.aO k ⟨bQ,e,f,cb,cc,bg⟩ kind=1 by rw [HV.out,wR];rfl);clear wR HV hk S1;go_wp2_with fail;go_ret;exact ⟨aZ HF.out.symm,Bz.out⟩
  | true =>
   rw [wR] at HV;clear wR;rcases hk with rfl | rfl
   ·by_cases h1:y.kind=1
    ·have HF:=af (show Kx.aO k ⟨bQ,e,f,cb,cc,bg⟩ 1=0 by rw [HV.out,h1];rfl);have h1b:(y.kind != 1)=false:=by simpa using h1
     clear h1 HV hk0 hkb;go_wp2_with fail;go_ret;exact ⟨aZ HF.out.symm,Bz.out⟩
    have HF:=af (show Kx.aO k ⟨bQ,e,f,cb,cc,bg⟩ 1=3 by rw [HV.out,if_neg (by simp),if_pos (.inl ⟨by decide,h1⟩)]);have h1b:(y.kind != 1)=true:=by simpa using h1
    clear h1 HV hk0 hkb;go_wp2_with fail;go_ret;exact ⟨aZ HF.out.symm,Bz.out⟩
   cases ht:Kx.aX y.kind with
   | false =>
    have HF:=af (show Kx.aO k ⟨bQ,e,f,cb,cc,bg⟩ 0=3 by rw [HV.out,ht];rfl);have Ht:=af ht;clear ht HV hk0 hkb;go_wp2_with fail;refine (gu _ _).mono ?_;rintro en w4 ⟨rfl,rfl⟩;rw [Ht.out];go_wp2_with fail;go_ret;exact ⟨aZ HF.out.symm,Bz.out⟩
   | true =>
    have HF:=af (show Kx.aO k ⟨bQ,e,f,cb,cc,bg⟩ 0=0 by rw [HV.out,ht];rfl);have Ht:=af ht;clear ht HV hk0 hkb;go_wp2_with fail;refine (gu _ _).mono ?_;rintro en w4 ⟨rfl,rfl⟩;rw [Ht.out];go_wp2_with fail;go_ret;exact ⟨aZ HF.out.symm,Bz.out⟩
end Go.Proofs.YtliebkfligagnaaGreatDoor
