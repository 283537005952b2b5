/- What the laws of this kind share. (joined by joinh.py) -/
import Derived.Test.YthcmmoibpgcgaaaGreatDoorKDa
import Derived.Test.YthcmmoibpgcgaaaGreatDoorKX
import Derived.Test.YthcmmoibpgcgaaaGreatDoorKMa
set_option linter.all false
set_option maxHeartbeats 4000000
set_option maxRecDepth 100000
open Go.Proofs.Tryz
namespace Go.Proofs.YthcmmoibpgcgaaaGreatDoor
open Go.RowKit Kx
theorem Below.lC {w w':World} (h:w.grownBy w' none):Below w.heap.size w w':=⟨h.os,h.tape,h.output,h.size,fun k hk=>h.block k hk (by simp)⟩
theorem zS (xs:List Int) (k:Nat) (hk:k<xs.length) :
  ((ints (xs.take k)) ++ List.replicate (xs.length - k) (I_ 0)).set k (I_ xs[k])=ints (xs.take (k+1)) ++ List.replicate (xs.length - (k+1)) (I_ 0):=by
 have e:List.replicate (xs.length - k) (I_ 0)=I_ 0 :: List.replicate (xs.length - (k+1)) (I_ 0):=by
  rw [show xs.length - k=(xs.length - (k+1))+1 by omega];rfl
 have l:(ints (xs.take k)).length=k:=by rw [wV,List.length_take];omega
 rw [e,List.set_append_right _ _ (by omega),l,Nat.sub_self,List.set_cons_zero,List.take_succ_eq_append_getElem hk];simp only [ints,List.map_append,List.map_cons,List.map_nil,List.append_assoc,List.cons_append,List.nil_append]
theorem abT.ri {w:World} {a:Option Addr} {len cap:Nat} {zs:List Int} (h:abT .i64 w a len cap zs) (hl:len<=1048576) :
  ∃ xs:List Int,xs.length=len/\RI w (.slice a len cap) xs:=by
 rcases h with ⟨rfl,rfl,rfl,rfl⟩ | ⟨⟨b,off,spot⟩,rfl,hlc,hcm,hz,hc,_⟩
 ·exact ⟨[],rfl,RI.nil w⟩
 refine ⟨zs.take len,by simp;omega,by simp;omega,?_⟩
 by_cases h0:len=0
 ·subst h0;exact .inl ⟨by simp,_,_,rfl,fun h=>by cases h⟩
 have hs:spot=none:=by simpa [Addr.add] using World.cell?_spot (hc 0 (by omega))
 subst hs;have hb:b<w.heap.size:=World.block_lt_of_cell? w _ (hc 0 (by omega));refine .inr ⟨b,off,cap,by simp;omega,hb,fun i hi=>?_⟩
 have hi':i<len:=by simp at hi;omega
 have:=hc i (by omega)
 rw [Addr.add_lit] at this;rw [this];simp [List.getD,List.getElem?_eq_getElem (show i<zs.length by omega)]
theorem OI.later {w w':World} {base:Nat} {v u:Value} {xs:List Int} (h:OI w base v xs) {m:Nat} (hm:∀ k,u.ownBlock=some k->k<m) (hmb:m<=base) (hg:w.grownBy w' u.ownBlock):OI w' base v xs:=by
 refine h.kept hg ?_
 cases hv:v.ownBlock with
 | none=>exact .inl rfl
 | some k =>
  refine .inr fun e=>?_
  have h1:=(h.lt k hv).1;have h2:=hm k e.symm;omega
theorem RI.take {w:World} {a:Option Addr} {n cap:Nat} {xs:List Int} (h:RI w (.slice a n cap) xs) (k:Nat) (hk:k<=n):RI w (.slice a k cap) (xs.take k):=by
 obtain ⟨h1,h2⟩:=h;rcases h2 with ⟨rfl,a',cap',e,hn⟩ | ⟨b,off,cap',e,hb,hc⟩
 ·obtain ⟨rfl,rfl,rfl⟩:=Za e;clear e;obtain rfl:k=0:=by omega
  exact ⟨by simp,.inl ⟨by simp,_,_,rfl,hn⟩⟩
 obtain ⟨rfl,rfl,rfl⟩:=Za e;clear e;refine ⟨by simp;omega,.inr ⟨b,off,cap,by simp [Nat.min_eq_left hk],hb,fun i hi=>?_⟩⟩
 have hi':i<xs.length:=by simp at hi;omega
 rw [hc i hi'];simp
theorem RI.len {w:World} {a:Option Addr} {n cap:Nat} {xs:List Int} (h:RI w (.slice a n cap) xs):n=xs.length:=by
 obtain ⟨a',cap',e⟩:=h.val;simp only [Value.slice.injEq] at e;exact e.2.1
theorem KZ (xs:List Int) (v:Value) (w:World) (h:RI w v xs):Calls prog 183 #[v] w (mZ w xs):=by
 obtain ⟨a,cap,rfl⟩:=h.val;have hl:=h.1;have H:=af h;clear h;obtain ⟨i0,hi,hz0,hz1,hz2⟩:=info_parts info3;have hc1:i0.bytes*xs.length<=281474976710656:=by rw [hz2];omega
 have hc2:xs.length<=maxLen:=by unfold maxLen;omega
 go_enter func183,ntmps183;go_wp2_with (at_make;refine wpList_make_full _ rfl _ _ 29 rfl w.heap.size 3 i0 (I_ 0) 1 u22 hi hz0 hz1 .i64 .i64 _ _ xs.length rfl rfl rfl rfl hc1 hc2 aW ?_;intro w1 hown hgrow);have hb1:Below w.heap.size w w1:=Below.lC hgrow;clear hi hz0 hz1 hz2 hgrow;go_loopw [4] (fun i wr=>∃ k:Nat,i=I_ k/\k<=xs.length/\TI (wr.ownsRow w.heap.size 3 1 (.slice (some ⟨w.heap.size,0,none⟩) xs.length xs.length) xs.length (ints (xs.take k) ++ List.replicate (xs.length - k) (I_ 0)))/\TI (Below w.heap.size w wr))
  (fun i _=>xs.length - (intOf i).toNat)
 case atStart=>exact ⟨0,rfl,Nat.zero_le _,by simpa [TI,ints,Value.cells,toList_madeCells_one] using hown,hb1⟩
 case round =>
  clear hown hb1;obtain ⟨k,rfl,hk,ho,hb⟩:=hrel
  by_cases hlt:k<xs.length
  ·obtain ⟨b,off,cap',e,hbl,hc⟩:=H.o.at hlt;obtain ⟨rfl,_,rfl⟩:=Za e;clear e;have hc1:=(hb.o.cell (p:=⟨b,off+k,none⟩) hbl).trans hc;have hf:=ho.o.frozenAt k;have ho2:=(ho.o.stored k (I_ xs[k])).1;rw [zS xs k hlt] at ho2;have hs:=ho.o.cellAt k (by omega);obtain ⟨z,hz⟩:∃ z,(ints (xs.take k) ++ List.replicate (xs.length - k) (I_ 0))[k]?=some z:=⟨_,List.getElem?_eq_getElem (by simp [ints];omega)⟩;rw [hz] at hs;have Ho:=af ho2;clear hz hc ho2;generalize xs[k]=x at hc1 Ho;go_wp2;go_roundw
   case rel=>exact ⟨k+1,by go_num,by omega,Ho.o,hb.o.setCell (by simp) _⟩
   case measure=>simp [intOf];omega
  go_wp2;go_ret;have hk':k=xs.length:=by omega
  subst hk';exact ⟨_,rfl,OI.B_ ho.o (by simp) rfl hl,hb.o⟩
theorem Ug (xs ys:List Int) (v u:Value) (w:World) (hx:RI w v xs) (hy:RI w u ys) :
  Calls prog 39 #[v,u] w fun e w'=>e=.returned (.bool (decide (xs=ys)))/\Below w.heap.size w w':=by
 obtain ⟨a,cap,rfl⟩:=hx.val;obtain ⟨a',cap',rfl⟩:=hy.val;have hl:=hx.1;have hl':=hy.1;have Hx:=af hx;clear hx;have Hy:=af hy;clear hy
 by_cases hne:xs.length=ys.length
 ·have hnb:((xs.length:Int) != (ys.length:Int))=false:=by simp [hne]
  have xQ:=af hne;clear hne;go_enter func39,ntmps39;go_wp2_with fail;clear hnb;go_loopw [5] (fun i wr=>∃ k:Nat,i=I_ k/\k<=xs.length/\TI (xs.take k=ys.take k)/\TI (Below w.heap.size w wr)) (fun i _=>xs.length - (intOf i).toNat)
  case atStart=>exact ⟨0,rfl,Nat.zero_le _,by simp [TI],Below.refl _ _⟩
  case round =>
   obtain ⟨k,rfl,hk,ht,hb⟩:=hrel
   by_cases hlt:k<xs.length
   ·have hlt':k<ys.length:=by rw [<-xQ.o];exact hlt
    obtain ⟨b,off,cap1,e,_,hc⟩:=(Hx.o.below hb.o).at hlt;obtain ⟨rfl,_,rfl⟩:=Za e;clear e;obtain ⟨b',off',cap1,e,_,hc'⟩:=(Hy.o.below hb.o).at hlt';obtain ⟨rfl,_,rfl⟩:=Za e;clear e;have H1:=af (List.take_succ_eq_append_getElem hlt);have H2:=af (List.take_succ_eq_append_getElem hlt');have kQ:(k:Int)<(xs.length:Int):=by omega
    have XG:(k:Int)<(ys.length:Int):=by omega
    have H3:TI (xs[k]≠ys[k]->xs≠ys):=fun h e=>h (by subst e;rfl)
    generalize xs[k]=x at hc H1 H3;generalize ys[k]=y at hc' H2 H3
    by_cases hxy:x=y
    ·subst hxy;go_wp2_with fail;go_quiet (fail);go_wp2_with fail;go_roundw
     case rel=>exact ⟨k+1,by go_num,by omega,by show xs.take (k+1)=ys.take (k+1);rw [H1.o,H2.o,ht.o],hb.o.trans ⟨rfl,rfl,rfl,Nat.le_refl _,fun _ _=>rfl⟩⟩
     case measure=>simp [intOf];omega
    have hxb:(x != y)=true:=by simpa using hxy
    have H4:=af (H3.o hxy);clear hxy;go_wp2_with fail;go_quiet (fail);go_wp2_with fail;go_ret;exact ⟨ak (by simpa using H4.o),hb.o.trans ⟨rfl,rfl,rfl,Nat.le_refl _,fun _ _=>rfl⟩⟩
   go_wp2_with fail;go_ret;refine ⟨ak ?_,hb.o⟩;have h1:=ht.o;rw [List.take_of_length_le (by omega),List.take_of_length_le (by rw [<-xQ.o];omega)] at h1;simp [h1]
 have hnb:((xs.length:Int) != (ys.length:Int))=true:=by simp;omega
 have xQ:=af hne;clear hne;go_enter func39,ntmps39;go_wp2_with fail;go_ret;exact ⟨ak (by simp;intro e;exact xQ.o (by rw [e])),Below.refl _ _⟩
end Go.Proofs.YthcmmoibpgcgaaaGreatDoor
namespace Go.Proofs.YthcmmoibpgcgaaaGreatDoor
open Go.RowKit Go.ChangeShapes Go.WideShapes Go.Deep Kx
def RW {α:Type} (f:α->List Value) (sz:Nat) (w:World) (v:Value) (l:List α):Prop:=
 ((l=[]/\∃ a cap,v=.slice a 0 cap/\cap<=maxLen/\(a=none->cap=0)) \/
  ∃ b off cap,v=.slice (some ⟨b,off,none⟩) l.length cap/\l.length<=cap/\cap<=maxLen/\b<w.heap.size/\∀ k (h:k<l.length) j u,(f l[k])[j]?=some u->w.cell? ⟨b,off+k*sz+j,none⟩=some u)
section
variable {α:Type} {f:α->List Value} {sz:Nat} {w w':World} {v:Value} {l:List α}
theorem RW.rs (h:RW f sz w v l) (hl:l.length<=1099511627776):RS f sz w v l:=⟨hl,h⟩
theorem RW.val (h:RW f sz w v l):∃ a cap,v=.slice a l.length cap/\l.length<=maxLen:=by
 rcases h with ⟨rfl,a,cap,rfl,hc,_⟩ | ⟨b,off,cap,rfl,h1,h2,_⟩
 ·exact ⟨a,cap,rfl,Nat.zero_le _⟩
 exact ⟨_,cap,rfl,Nat.le_trans h1 h2⟩
theorem RW.below (h:RW f sz w v l) (hb:Below w.heap.size w w'):RW f sz w' v l:=by
 rcases h with ⟨rfl,a,cap,rfl,hn⟩ | ⟨b,off,cap,rfl,h1,h2,hlt,hc⟩
 ·exact .inl ⟨rfl,a,cap,rfl,hn⟩
 exact .inr ⟨b,off,cap,rfl,h1,h2,Nat.lt_of_lt_of_le hlt hb.size,fun k hk j u hu=>(hb.cell (p:=⟨b,off+k*sz+j,none⟩) hlt).trans (hc k hk j u hu)⟩
end
section
variable {H:Type} {enc:TypeId×Value->H} {w:World} {base:Nat} {spare:Nat->Bool} {held:Bool}
theorem oQ {α:Type} {f:α->List Value} {sz:Nat} {t e:TypeId} {fuel:Nat} {v:Value} {y:DataW H×List MemPlace} (G:α->Prop) (ht:prog.underlying t=some (.slice e)) (hc:prog.cellsOf e=sz) (hf:∀ x,(f x).length=sz) (hpos:0<sz)
  (dec:∀ n cs z,DataW.trod enc prog w base spare held n e cs=some z->cs.length=sz->∃ x:α,cs=f x/\G x)
  (h:DataW.trod enc prog w base spare held fuel t [v]=some y):∃ l:List α,RW f sz w v l/\∀ x ∈ l,G x:=by
 rcases open_slice ht h with ⟨hcs,_⟩ | ⟨a,len,cap,m,n,D,Pl,hcs,_,hl,hm,hmm,_,hi⟩
 ·obtain rfl:v=.slice none 0 0:=by simpa using hcs
  exact ⟨[],.inl ⟨rfl,none,0,rfl,Nat.zero_le _,fun _=>rfl⟩,by simp⟩
 obtain rfl:v=.slice (some a) len cap:=by simpa using hcs
 have hml:len<=m:=by rw [hmm];split <;> omega
 have hex:∀ i:Fin len,∃ x:α,(∀ j u,(f x)[j]?=some u->w.cell? ((a.add (i.val*sz)).add j)=some u)/\G x:=fun i=>by
  obtain ⟨cs',hcs',htr⟩:=hi i.val (by omega);rw [hc] at hcs';obtain ⟨_,hlen,hat⟩:=World.cells?_some hcs';obtain ⟨x,rfl,hg⟩:=dec n cs' _ htr hlen;exact ⟨x,fun j u hu=>by rw [hat j (by have:=(List.getElem?_eq_some_iff.1 hu).1;rw [hf] at this;exact this)];exact hu,hg⟩
 obtain ⟨g,hg⟩:=Classical.axiomOfChoice hex;have hlo:(List.ofFn g).length=len:=List.length_ofFn;refine ⟨List.ofFn g,?_,fun x hx=>?_⟩
 ·by_cases h0:len=0
  ·subst h0;exact .inl ⟨by simp,some a,cap,rfl,hm,fun h=>by cases h⟩
  obtain ⟨b,off,spot⟩:=a;have hc0:∃ u,w.cell? (((⟨b,off,spot⟩:Addr).add (0*sz)).add 0)=some u:=by
   have hp:0<(f (g ⟨0,by omega⟩)).length:=by rw [hf];exact hpos
   exact ⟨_,(hg ⟨0,by omega⟩).1 0 _ (List.getElem?_eq_getElem hp)⟩
  obtain ⟨u,hu⟩:=hc0;have hs:spot=none:=by simpa [Addr.add] using World.cell?_spot hu
  subst hs;rw [Addr.add_lit,Addr.add_lit] at hu;have hb:b<w.heap.size:=World.block_lt_of_cell? w _ hu;refine .inr ⟨b,off,cap,by rw [hlo],by rw [hlo];exact hl,hm,hb,fun k hk j u hu=>?_⟩
  have hk':k<len:=by rw [hlo] at hk;exact hk
  rw [List.getElem_ofFn] at hu;have:=(hg ⟨k,hk'⟩).1 j u hu;rw [Addr.add_lit,Addr.add_lit] at this;exact this
 obtain ⟨i,rfl⟩:=List.mem_ofFn.1 hx;exact (hg i).2
theorem NT {fuel:Nat} {v:Value} {y:DataW H×List MemPlace} (h:DataW.trod enc prog w base spare held fuel 29 [v]=some y):∃ xs:List Int,RW iR 1 w v xs:=by
 obtain ⟨l,h1,_⟩:=oQ (f:=iR) (sz:=1) (fun _=>True) underlying29 (by kernel_rfl) (fun _=>rfl) (by decide) (fun n cs z hz hl=>by
  obtain ⟨x,rfl,_⟩:=DataW.trod_int underlying3 hz;exact ⟨x,rfl,trivial⟩) h
 exact ⟨l,h1⟩
theorem NU {fuel:Nat} {v:Value} {y:DataW H×List MemPlace} (h:DataW.trod enc prog w base spare held fuel 84 [v]=some y):∃ l:List Kx.Str,RW df 1 w v l/\∀ s ∈ l,s.size<=9223372036854775807:=
 oQ (f:=df) (sz:=1) (fun s=>s.size<=9223372036854775807) underlying84 (by kernel_rfl) (fun _=>rfl) (by decide) (fun n cs z hz hl=>by
  obtain ⟨s,rfl,_,hs⟩:=DataW.trod_string underlying9 hz;exact ⟨s,rfl,by unfold maxLen at hs;omega⟩) h
def Pq (w:World) (v:Value) (m:List (List Int)):Prop:=∃ vs:List Value,vs.length=m.length/\RW yL 1 w v vs/\∀ i (h:i<vs.length) (h':i<m.length),RW iR 1 w vs[i] m[i]
theorem pick {α β:Type} (R:α->β->Prop):∀ l:List α,(∀ x ∈ l,∃ y,R x y)->∃ l':List β,l.length=l'.length/\∀ i (h:i<l.length) (h':i<l'.length),R l[i] l'[i]
 | [],_=>⟨[],rfl,fun i h=>by simp at h⟩
 | x :: l,h=>by
  obtain ⟨y,hy⟩:=h x (List.mem_cons_self ..);obtain ⟨l',hl,hr⟩:=pick R l fun z hz=>h z (List.mem_cons_of_mem _ hz)
  refine ⟨y :: l',by simp [hl],fun i hi hi'=>?_⟩
  cases i with
  | zero=>exact hy
  | succ i=>exact hr i (by simpa using hi) (by simpa using hi')
theorem NV {fuel:Nat} {v:Value} {y:DataW H×List MemPlace} (h:DataW.trod enc prog w base spare held fuel 23 [v]=some y):∃ m:List (List Int),Pq w v m:=by
 obtain ⟨vs,h1,h2⟩:=oQ (f:=yL) (sz:=1) (fun u=>∃ xs:List Int,RW iR 1 w u xs) underlying23 (by kernel_rfl) (fun _=>rfl) (by decide) (fun n cs z hz hl=>by
  match cs,hl with
  | [u],_=>exact ⟨u,rfl,NT hz⟩) h
 obtain ⟨m,hl,hr⟩:=pick _ vs h2;exact ⟨m,vs,hl,h1,hr⟩
theorem XX {l:List Value} (h:l.length=2):∃ c0 c1,l=[c0,c1]:=by
 match l,h with
 | [c0,c1],_=>exact ⟨c0,c1,rfl⟩
theorem XY {l:List Value} (h:l.length=3):∃ c0 c1 c2,l=[c0,c1,c2]:=by
 match l,h with
 | [c0,c1,c2],_=>exact ⟨c0,c1,c2,rfl⟩
theorem Uu {l:List Value} (h:l.length=4):∃ c0 c1 c2 c3,l=[c0,c1,c2,c3]:=by
 match l,h with
 | [c0,c1,c2,c3],_=>exact ⟨c0,c1,c2,c3,rfl⟩
theorem kF:prog.cellsOf 3=1:=by kernel_rfl
theorem zy:prog.cellsOf 9=1:=by kernel_rfl
theorem CV:prog.cellsOf 4=1:=by kernel_rfl
theorem CW:prog.cellsOf 84=1:=by kernel_rfl
theorem CX:prog.cellsOf 23=1:=by kernel_rfl
theorem Af:prog.cellsOf 61=1:=by kernel_rfl
theorem CY:prog.cellsOf 62=1:=by kernel_rfl
theorem zA:prog.cellsOf 63=1:=by kernel_rfl
theorem lF {cs:List Value} {k n:Nat} (hl:cs.length=n) (hk:k<n):(cs.drop k).take 1=[cs[k]'(by omega)]:=by
 rw [List.drop_eq_getElem_cons (by omega)];rfl
theorem Vj {t:TypeId} {fs:Array Field} {fuel n:Nat} {cs:List Value} {x:DataW H×List MemPlace} (hs:prog.underlying t=some (.struct fs)) (hn:prog.cellsOf t=n) (h:DataW.trod enc prog w base spare held fuel t cs=some x) :
  cs.length=n/\∃ m,∀ (i:Nat) (f:Field),fs[i]?=some f->∃ z,DataW.trod enc prog w base spare held m f.type ((cs.drop f.offset).take (prog.cellsOf f.type))=some z:=by
 obtain ⟨xs,m,_,_,hl,hx,hf⟩:=DataW.trod_struct hs h;refine ⟨by rw [<-hn];exact hl,m,fun i f hi=>?_⟩
 have hi':i<fs.size:=(Array.getElem?_eq_some_iff.1 hi).1;exact ⟨_,(hf i f hi).trans (List.getElem?_eq_getElem (by omega))⟩
theorem LQ {fuel:Nat} {v:Value} {y:DataW H×List MemPlace} (h:DataW.trod enc prog w base spare held fuel 61 [v]=some y):∃ l:List Kx.aG,RW bH 3 w v l/\∀ x ∈ l,x.guard.size<=9223372036854775807:=
 oQ (f:=bH) (sz:=3) (fun x=>x.guard.size<=9223372036854775807) underlying61 (by kernel_rfl) (fun _=>rfl) (by decide) (fun n cs z hz hl=>by
  obtain ⟨_,m,hf⟩:=Vj underlying173 (n:=3) (by kernel_rfl) hz;obtain ⟨_,h0⟩:=hf 0 _ rfl;obtain ⟨_,h1⟩:=hf 1 _ rfl;obtain ⟨_,h2⟩:=hf 2 _ rfl;have g0:DataW.trod enc prog w base spare held m 3 ((cs.drop 0).take (prog.cellsOf 3))=some _:=h0;rw [kF] at g0;have g1:DataW.trod enc prog w base spare held m 9 ((cs.drop 1).take (prog.cellsOf 9))=some _:=h1;rw [zy] at g1;have g2:DataW.trod enc prog w base spare held m 3 ((cs.drop 2).take (prog.cellsOf 3))=some _:=h2;rw [kF] at g2;rw [lF (k:=0) hl (by decide)] at g0;rw [lF (k:=1) hl (by decide)] at g1;rw [lF (k:=2) hl (by decide)] at g2;obtain ⟨a,ha,_⟩:=DataW.trod_int underlying3 g0;obtain ⟨b,hb,_,hbs⟩:=DataW.trod_string underlying9 g1;obtain ⟨c,hc,_⟩:=DataW.trod_int underlying3 g2;clear hf;obtain ⟨c0,c1,c2,rfl⟩:=XY hl;simp at ha hb hc;subst ha hb hc
  exact ⟨⟨a,b,c⟩,rfl,by unfold maxLen at hbs;show b.size<=_;omega⟩) h
theorem Ja {fuel:Nat} {v:Value} {y:DataW H×List MemPlace} (h:DataW.trod enc prog w base spare held fuel 63 [v]=some y):∃ l:List Kx.Cached,RW b_ 4 w v l:=by
 obtain ⟨l,h1,_⟩:=oQ (f:=b_) (sz:=4) (fun _=>True) underlying63 (by kernel_rfl) (fun _=>rfl) (by decide) (fun n cs z hz hl=>by
  obtain ⟨_,m,hf⟩:=Vj underlying179 (n:=4) (by kernel_rfl) hz;obtain ⟨_,h0⟩:=hf 0 _ rfl;obtain ⟨_,h1⟩:=hf 1 _ rfl;obtain ⟨_,h2⟩:=hf 2 _ rfl;obtain ⟨_,h3⟩:=hf 3 _ rfl;have g0:DataW.trod enc prog w base spare held m 3 ((cs.drop 0).take (prog.cellsOf 3))=some _:=h0;rw [kF] at g0;have g1:DataW.trod enc prog w base spare held m 3 ((cs.drop 1).take (prog.cellsOf 3))=some _:=h1;rw [kF] at g1;have g2:DataW.trod enc prog w base spare held m 3 ((cs.drop 2).take (prog.cellsOf 3))=some _:=h2;rw [kF] at g2;have g3:DataW.trod enc prog w base spare held m 4 ((cs.drop 3).take (prog.cellsOf 4))=some _:=h3;rw [CV] at g3;rw [lF (k:=0) hl (by decide)] at g0;rw [lF (k:=1) hl (by decide)] at g1;rw [lF (k:=2) hl (by decide)] at g2;rw [lF (k:=3) hl (by decide)] at g3
  obtain ⟨a,ha,_⟩:=DataW.trod_int underlying3 g0;obtain ⟨b,hb,_⟩:=DataW.trod_int underlying3 g1;obtain ⟨c,hc,_⟩:=DataW.trod_int underlying3 g2;obtain ⟨d,hd,_⟩:=DataW.trod_bool underlying4 g3;clear hf;obtain ⟨c0,c1,c2,c3,rfl⟩:=Uu hl;simp at ha hb hc hd;subst ha hb hc hd;exact ⟨⟨a,b,c,d⟩,rfl,trivial⟩) h
 exact ⟨l,h1⟩
def Pv (w:World) (v:Value) (es:List Kx.Env):Prop:=∃ ps:List (Value×Int),ps.length=es.length/\RW QD 2 w v ps/\∀ i (h:i<ps.length) (h':i<es.length),ps[i].2=es[i].root/\RW df 1 w ps[i].1 es[i].aB
theorem NY {fuel:Nat} {v:Value} {y:DataW H×List MemPlace} (h:DataW.trod enc prog w base spare held fuel 62 [v]=some y):∃ l:List Kx.Env,Pv w v l/\∀ x ∈ l,∀ s ∈ x.aB,s.size<=9223372036854775807:=by
 obtain ⟨ps,h1,h2⟩:=oQ (f:=QD) (sz:=2) (fun p:Value×Int=>∃ e:Kx.Env,(p.2=e.root/\RW df 1 w p.1 e.aB)/\∀ s ∈ e.aB,s.size<=9223372036854775807) underlying62 (by kernel_rfl) (fun _=>rfl) (by decide) (fun n cs z hz hl=>by
  obtain ⟨_,m,hf⟩:=Vj underlying175 (n:=2) (by kernel_rfl) hz;obtain ⟨_,h0⟩:=hf 0 _ rfl;obtain ⟨_,h1⟩:=hf 1 _ rfl;have g1:DataW.trod enc prog w base spare held m 3 ((cs.drop 1).take (prog.cellsOf 3))=some _:=h1;rw [kF] at g1;have h0':DataW.trod enc prog w base spare held m 84 ((cs.drop 0).take (prog.cellsOf 84))=some _:=h0;rw [CW] at h0';rw [lF (k:=1) hl (by decide)] at g1;rw [lF (k:=0) hl (by decide)] at h0';obtain ⟨b,hb,_⟩:=DataW.trod_int underlying3 g1;obtain ⟨l,r1,r2⟩:=NU h0';clear hf;obtain ⟨c0,c1,rfl⟩:=XX hl;simp at hb;subst hb;exact ⟨(c0,b),rfl,⟨⟨l,b⟩,⟨rfl,r1⟩,r2⟩⟩) h
 obtain ⟨m,hl,hr⟩:=pick _ ps h2;refine ⟨m,⟨ps,hl,h1,fun i h h'=>(hr i h h').1⟩,fun x hx s hs=>?_⟩
 obtain ⟨i,hi,rfl⟩:=List.getElem_of_mem hx;exact (hr i (by omega) hi).2 s hs
structure Uw (w:World) (vm vi ve vc:Value) (k:Kx.Kernel):Prop where
 m:Pq w vm k.mem
 i:RW bH 3 w vi k.ag
 e:Pv w ve k.ah
 c:RW b_ 4 w vc k.cache
def CZ (k:Kx.Kernel):Prop:=(∀ x ∈ k.ag,x.guard.size<=9223372036854775807)/\∀ x ∈ k.ah,∀ s ∈ x.aB,s.size<=9223372036854775807
theorem CZ.PI {k:Kx.Kernel} (h:CZ k):iQ k:=by
 refine ⟨h.1,fun e he s hs=>?_⟩
 have e1:au k.ah e=k.ah[e]:=by simp [au,he]
 rw [e1] at hs;exact h.2 _ (List.getElem_mem he) s hs
theorem Rq {fuel:Nat} {cs:List Value} {y:DataW H×List MemPlace} (h:DataW.trod enc prog w base spare held fuel 65 cs=some y):∃ vm vi ve vc k,cs=[vm,vi,ve,vc]/\Uw w vm vi ve vc k/\CZ k:=by
 obtain ⟨hl,m,hf⟩:=Vj underlying65 (n:=4) (by kernel_rfl) h;obtain ⟨_,h0⟩:=hf 0 _ rfl;obtain ⟨_,h1⟩:=hf 1 _ rfl;obtain ⟨_,h2⟩:=hf 2 _ rfl;obtain ⟨_,h3⟩:=hf 3 _ rfl;have h0':DataW.trod enc prog w base spare held m 23 ((cs.drop 0).take (prog.cellsOf 23))=some _:=h0;rw [CX] at h0';have h1':DataW.trod enc prog w base spare held m 61 ((cs.drop 1).take (prog.cellsOf 61))=some _:=h1;rw [Af] at h1';have h2':DataW.trod enc prog w base spare held m 62 ((cs.drop 2).take (prog.cellsOf 62))=some _:=h2;rw [CY] at h2';have h3':DataW.trod enc prog w base spare held m 63 ((cs.drop 3).take (prog.cellsOf 63))=some _:=h3;rw [zA] at h3';rw [lF (k:=0) hl (by decide)] at h0';rw [lF (k:=1) hl (by decide)] at h1';rw [lF (k:=2) hl (by decide)] at h2';rw [lF (k:=3) hl (by decide)] at h3'
 obtain ⟨a,ra⟩:=NV h0';obtain ⟨b,rb,sb⟩:=LQ h1';obtain ⟨c,rc,sc⟩:=NY h2';obtain ⟨d,rd⟩:=Ja h3';clear hf;obtain ⟨c0,c1,c2,c3,rfl⟩:=Uu hl;exact ⟨c0,c1,c2,c3,⟨a,b,c,d⟩,rfl,⟨ra,rb,rc,rd⟩,sb,sc⟩
end
theorem Pq.len {w:World} {v:Value} {m:List (List Int)} (h:Pq w v m):∃ a cap,v=.slice a m.length cap/\m.length<=maxLen:=by
 obtain ⟨vs,hl,hs,_⟩:=h;rw [<-hl];exact hs.val
theorem Pv.len {w:World} {v:Value} {m:List Kx.Env} (h:Pv w v m):∃ a cap,v=.slice a m.length cap/\m.length<=maxLen:=by
 obtain ⟨vs,hl,hs,_⟩:=h;rw [<-hl];exact hs.val
def sumT {α:Type} (g:α->Nat) (l:List α) (k:Nat):Nat:=((l.take k).map g).sum
theorem rG {α:Type} (g:α->Nat) (l:List α):sumT g l 0=0:=by simp [sumT]
theorem rJ {α:Type} (g:α->Nat) (l:List α) (k:Nat) (h:k<l.length):sumT g l (k+1)=sumT g l k+g l[k]:=by
 unfold sumT;rw [List.take_succ_eq_append_getElem h,List.map_append,List.sum_append];simp only [List.map_cons,List.map_nil,List.sum_cons,List.sum_nil,Nat.add_zero]
theorem uU {α:Type} (g:α->Nat) (l:List α):sumT g l l.length=(l.map g).sum:=by unfold sumT;rw [List.take_length]
theorem xY {α:Type} (g:α->Nat) (l:List α) (k:Nat):sumT g l k<=(l.map g).sum:=by
 unfold sumT;conv=>rhs;rw [<-List.take_append_drop k l]
 rw [List.map_append,List.sum_append];omega
def Df (lf tot:Nat):Int:=if lf<tot then -1 else ((lf - tot:Nat):Int)
theorem gQ {lf tot:Nat} (h:lf<tot):Df lf tot=-1:=by unfold Df;rw [if_pos h]
theorem iJ {lf tot:Nat} (h:tot<=lf):Df lf tot=((lf - tot:Nat):Int):=by unfold Df;rw [if_neg (by omega)]
def r_ (m:List (List Int)):Nat:=m.length+(m.map List.length).sum
def lW (l:List Kx.Str):Nat:=l.length+(l.map fun s=>s.size).sum
def pR (l:List Kx.aG):Nat:=l.length+(l.map fun x=>x.guard.size).sum
def uV (l:List Kx.Env):Nat:=l.length+(l.map fun x=>lW x.aB).sum
def nK (k:Kx.Kernel):Nat:=r_ k.mem+pR k.ag+uV k.ah+k.cache.length
def Sz (lf tot:Nat) (w:World) (e:Ending) (w':World):Prop:=e=.returned (I_ (Df lf tot))/\Below w.heap.size w w'
theorem lG {n:Nat} (h:n<=maxLen):(n:Int)<=9223372036854775807:=by unfold maxLen at h;omega
theorem EH (l:List Int) (lf:Nat) (v:Value) (w:World) (h:RW iR 1 w v l) (hl:lf<=1048576):Calls prog 180 #[v,I_ lf] w (Sz lf l.length w):=by
 obtain ⟨a,cap,rfl,hm⟩:=h.val;have Rt:=lG hm;clear h hm
 by_cases hlt:lf<l.length
 ·have HR:=af (gQ hlt);have hI:(lf:Int)<(l.length:Int):=by omega
  go_enter func180,ntmps180;go_wp2_with fail;go_ret;exact ⟨aZ HR.o.symm,Below.refl _ _⟩
 have HR:=af (iJ (Nat.not_lt.1 hlt));have hI:¬ (lf:Int)<(l.length:Int):=by omega
 go_enter func180,ntmps180;go_wp2_with fail;go_ret;exact ⟨aZ (by rw [HR.o];omega),Below.refl _ _⟩
theorem EI (l:List Kx.Cached) (lf:Nat) (v:Value) (w:World) (h:RW b_ 4 w v l) (hl:lf<=1048576):Calls prog 102 #[v,I_ lf] w (Sz lf l.length w):=by
 obtain ⟨a,cap,rfl,hm⟩:=h.val;have Rt:=lG hm;clear h hm
 by_cases hlt:lf<l.length
 ·have HR:=af (gQ hlt);have hI:(lf:Int)<(l.length:Int):=by omega
  go_enter func102,ntmps102;go_wp2_with fail;go_ret;exact ⟨aZ HR.o.symm,Below.refl _ _⟩
 have HR:=af (iJ (Nat.not_lt.1 hlt));have hI:¬ (lf:Int)<(l.length:Int):=by omega
 go_enter func102,ntmps102;go_wp2_with fail;go_ret;exact ⟨aZ (by rw [HR.o];omega),Below.refl _ _⟩
theorem EJ (x:Kx.aG) (lf:Nat) (w:World) (hs:x.guard.size<=9223372036854775807) (hl:lf<=1048576):Calls prog 181 #[kN x,I_ lf] w (Sz lf x.guard.size w):=by
 have hb:=af (show Below w.heap.size w (w.alloc (.cells #[I_ x.kind,.string x.guard,I_ x.refs] 173)) from fZ.alloc aW _);have Rt:(x.guard.size:Int)<=9223372036854775807:=by omega
 clear hs;unfold kN
 by_cases hlt:lf<x.guard.size
 ·have HR:=af (gQ hlt);have hI:(lf:Int)<(x.guard.size:Int):=by omega
  go_enter func181,ntmps181;go_wp2_with fail;go_ret;exact ⟨aZ HR.o.symm,hb.o⟩
 have HR:=af (iJ (Nat.not_lt.1 hlt));have hI:¬ (lf:Int)<(x.guard.size:Int):=by omega
 go_enter func181,ntmps181;go_wp2_with fail;go_ret;exact ⟨aZ (by rw [HR.o];omega),hb.o⟩
theorem Jb (l:List (List Int)) (lf:Nat) (v:Value) (w:World) (h:Pq w v l) (hl:lf<=1048576):Calls prog 99 #[v,I_ lf] w (Sz lf (r_ l) w):=by
 obtain ⟨vs,hvl,h1,h2⟩:=h;obtain ⟨a,cap,rfl,hm⟩:=h1.val;rw [hvl] at hm ⊢;have Rt:=lG hm;have HT:=af (show r_ l=l.length+(l.map List.length).sum from rfl)
 by_cases hlt:lf<l.length
 ·have HR:=af (gQ (show lf<r_ l by rw [HT.o];omega));have hI:(lf:Int)<(l.length:Int):=by omega
  clear hm;go_enter func99,ntmps99;go_wp2_with fail;go_ret;exact ⟨aZ HR.o.symm,Below.refl _ _⟩
 obtain ⟨c0,hc0⟩:=Nat.exists_eq_add_of_le (Nat.not_lt.1 hlt);have hI:¬ (lf:Int)<(l.length:Int):=by omega
 have hsub:(lf:Int) - (l.length:Int)=(c0:Int):=by omega
 have hln:l.length<=1048576:=by omega
 have QP:=af hc0;have zB:c0<=1048576:=by omega
 have H1:=af (h1.rs (by omega));have H2:=af h2;have NZ:=af hvl;clear h1 h2 hvl hm hc0 hlt;go_enter func99,ntmps99;go_wp2_with fail;clear hsub hI;go_loopw [1,5] (fun L i wr=>∃ k c:Nat,i=I_ k/\k<=l.length/\L=I_ c/\c<=1048576/\TI (lf=l.length+sumT List.length l k+c)/\TI (Below w.heap.size w wr)) (fun _ i _=>l.length - (intOf i).toNat)
 case atStart=>exact ⟨0,c0,rfl,Nat.zero_le _,rfl,zB,(by show lf=_;rw [rG];exact QP.o),Below.refl _ _⟩
 case round =>
  clear zB;obtain ⟨k,c,rfl,hk,rfl,hc,hsum,hb⟩:=hrel
  by_cases hlt:k<l.length
  ·have kQ:(k:Int)<(l.length:Int):=by omega
   obtain ⟨b,off,cap1,e,_,hcell⟩:=(RS.below H1.o hb.o).at (k:=k) (by rw [NZ.o];exact hlt);have hcell:=hcell 0 _ rfl;have hrow:=(H2.o k (by rw [NZ.o];exact hlt) hlt).below hb.o;rw [NZ.o] at e;obtain ⟨rfl,_,rfl⟩:=Za e;clear e;rw [Nat.mul_one,Nat.add_zero] at hcell;generalize vs[k]'(by rw [NZ.o];exact hlt)=u at hcell hrow;have vW:=af hrow;clear hrow;have jU:=af (rJ List.length l k hlt);have MN:=af (xY List.length l (k+1));have LU:=af (show List.length l[k]=l[k].length from rfl)
   by_cases hx:c<l[k].length
   ·have HR:=af (gQ (show lf<r_ l by have:=hsum.o;have:=jU.o;have:=MN.o;have:=LU.o;rw [HT.o];omega));have Hx:=af (gQ hx);clear hx;go_wp2_with fail;refine (EH l[k] c u _ vW.o hc).mono ?_;rintro e w2 ⟨rfl,hb2⟩;have B2:=af (hb.o.trans (hb2.mono hb.o.size));clear hb2;rw [Hx.o];go_wp2_with fail;go_ret;exact ⟨aZ HR.o.symm,B2.o⟩
   obtain ⟨c2,hc2⟩:=Nat.exists_eq_add_of_le (Nat.not_lt.1 hx);have Hx:=af (show Df c (l[k].length)=(c2:Int) by rw [iJ (by omega)];omega);have Gl:=af (show lf=l.length+sumT List.length l (k+1)+c2 by have:=hsum.o;have:=jU.o;have:=LU.o;omega);have Gm:c2<=1048576:=by omega
   clear hx hc2;go_wp2_with fail;refine (EH l[k] c u _ vW.o hc).mono ?_;rintro e w2 ⟨rfl,hb2⟩;have B2:=af (hb.o.trans (hb2.mono hb.o.size));clear hb2;rw [Hx.o];go_wp2_with fail;go_roundw
   case rel=>exact ⟨k+1,c2,by go_num,by omega,rfl,Gm,Gl.o,B2.o⟩
   case measure=>simp [intOf];omega
  have hkn:k=l.length:=by omega
  have HR:=af (show Df lf (r_ l)=(c:Int) by
   have h1:=hsum.o;rw [hkn,uU] at h1;rw [HT.o,iJ (by omega)];omega)
  clear hkn;go_wp2_with fail;go_ret;exact ⟨aZ HR.o.symm,hb.o⟩
theorem Jc (l:List Kx.aG) (lf:Nat) (v:Value) (w:World) (h:RW bH 3 w v l) (hs:∀ x ∈ l,x.guard.size<=9223372036854775807) (hl:lf<=1048576):Calls prog 100 #[v,I_ lf] w (Sz lf (pR l) w):=by
 obtain ⟨a,cap,rfl,hm⟩:=h.val;have Rt:=lG hm;have HT:=af (show pR l=l.length+(l.map (fun x=>x.guard.size)).sum from rfl)
 by_cases hlt:lf<l.length
 ·have HR:=af (gQ (show lf<pR l by rw [HT.o];omega));have hI:(lf:Int)<(l.length:Int):=by omega
  clear hm;go_enter func100,ntmps100;go_wp2_with fail;go_ret;exact ⟨aZ HR.o.symm,Below.refl _ _⟩
 obtain ⟨c0,hc0⟩:=Nat.exists_eq_add_of_le (Nat.not_lt.1 hlt);have hI:¬ (lf:Int)<(l.length:Int):=by omega
 have hsub:(lf:Int) - (l.length:Int)=(c0:Int):=by omega
 have hln:l.length<=1048576:=by omega
 have QP:=af hc0;have zB:c0<=1048576:=by omega
 have H1:=af (show bV w _ l from h.rs (by omega));have Hs:=af hs;clear h hs hm hc0 hlt;go_enter func100,ntmps100;go_wp2_with fail;clear hsub hI;go_loopw [1,5] (fun L i wr=>∃ k c:Nat,i=I_ k/\k<=l.length/\L=I_ c/\c<=1048576/\TI (lf=l.length+sumT (fun x=>x.guard.size) l k+c)/\TI (Below w.heap.size w wr)) (fun _ i _=>l.length - (intOf i).toNat)
 case atStart=>exact ⟨0,c0,rfl,Nat.zero_le _,rfl,zB,(by show lf=_;rw [rG];exact QP.o),Below.refl _ _⟩
 case round =>
  clear zB;obtain ⟨k,c,rfl,hk,rfl,hc,hsum,hb⟩:=hrel
  by_cases hlt:k<l.length
  ·have kQ:(k:Int)<(l.length:Int):=by omega
   obtain ⟨b,off,cap1,e,_,g0,g1,g2⟩:=bV.at (RS.below H1.o hb.o) hlt;rw [show Kx.inf l k=l[k] from by simp [Kx.inf,hlt]] at g0 g1 g2;have uf:=af (Hs.o _ (List.getElem_mem hlt));obtain ⟨rfl,_,rfl⟩:=Za e;clear e;have jU:=af (rJ (fun x=>x.guard.size) l k hlt);have MN:=af (xY (fun x=>x.guard.size) l (k+1));have LU:=af (show (fun x=>x.guard.size) l[k]=l[k].guard.size from rfl)
   by_cases hx:c<l[k].guard.size
   ·have HR:=af (gQ (show lf<pR l by have:=hsum.o;have:=jU.o;have:=MN.o;have:=LU.o;rw [HT.o];omega));have Hx:=af (gQ hx);have HC:=af (fun W=>EJ l[k] c W uf.o hc);unfold kN at HC;clear hx;go_wp2_with fail;refine (HC.o _).mono ?_;rintro e w2 ⟨rfl,hb2⟩;have B2:=af (hb.o.trans (hb2.mono hb.o.size));clear hb2;rw [Hx.o];go_wp2_with fail;go_ret;exact ⟨aZ HR.o.symm,B2.o⟩
   obtain ⟨c2,hc2⟩:=Nat.exists_eq_add_of_le (Nat.not_lt.1 hx);have Hx:=af (show Df c (l[k].guard.size)=(c2:Int) by rw [iJ (by omega)];omega);have Gl:=af (show lf=l.length+sumT (fun x=>x.guard.size) l (k+1)+c2 by have:=hsum.o;have:=jU.o;have:=LU.o;omega);have Gm:c2<=1048576:=by omega
   have HC:=af (fun W=>EJ l[k] c W uf.o hc);unfold kN at HC;clear hx hc2;go_wp2_with fail;refine (HC.o _).mono ?_;rintro e w2 ⟨rfl,hb2⟩;have B2:=af (hb.o.trans (hb2.mono hb.o.size));clear hb2;rw [Hx.o];go_wp2_with fail;go_roundw
   case rel=>exact ⟨k+1,c2,by go_num,by omega,rfl,Gm,Gl.o,B2.o⟩
   case measure=>simp [intOf];omega
  have hkn:k=l.length:=by omega
  have HR:=af (show Df lf (pR l)=(c:Int) by
   have h1:=hsum.o;rw [hkn,uU] at h1;rw [HT.o,iJ (by omega)];omega)
  clear hkn;go_wp2_with fail;go_ret;exact ⟨aZ HR.o.symm,hb.o⟩
theorem EK (l:List Kx.Str) (lf:Nat) (v:Value) (w:World) (h:RW df 1 w v l) (hs:∀ s ∈ l,s.size<=9223372036854775807) (hl:lf<=1048576):Calls prog 235 #[v,I_ lf] w (Sz lf (lW l) w):=by
 obtain ⟨a,cap,rfl,hm⟩:=h.val;have Rt:=lG hm;have HT:=af (show lW l=l.length+(l.map (fun s=>s.size)).sum from rfl)
 by_cases hlt:lf<l.length
 ·have HR:=af (gQ (show lf<lW l by rw [HT.o];omega));have hI:(lf:Int)<(l.length:Int):=by omega
  clear hm;go_enter func235,ntmps235;go_wp2_with fail;go_ret;exact ⟨aZ HR.o.symm,Below.refl _ _⟩
 obtain ⟨c0,hc0⟩:=Nat.exists_eq_add_of_le (Nat.not_lt.1 hlt);have hI:¬ (lf:Int)<(l.length:Int):=by omega
 have hsub:(lf:Int) - (l.length:Int)=(c0:Int):=by omega
 have hln:l.length<=1048576:=by omega
 have QP:=af hc0;have zB:c0<=1048576:=by omega
 have H1:=af (show dK w _ l from h.rs (by omega));have Hs:=af hs;clear h hs hm hc0 hlt;go_enter func235,ntmps235;go_wp2_with fail;clear hsub hI;go_loopw [1,5] (fun L i wr=>∃ k c:Nat,i=I_ k/\k<=l.length/\L=I_ c/\c<=1048576/\TI (lf=l.length+sumT (fun s=>s.size) l k+c)/\TI (Below w.heap.size w wr)) (fun _ i _=>l.length - (intOf i).toNat)
 case atStart=>exact ⟨0,c0,rfl,Nat.zero_le _,rfl,zB,(by show lf=_;rw [rG];exact QP.o),Below.refl _ _⟩
 case round =>
  clear zB;obtain ⟨k,c,rfl,hk,rfl,hc,hsum,hb⟩:=hrel
  by_cases hlt:k<l.length
  ·have kQ:(k:Int)<(l.length:Int):=by omega
   obtain ⟨b,off,cap1,e,_,g0⟩:=dK.at (RS.below H1.o hb.o) hlt;have hszI:(l[k].size:Int)<=9223372036854775807:=by have:=Hs.o _ (List.getElem_mem hlt);omega
   obtain ⟨rfl,_,rfl⟩:=Za e;clear e;have jU:=af (rJ (fun s=>s.size) l k hlt);have MN:=af (xY (fun s=>s.size) l (k+1));have LU:=af (show (fun s=>s.size) l[k]=l[k].size from rfl)
   by_cases hx:c<l[k].size
   ·have HR:=af (gQ (show lf<lW l by have:=hsum.o;have:=jU.o;have:=MN.o;have:=LU.o;rw [HT.o];omega));have Hx:=af (gQ hx);have Oa:(c:Int)<(l[k].size:Int):=by omega
    clear hx;go_wp2_with fail;have B2:=af hb.o;go_wp2_with fail;go_ret;exact ⟨aZ HR.o.symm,B2.o⟩
   obtain ⟨c2,hc2⟩:=Nat.exists_eq_add_of_le (Nat.not_lt.1 hx);have Hx:=af (show Df c (l[k].size)=(c2:Int) by rw [iJ (by omega)];omega);have Gl:=af (show lf=l.length+sumT (fun s=>s.size) l (k+1)+c2 by have:=hsum.o;have:=jU.o;have:=LU.o;omega);have Gm:c2<=1048576:=by omega
   have Oa:¬ (c:Int)<(l[k].size:Int):=by omega
   have hsub2:(c:Int) - (l[k].size:Int)=(c2:Int):=by omega
   clear hx hc2;go_wp2_with fail;have B2:=af hb.o;go_wp2_with fail;go_roundw
   case rel=>exact ⟨k+1,c2,by go_num,by omega,rfl,Gm,Gl.o,B2.o⟩
   case measure=>simp [intOf];omega
  have hkn:k=l.length:=by omega
  have HR:=af (show Df lf (lW l)=(c:Int) by
   have h1:=hsum.o;rw [hkn,uU] at h1;rw [HT.o,iJ (by omega)];omega)
  clear hkn;go_wp2_with fail;go_ret;exact ⟨aZ HR.o.symm,hb.o⟩
theorem N7 (l:List Kx.Str) (u:Value) (r:Int) (lf:Nat) (w:World) (h:RW df 1 w u l) (hs:∀ s ∈ l,s.size<=9223372036854775807) (hl:lf<=1048576):Calls prog 182 #[.agg #[u,I_ r],I_ lf] w (Sz lf (lW l) w):=by
 obtain ⟨w0,hw0⟩:=XP (w.alloc (.cells #[u,I_ r] 175));have B0:=af (show Below w.heap.size w w0 from hw0 ▸ dm);obtain ⟨c0,c1,_⟩:=(show w0.cell? ⟨w.heap.size,0,none⟩=some u/\w0.cell? ⟨w.heap.size,1,none⟩=some (I_ r)/\w.heap.size<w0.heap.size from hw0 ▸ Pz.new w u (I_ r) 175);have HC:=af (EK l lf u w0 (h.below B0.o) hs hl);obtain ⟨a,cap,rfl,_⟩:=h.val;clear h hs;generalize lW l=tot at HC ⊢
 by_cases hlt:lf<tot
 ·have HR:=af (gQ hlt);unfold Sz at HC;rw [HR.o] at HC;go_enter func182,ntmps182;go_wp2_with fail;refine HC.o.mono ?_;rintro e w2 ⟨rfl,hb2⟩;have B2:=af (B0.o.trans (hb2.mono B0.o.size));clear hb2;go_wp2_with fail;go_ret;exact ⟨aZ HR.o.symm,B2.o⟩
 have HR:=af (iJ (Nat.not_lt.1 hlt));unfold Sz at HC;rw [HR.o] at HC;go_enter func182,ntmps182;go_wp2_with fail;refine HC.o.mono ?_;rintro e w2 ⟨rfl,hb2⟩;have B2:=af (B0.o.trans (hb2.mono B0.o.size));clear hb2;go_wp2_with fail;go_ret;exact ⟨aZ HR.o.symm,B2.o⟩
theorem LV (l:List Kx.Env) (lf:Nat) (v:Value) (w:World) (h:Pv w v l) (hs:∀ x ∈ l,∀ s ∈ x.aB,s.size<=9223372036854775807) (hl:lf<=1048576):Calls prog 101 #[v,I_ lf] w (Sz lf (uV l) w):=by
 obtain ⟨ps,hvl,h1,h2⟩:=h;obtain ⟨a,cap,rfl,hm⟩:=h1.val;rw [hvl] at hm ⊢;have Rt:=lG hm;have HT:=af (show uV l=l.length+(l.map (fun x=>lW x.aB)).sum from rfl)
 by_cases hlt:lf<l.length
 ·have HR:=af (gQ (show lf<uV l by rw [HT.o];omega));have hI:(lf:Int)<(l.length:Int):=by omega
  clear hm;go_enter func101,ntmps101;go_wp2_with fail;go_ret;exact ⟨aZ HR.o.symm,Below.refl _ _⟩
 obtain ⟨c0,hc0⟩:=Nat.exists_eq_add_of_le (Nat.not_lt.1 hlt);have hI:¬ (lf:Int)<(l.length:Int):=by omega
 have hsub:(lf:Int) - (l.length:Int)=(c0:Int):=by omega
 have hln:l.length<=1048576:=by omega
 have QP:=af hc0;have zB:c0<=1048576:=by omega
 have H1:=af (h1.rs (by omega));have H2:=af h2;have NZ:=af hvl;have Hs:=af hs;clear h1 h2 hvl hs hm hc0 hlt;go_enter func101,ntmps101;go_wp2_with fail;clear hsub hI;go_loopw [1,5] (fun L i wr=>∃ k c:Nat,i=I_ k/\k<=l.length/\L=I_ c/\c<=1048576/\TI (lf=l.length+sumT (fun x=>lW x.aB) l k+c)/\TI (Below w.heap.size w wr)) (fun _ i _=>l.length - (intOf i).toNat)
 case atStart=>exact ⟨0,c0,rfl,Nat.zero_le _,rfl,zB,(by show lf=_;rw [rG];exact QP.o),Below.refl _ _⟩
 case round =>
  clear zB;obtain ⟨k,c,rfl,hk,rfl,hc,hsum,hb⟩:=hrel
  by_cases hlt:k<l.length
  ·have kQ:(k:Int)<(l.length:Int):=by omega
   obtain ⟨b,off,cap1,e,_,hcell⟩:=(RS.below H1.o hb.o).at (k:=k) (by rw [NZ.o];exact hlt);have g0:=hcell 0 _ rfl;have g1:=hcell 1 _ rfl;have hrow:=(H2.o k (by rw [NZ.o];exact hlt) hlt).2.below hb.o;rw [NZ.o] at e;obtain ⟨rfl,_,rfl⟩:=Za e;clear e;rw [Nat.add_zero] at g0;generalize (ps[k]'(by rw [NZ.o];exact hlt))=pr at g0 g1 hrow;obtain ⟨u,r⟩:=pr;dsimp only at g0 g1 hrow;have uf:=af (Hs.o _ (List.getElem_mem hlt));have HC:=af (fun W (hW:RW df 1 W u l[k].aB)=>N7 l[k].aB u r c W hW uf.o hc)
   have vW:=af hrow;obtain ⟨x9,y9,rfl,_⟩:=hrow.val;clear hcell hrow;have jU:=af (rJ (fun x=>lW x.aB) l k hlt);have MN:=af (xY (fun x=>lW x.aB) l (k+1));have LU:=af (show (fun x=>lW x.aB) l[k]=lW l[k].aB from rfl)
   by_cases hx:c<lW l[k].aB
   ·have HR:=af (gQ (show lf<uV l by have:=hsum.o;have:=jU.o;have:=MN.o;have:=LU.o;rw [HT.o];omega));have Hx:=af (gQ hx);clear hx;go_wp2_with fail;refine (HC.o _ vW.o).mono ?_;rintro e w2 ⟨rfl,hb2⟩;have B2:=af (hb.o.trans (hb2.mono hb.o.size));clear hb2;rw [Hx.o];go_wp2_with fail;go_ret;exact ⟨aZ HR.o.symm,B2.o⟩
   obtain ⟨c2,hc2⟩:=Nat.exists_eq_add_of_le (Nat.not_lt.1 hx);have Hx:=af (show Df c (lW l[k].aB)=(c2:Int) by rw [iJ (by omega)];omega);have Gl:=af (show lf=l.length+sumT (fun x=>lW x.aB) l (k+1)+c2 by have:=hsum.o;have:=jU.o;have:=LU.o;omega);have Gm:c2<=1048576:=by omega
   clear hx hc2;go_wp2_with fail;refine (HC.o _ vW.o).mono ?_;rintro e w2 ⟨rfl,hb2⟩;have B2:=af (hb.o.trans (hb2.mono hb.o.size));clear hb2;rw [Hx.o];go_wp2_with fail;go_roundw
   case rel=>exact ⟨k+1,c2,by go_num,by omega,rfl,Gm,Gl.o,B2.o⟩
   case measure=>simp [intOf];omega
  have hkn:k=l.length:=by omega
  have HR:=af (show Df lf (uV l)=(c:Int) by
   have h1:=hsum.o;rw [hkn,uU] at h1;rw [HT.o,iJ (by omega)];omega)
  clear hkn;go_wp2_with fail;go_ret;exact ⟨aZ HR.o.symm,hb.o⟩
theorem Pq.below {w w':World} {v:Value} {m:List (List Int)} (h:Pq w v m) (hb:Below w.heap.size w w'):Pq w' v m:=by
 obtain ⟨vs,hl,hs,hr⟩:=h;exact ⟨vs,hl,hs.below hb,fun i h h'=>(hr i h h').below hb⟩
theorem Pv.below {w w':World} {v:Value} {m:List Kx.Env} (h:Pv w v m) (hb:Below w.heap.size w w'):Pv w' v m:=by
 obtain ⟨vs,hl,hs,hr⟩:=h;exact ⟨vs,hl,hs.below hb,fun i h h'=>⟨(hr i h h').1,(hr i h h').2.below hb⟩⟩
theorem Uw.below {w w':World} {vm vi ve vc:Value} {k:Kx.Kernel} (h:Uw w vm vi ve vc k) (hb:Below w.heap.size w w'):Uw w' vm vi ve vc k:=
 ⟨h.m.below hb,h.i.below hb,h.e.below hb,h.c.below hb⟩
theorem QQ (k:Kx.Kernel) (vm vi ve vc:Value) (w:World) (h:Uw w vm vi ve vc k) (hs:CZ k) (lf:Nat) (hl:lf<=1048576):Calls prog 29 #[.agg #[vm,vi,ve,vc],I_ lf] w (Sz lf (nK k) w):=by
 obtain ⟨w0,hw0⟩:=XP (w.alloc (.cells #[vm,vi,ve,vc] 65));have dB:=af (show Below w.heap.size w w0 from hw0 ▸ (Below.refl w.heap.size w).alloc aW _);have jF:=af (show kK w0 w.heap.size vm vi ve vc from hw0 ▸ kK.new w vm vi ve vc _);have HT:=af (show nK k=r_ k.mem+pR k.ag+uV k.ah+k.cache.length from rfl);have HK:=af (h.below dB.o);have Hs:=af hs;obtain ⟨am,cm,rfl,_⟩:=h.m.len;obtain ⟨ai,ci,rfl,_⟩:=h.i.val;obtain ⟨ae,ce,rfl,_⟩:=h.e.len;obtain ⟨ac,cc,rfl,_⟩:=h.c.val;obtain ⟨k0,k1,k2,k3,_⟩:=jF.o;clear h hs;go_enter func29,ntmps29;go_wp2_with fail;clear hw0;refine (Jb k.mem lf _ _ (HK.o.m.below fZ) hl).mono ?_;rintro e w1 ⟨rfl,hb⟩;have B1:=af hb;clear hb;obtain ⟨a0,a1,a2,a3,_⟩:=jF.o.below B1.o;clear k0 k1 k2 k3
 by_cases hx:lf<r_ k.mem
 ·have HR:=af (gQ (show lf<nK k by rw [HT.o];omega));rw [gQ hx];clear hx;go_wp2_with fail;go_ret;exact ⟨aZ HR.o.symm,dB.o.trans (B1.o.mono dB.o.size)⟩
 obtain ⟨l1,Ux⟩:=Nat.exists_eq_add_of_le (Nat.not_lt.1 hx);rw [show Df lf (r_ k.mem)=(l1:Int) from by rw [iJ (Nat.not_lt.1 hx)];omega];have hl1:l1<=1048576:=by omega
 have Vk:=af Ux;clear hx Ux;go_wp2_with fail;refine (Jc k.ag l1 _ _ (HK.o.i.below B1.o) Hs.o.1 hl1).mono ?_;rintro e w2 ⟨rfl,hb⟩;have B2:=af (B1.o.trans (hb.mono B1.o.size));clear hb;obtain ⟨k0,k1,k2,k3,_⟩:=jF.o.below B2.o;clear a0 a1 a2 a3
 by_cases hx:l1<pR k.ag
 ·have HR:=af (gQ (show lf<nK k by rw [HT.o];have:=Vk.o;omega));rw [gQ hx];clear hx;go_wp2_with fail;go_ret;exact ⟨aZ HR.o.symm,dB.o.trans (B2.o.mono dB.o.size)⟩
 obtain ⟨l2,Uy⟩:=Nat.exists_eq_add_of_le (Nat.not_lt.1 hx);rw [show Df l1 (pR k.ag)=(l2:Int) from by rw [iJ (Nat.not_lt.1 hx)];omega];have hl2:l2<=1048576:=by omega
 have HE2:=af Uy;clear hx Uy;go_wp2_with fail;refine (LV k.ah l2 _ _ (HK.o.e.below B2.o) Hs.o.2 hl2).mono ?_;rintro e w3 ⟨rfl,hb⟩;have B3:=af (B2.o.trans (hb.mono B2.o.size));clear hb;obtain ⟨a0,a1,a2,a3,_⟩:=jF.o.below B3.o;clear k0 k1 k2 k3
 by_cases hx:l2<uV k.ah
 ·have HR:=af (gQ (show lf<nK k by rw [HT.o];have:=Vk.o;have:=HE2.o;omega));rw [gQ hx];clear hx;go_wp2_with fail;go_ret;exact ⟨aZ HR.o.symm,dB.o.trans (B3.o.mono dB.o.size)⟩
 obtain ⟨l3,Uz⟩:=Nat.exists_eq_add_of_le (Nat.not_lt.1 hx);rw [show Df l2 (uV k.ah)=(l3:Int) from by rw [iJ (Nat.not_lt.1 hx)];omega];have hl3:l3<=1048576:=by omega
 have Zu:=af Uz;clear hx Uz;go_wp2_with fail;refine (EI k.cache l3 _ _ (HK.o.c.below B3.o) hl3).mono ?_;rintro e w4 ⟨rfl,hb⟩;have B4:=af (B3.o.trans (hb.mono B3.o.size));clear hb a0 a1 a2 a3
 by_cases hx:l3<k.cache.length
 ·have HR:=af (gQ (show lf<nK k by rw [HT.o];have:=Vk.o;have:=HE2.o;have:=Zu.o;omega));rw [gQ hx];clear hx;go_wp2_with fail;go_ret;exact ⟨aZ HR.o.symm,dB.o.trans (B4.o.mono dB.o.size)⟩
 obtain ⟨l4,UA⟩:=Nat.exists_eq_add_of_le (Nat.not_lt.1 hx);rw [show Df l3 (k.cache.length)=(l4:Int) from by rw [iJ (Nat.not_lt.1 hx)];omega];have hl4:l4<=1048576:=by omega
 have HE4:=af UA;clear hx UA;go_wp2_with fail;have HR:=af (show Df lf (nK k)=(l4:Int) by rw [HT.o];have:=Vk.o;have:=HE2.o;have:=Zu.o;have:=HE4.o;rw [iJ (by omega)];omega);go_ret;exact ⟨aZ HR.o.symm,dB.o.trans (B4.o.mono dB.o.size)⟩
theorem wG {α:Type} (l:List α) (z:α) (k:Nat) (hk:k<l.length):(l.take k ++ List.replicate (l.length - k) z).set k l[k]=l.take (k+1) ++ List.replicate (l.length - (k+1)) z:=by
 have e:List.replicate (l.length - k) z=z :: List.replicate (l.length - (k+1)) z:=by
  rw [show l.length - k=(l.length - (k+1))+1 by omega];rfl
 rw [e,List.set_append_right _ _ (by simp;omega)];have:k - (l.take k).length=0:=by simp;omega
 rw [this,List.set_cons_zero,show l.take (k+1)=l.take k ++ [l[k]] from List.take_succ_eq_append_getElem hk,List.append_assoc];rfl
theorem LW (x:Kx.aG) (w:World):Calls prog 184 #[kN x] w fun e w'=>e=.returned (kN x)/\Below w.heap.size w w':=by
 have Hb:=af (show ∀ a b c,Below w.heap.size w (((w.alloc (.cells a 173)).alloc (.cells b 98)).alloc (.cells c 98)) from fun a b c=>(((Below.refl w.heap.size w).alloc aW _).alloc (by simp) _).alloc (by simp;omega) _)
 unfold kN;go_enter func184,ntmps184;go_wp2_with fail;exact af7 (by simp [results,results184,go_sem]<;>rfl) ⟨rfl,Hb.o _ _ _⟩
theorem Gn (x:Kx.Cached) (w:World):Calls prog 186 #[iT x] w fun e w'=>e=.returned (iT x)/\Below w.heap.size w w':=by
 have Hb:=af (show ∀ a b c,Below w.heap.size w (((w.alloc (.cells a 179)).alloc (.cells b 103)).alloc (.cells c 103)) from fun a b c=>(((Below.refl w.heap.size w).alloc aW _).alloc (by simp) _).alloc (by simp;omega) _)
 unfold iT;go_enter func186,ntmps186;go_wp2_with fail;exact af7 (by simp [results,results186,go_sem]<;>rfl) ⟨rfl,Hb.o _ _ _⟩
theorem EO (l:List Kx.Str) (v:Value) (w:World) (h:RS df 1 w v l) (Jd:l.length<=1048576):Calls prog 236 #[v] w (yu df 1 9 w l):=by
 obtain ⟨a,cap,rfl,_,_⟩:=RS.val h;have H:=af (show dK w _ l from h);clear h;obtain ⟨i0,hi,hz0,hz1,hz2⟩:=info_parts EM;have hc1:i0.bytes*l.length<=281474976710656:=by rw [hz2];omega
 have hc2:l.length<=maxLen:=by unfold maxLen;omega
 go_enter func236,ntmps236;go_wp2_with (at_make;refine wpList_make_full _ rfl _ _ 84 rfl w.heap.size 9 i0 (.string ⟨#[]⟩) 1 underlying84 hi hz0 hz1 .i64 .i64 _ _ l.length rfl rfl rfl rfl hc1 hc2 aW ?_;intro w1 hown hgrow);have B1:=af (Below.lC hgrow);have O1:=af (show OS df 1 9 w1 w.heap.size (.slice (some ⟨w.heap.size,0,none⟩) l.length l.length) (List.replicate l.length (ByteArray.empty:Kx.Str)) from ⟨by rw [<-jM (f:=df) (sz:=1) (fun _=>rfl) (by decide) (ByteArray.empty:Kx.Str) _ rfl l.length,List.length_replicate];exact hown,by simp;omega⟩);clear hi hz0 hz1 hz2 hgrow hown
 go_loopw [4] (fun i wr=>∃ k:Nat,i=I_ k/\k<=l.length/\TI (OS df 1 9 wr w.heap.size (.slice (some ⟨w.heap.size,0,none⟩) l.length l.length) (l.take k ++ List.replicate (l.length - k) (ByteArray.empty:Kx.Str)))/\TI (Below w.heap.size w wr)) (fun i _=>l.length - (intOf i).toNat)
 case atStart=>exact ⟨0,rfl,Nat.zero_le _,by simpa [TI] using O1.o,B1.o⟩
 case round =>
  clear O1 B1;obtain ⟨k,rfl,hk,ho,hb⟩:=hrel
  by_cases hlt:k<l.length
  ·obtain ⟨b,off,cap1,e,hbl,hx0⟩:=dK.at (RS.below H.o hb.o) hlt;obtain ⟨rfl,_,rfl⟩:=Za e;clear e;have kQ:(k:Int)<(l.length:Int):=by omega
   obtain ⟨hst,hgr⟩:=ho.o.jy (by simp;omega) k l[k] (by simp;omega);rw [wG l _ k hlt] at hst;rw [Nat.mul_one] at hst;have uh:=af hst;have B2:=af hb.o;obtain ⟨⟨z0,hz0⟩,hf0⟩:=ho.o.bP k (by simp;omega) 0 (by decide);clear hst hgr;rw [Nat.add_zero,Nat.mul_one] at hz0 hf0;generalize l[k]=x at hx0 uh;go_wp2_with fail;go_roundw
   case rel=>exact ⟨k+1,by go_num,by omega,uh.o,iK aW (df x) k _ B2.o⟩
   case measure=>simp [intOf];omega
  have hkn:k=l.length:=by omega
  have HF:=af (show OS df 1 9 wr w.heap.size (.slice (some ⟨w.heap.size,0,none⟩) l.length l.length) l by
   have h9:=ho.o;rw [hkn,List.take_length,Nat.sub_self,List.replicate_zero,List.append_nil] at h9;exact h9)
  clear hkn;go_wp2_with fail;go_ret;exact ⟨_,rfl,HF.o,hb.o⟩
theorem Je (l:List Kx.aG) (v:Value) (w:World) (h:RS bH 3 w v l) (Jd:l.length<=1048576):Calls prog 104 #[v] w (yu bH 3 98 w l):=by
 obtain ⟨a,cap,rfl,_,_⟩:=RS.val h;have H:=af (show bV w _ l from h);clear h;obtain ⟨i0,hi,hz0,hz1,hz2⟩:=info_parts Bj;have hc1:i0.bytes*l.length<=281474976710656:=by rw [hz2];omega
 have hc2:l.length<=maxLen:=by unfold maxLen;omega
 go_enter func104,ntmps104;go_wp2_with (at_make;refine wpList_make_full _ rfl _ _ 24 rfl w.heap.size 98 i0 (.agg #[I_ 0,.string ⟨#[]⟩,I_ 0]) 3 underlying24 hi hz0 hz1 .i64 .i64 _ _ l.length rfl rfl rfl rfl hc1 hc2 aW ?_;intro w1 hown hgrow);have B1:=af (Below.lC hgrow);have O1:=af (show OS bH 3 98 w1 w.heap.size (.slice (some ⟨w.heap.size,0,none⟩) l.length l.length) (List.replicate l.length Kx.aG.zero) from ⟨by rw [<-jM (f:=bH) (sz:=3) (fun _=>rfl) (by decide) Kx.aG.zero _ rfl l.length,List.length_replicate];exact hown,by simp;omega⟩);clear hi hz0 hz1 hz2 hgrow hown
 go_loopw [4] (fun i wr=>∃ k:Nat,i=I_ k/\k<=l.length/\TI (OS bH 3 98 wr w.heap.size (.slice (some ⟨w.heap.size,0,none⟩) l.length l.length) (l.take k ++ List.replicate (l.length - k) Kx.aG.zero))/\TI (Below w.heap.size w wr)) (fun i _=>l.length - (intOf i).toNat)
 case atStart=>exact ⟨0,rfl,Nat.zero_le _,by simpa [TI] using O1.o,B1.o⟩
 case round =>
  clear O1 B1;obtain ⟨k,rfl,hk,ho,hb⟩:=hrel
  by_cases hlt:k<l.length
  ·obtain ⟨b,off,cap1,e,hbl,hx0,hx1,hx2⟩:=bV.at (RS.below H.o hb.o) hlt;rw [show Kx.inf l k=l[k] from by simp [Kx.inf,hlt]] at hx0 hx1 hx2;obtain ⟨rfl,_,rfl⟩:=Za e;clear e;have kQ:(k:Int)<(l.length:Int):=by omega
   have HC:=af (fun W=>LW l[k] W);unfold kN at HC;go_wp2_with fail;refine (HC.o _).mono ?_;rintro e w2 ⟨rfl,hb2⟩;have l7:=af (ho.o.below hb2);have B2:=af (hb.o.trans (hb2.mono hb.o.size));clear hb2;obtain ⟨hst,hgr⟩:=l7.o.jy (by simp;omega) k l[k] (by simp;omega);rw [wG l _ k hlt] at hst;have uh:=af hst;obtain ⟨⟨z0,hz0⟩,hf0⟩:=l7.o.bP k (by simp;omega) 0 (by decide);obtain ⟨⟨z1,hz1⟩,hf1⟩:=l7.o.bP k (by simp;omega) 1 (by decide);obtain ⟨⟨z2,hz2⟩,hf2⟩:=l7.o.bP k (by simp;omega) 2 (by decide);clear hst hgr
   try rw [Nat.add_zero] at hz0 hf0
   generalize l[k]=x at hx0 hx1 hx2 uh;go_wp2_with fail;go_roundw
   case rel=>exact ⟨k+1,by go_num,by omega,uh.o,iK aW (bH x) (k*3) _ B2.o⟩
   case measure=>simp [intOf];omega
  have hkn:k=l.length:=by omega
  have HF:=af (show OS bH 3 98 wr w.heap.size (.slice (some ⟨w.heap.size,0,none⟩) l.length l.length) l by
   have h9:=ho.o;rw [hkn,List.take_length,Nat.sub_self,List.replicate_zero,List.append_nil] at h9;exact h9)
  clear hkn;go_wp2_with fail;go_ret;exact ⟨_,rfl,HF.o,hb.o⟩
theorem EP (l:List Kx.Cached) (v:Value) (w:World) (h:RS b_ 4 w v l) (Jd:l.length<=1048576):Calls prog 106 #[v] w (yu b_ 4 103 w l):=by
 obtain ⟨a,cap,rfl,_,_⟩:=RS.val h;have H:=af (show dZ w _ l from h);clear h;obtain ⟨i0,hi,hz0,hz1,hz2⟩:=info_parts xy;have hc1:i0.bytes*l.length<=281474976710656:=by rw [hz2];omega
 have hc2:l.length<=maxLen:=by unfold maxLen;omega
 go_enter func106,ntmps106;go_wp2_with (at_make;refine wpList_make_full _ rfl _ _ 26 rfl w.heap.size 103 i0 (.agg #[I_ 0,I_ 0,I_ 0,.bool false]) 4 underlying26 hi hz0 hz1 .i64 .i64 _ _ l.length rfl rfl rfl rfl hc1 hc2 aW ?_;intro w1 hown hgrow);have B1:=af (Below.lC hgrow);have O1:=af (show OS b_ 4 103 w1 w.heap.size (.slice (some ⟨w.heap.size,0,none⟩) l.length l.length) (List.replicate l.length Kx.Cached.zero) from ⟨by rw [<-jM (f:=b_) (sz:=4) (fun _=>rfl) (by decide) Kx.Cached.zero _ rfl l.length,List.length_replicate];exact hown,by simp;omega⟩);clear hi hz0 hz1 hz2 hgrow hown
 go_loopw [4] (fun i wr=>∃ k:Nat,i=I_ k/\k<=l.length/\TI (OS b_ 4 103 wr w.heap.size (.slice (some ⟨w.heap.size,0,none⟩) l.length l.length) (l.take k ++ List.replicate (l.length - k) Kx.Cached.zero))/\TI (Below w.heap.size w wr)) (fun i _=>l.length - (intOf i).toNat)
 case atStart=>exact ⟨0,rfl,Nat.zero_le _,by simpa [TI] using O1.o,B1.o⟩
 case round =>
  clear O1 B1;obtain ⟨k,rfl,hk,ho,hb⟩:=hrel
  by_cases hlt:k<l.length
  ·obtain ⟨b,off,cap1,e,hbl,hx0,hx1,hx2,hx3⟩:=dZ.at (RS.below H.o hb.o) hlt;rw [show l.getD k Kx.Cached.zero=l[k] from by simp [hlt]] at hx0 hx1 hx2 hx3;obtain ⟨rfl,_,rfl⟩:=Za e;clear e;have kQ:(k:Int)<(l.length:Int):=by omega
   have HC:=af (fun W=>Gn l[k] W);unfold iT at HC;go_wp2_with fail;refine (HC.o _).mono ?_;rintro e w2 ⟨rfl,hb2⟩;have l7:=af (ho.o.below hb2);have B2:=af (hb.o.trans (hb2.mono hb.o.size));clear hb2;obtain ⟨hst,hgr⟩:=l7.o.jy (by simp;omega) k l[k] (by simp;omega);rw [wG l _ k hlt] at hst;have uh:=af hst;obtain ⟨⟨z0,hz0⟩,hf0⟩:=l7.o.bP k (by simp;omega) 0 (by decide);obtain ⟨⟨z1,hz1⟩,hf1⟩:=l7.o.bP k (by simp;omega) 1 (by decide);obtain ⟨⟨z2,hz2⟩,hf2⟩:=l7.o.bP k (by simp;omega) 2 (by decide);obtain ⟨⟨z3,hz3⟩,hf3⟩:=l7.o.bP k (by simp;omega) 3 (by decide);clear hst hgr
   try rw [Nat.add_zero] at hz0 hf0
   generalize l[k]=x at hx0 hx1 hx2 hx3 uh;go_wp2_with fail;go_roundw
   case rel=>exact ⟨k+1,by go_num,by omega,uh.o,iK aW (b_ x) (k*4) _ B2.o⟩
   case measure=>simp [intOf];omega
  have hkn:k=l.length:=by omega
  have HF:=af (show OS b_ 4 103 wr w.heap.size (.slice (some ⟨w.heap.size,0,none⟩) l.length l.length) l by
   have h9:=ho.o;rw [hkn,List.take_length,Nat.sub_self,List.replicate_zero,List.append_nil] at h9;exact h9)
  clear hkn;go_wp2_with fail;go_ret;exact ⟨_,rfl,HF.o,hb.o⟩
theorem OS.qW {α:Type} {f:α->List Value} {sz:Nat} {e:TypeId} {w w':World} {base g:Nat} {v:Value} {l:List α} (h:OS f sz e w base v l) (hr:g<base) (hg:w.grownBy w' (some g)):OS f sz e w' base v l:=by
 refine h.kept hg ?_
 cases hv:v.ownBlock with
 | none=>exact .inl rfl
 | some k=>refine .inr fun e=>?_;have:=(h.lt k hv).1;simp at e;omega
theorem OM.jb {w:World} {base hi g:Nat} {u:Value} {m:List (List Int)} (h:OM w base hi u m) (hg:g<base) (k:Nat) (x:Value):OM (w.setCell ⟨g,k,none⟩ x) base hi u m:=by
 obtain ⟨ss,hl,ho,hr,hs⟩:=h;exact ⟨ss,hl,⟨ho.1.qW hg (aK w g k x),ho.2⟩,fun i h h'=>⟨(hr i h h').1.qW hg (aK w g k x),(hr i h h').2⟩,hs⟩
theorem OE.jb {w:World} {base hi g:Nat} {u:Value} {m:List Kx.Env} (h:OE w base hi u m) (hg:g<base) (k:Nat) (x:Value):OE (w.setCell ⟨g,k,none⟩ x) base hi u m:=by
 obtain ⟨ss,hl,ho,hr,hs⟩:=h;exact ⟨ss,hl,⟨ho.1.qW hg (aK w g k x),ho.2⟩,fun i h h'=>⟨(hr i h h').1,(hr i h h').2.1.qW hg (aK w g k x),(hr i h h').2.2⟩,hs⟩
theorem xA {α:Type} {f:α->List Value} {sz:Nat} {e:TypeId} {w:World} {base g:Nat} {v u:Value} {l:List α} (h:OS f sz e w base v l) (hu:u.ownBlock=some g) (hg:g<base):Sep v u:=by
 cases hv:v.ownBlock with
 | none=>exact .inl hv
 | some k=>refine .inr fun e=>?_;have:=(h.lt k hv).1;rw [hv,hu] at e;simp at e;omega
theorem Jf (l:List (List Int)) (v:Value) (w:World) (h:RM w v l) (Jd:l.length<=1048576):Calls prog 103 #[v] w fun e w'=>∃ u,e=.returned u/\OM w' w.heap.size w'.heap.size u l/\Below w.heap.size w w':=by
 obtain ⟨_,a,cap,rfl,_,_⟩:=h.len;have H:=af h;clear h;obtain ⟨i0,hi,hz0,hz1,hz2⟩:=info_parts Bo;have hc1:i0.bytes*l.length<=281474976710656:=by rw [hz2];omega
 have hc2:l.length<=maxLen:=by unfold maxLen;omega
 go_enter func103,ntmps103;go_wp2_with (at_make;refine wpList_make_full _ rfl _ _ 23 rfl w.heap.size 29 i0 (.slice none 0 0) 1 underlying23 hi hz0 hz1 .i64 .i64 _ _ l.length rfl rfl rfl rfl hc1 hc2 aW ?_;intro w1 hown hgrow);have B1:=af (Below.lC hgrow);have O1:=af (show OS rO 1 29 w1 w.heap.size (.slice (some ⟨w.heap.size,0,none⟩) l.length l.length) (List.replicate l.length ⟨none,0,0⟩) from ⟨by rw [<-jM (f:=rO) (sz:=1) (fun _=>rfl) (by decide) ⟨none,0,0⟩ _ rfl l.length,List.length_replicate];exact hown,by simp;omega⟩);clear hi hz0 hz1 hz2 hgrow hown
 go_loopw [4] (fun i wr=>∃ (k:Nat) (ss:List qj),i=I_ k/\k<=l.length/\TI (ss.length=l.length)/\TI (OS rO 1 29 wr w.heap.size (.slice (some ⟨w.heap.size,0,none⟩) l.length l.length) ss)/\TI (MI wr w.heap.size l ss k)/\TI (Below w.heap.size w wr)/\TI (w.heap.size<wr.heap.size\/l.length=0)) (fun i _=>l.length - (intOf i).toNat)
 case atStart =>
  refine ⟨0,List.replicate l.length ⟨none,0,0⟩,rfl,Nat.zero_le _,by simp [TI],O1.o,⟨fun i h h' hk=>absurd hk (Nat.not_lt_zero _),fun i j h h' _ hk=>absurd hk (Nat.not_lt_zero _)⟩,B1.o,?_⟩
  by_cases h0:l.length=0
  ·exact .inr h0
  exact .inl ((O1.o.lt w.heap.size rfl).2)
 case round =>
  clear O1 B1;obtain ⟨k,ss,rfl,hk,hsl,ho,Jt,hb,hgw⟩:=hrel
  by_cases hlt:k<l.length
  ·obtain ⟨b,off,cap1,u,e,_,hx0,m_⟩:=(H.o.below hb.o).at hlt;rw [show Kx.row l k=l[k] from by simp [Kx.row,hlt]] at m_;obtain ⟨rfl,_,rfl⟩:=Za e;clear e;have kQ:(k:Int)<(l.length:Int):=by omega
   have UC:=af (show w.heap.size<wr.heap.size by rcases hgw.o with h | h;exact h;omega)
   have HC:=af (KZ l[k] u wr m_);obtain ⟨a9,c9,rfl⟩:=m_.val;clear m_;go_wp2_with fail;refine HC.o.mono ?_;rintro e w2 ⟨u2,rfl,ho2,hb2⟩;obtain ⟨a8,c8,rfl⟩:=ho2.ri.val;have l7:=af (ho.o.below hb2);have B2:=af (hb.o.trans (hb2.mono hb.o.size));obtain ⟨hst,hgr⟩:=l7.o.jy hsl.o k ⟨a8,l[k].length,c8⟩ (by have:=hsl.o;omega);rw [Nat.mul_one] at hst hgr;have uh:=af hst;have Vm:=af (Jt.o.step hb2 ⟨a8,l[k].length,c8⟩ (by have:=hsl.o;omega) hlt ho2 UC.o hgr);have Vo:=af (show (ss.set k ⟨a8,l[k].length,c8⟩).length=l.length by rw [List.length_set];exact hsl.o);have N8:=af (show w.heap.size<(kP w2 w.heap.size k (rO ⟨a8,l[k].length,c8⟩)).heap.size from Nat.lt_of_lt_of_le UC.o (Nat.le_trans hb2.size hgr.size));obtain ⟨⟨z0,hz0⟩,hf0⟩:=l7.o.bP k (by have:=hsl.o;omega) 0 (by decide);rw [Nat.add_zero,Nat.mul_one] at hz0 hf0
   clear hst hgr ho2 hb2 HC;generalize l[k].length=n8 at uh Vm Vo N8 ⊢;go_wp2_with fail;go_roundw
   case rel=>exact ⟨k+1,_,by go_num,by omega,Vo.o,uh.o,Vm.o,iK aW (rO ⟨a8,n8,c8⟩) k _ B2.o,.inl N8.o⟩
   case measure=>simp [intOf];omega
  have hkn:k=l.length:=by omega
  have HF:=af (show OM wr w.heap.size wr.heap.size (.slice (some ⟨w.heap.size,0,none⟩) l.length l.length) l from
   ⟨ss,hsl.o,⟨ho.o,ho.o.ub⟩,fun i h h'=>⟨(Jt.o.1 i h h' (by omega)).mono (Nat.le_succ _),(Jt.o.1 i h h' (by omega)).os.ub,xA (Jt.o.1 i h h' (by omega)).os rfl (Nat.lt_succ_self _)⟩,fun i j h h' hij=>Jt.o.2 i j h h' hij (by have:=hsl.o;omega)⟩)
  clear hkn;go_wp2_with fail;go_ret;exact ⟨_,rfl,HF.o,hb.o⟩
theorem OS.jb {α:Type} {f:α->List Value} {sz:Nat} {e:TypeId} {w:World} {base g:Nat} {v:Value} {l:List α} (h:OS f sz e w base v l) (hg:g<base) (k:Nat) (x:Value):OS f sz e (w.setCell ⟨g,k,none⟩ x) base v l:=h.qW hg (aK w g k x)
theorem N9 (l:List Kx.Str) (u:Value) (r:Int) (w:World) (h:dK w u l) (Jd:l.length<=1048576):Calls prog 185 #[.agg #[u,I_ r]] w fun e w'=>∃ s:qj,e=.returned (.agg #[dM s,I_ r])/\OS df 1 9 w' w.heap.size (dM s) l/\Below w.heap.size w w':=by
 obtain ⟨a,cap,rfl,_,_⟩:=RS.val h;obtain ⟨w0,hw0⟩:=XP (w.alloc (.cells #[.slice a l.length cap,I_ r] 175));obtain ⟨w1,hw1⟩:=XP (w0.alloc (.cells #[.slice none 0 0,I_ 0] 86));obtain ⟨w2,hw2⟩:=XP (w1.alloc (.cells #[.slice none 0 0,I_ 0] 86));have B0:=af (show Below w.heap.size w w0 from hw0 ▸ dm);have B1:=af (show Below w0.heap.size w0 w1 from hw1 ▸ dm);have B2:=af (show Below w1.heap.size w1 w2 from hw2 ▸ dm);have X0:=af (show BX w2 w.heap.size 175 [.slice a l.length cap,I_ r] from ((hw0 ▸ BX.new w _ _:BX w0 _ _ _).below B1.o).below B2.o);have X1:=af (show BX w2 w0.heap.size 86 [.slice none 0 0,I_ 0] from (hw1 ▸ BX.new w0 _ _:BX w1 _ _ _).below B2.o);have X2:=af (show BX w2 w1.heap.size 86 [.slice none 0 0,I_ 0] from (hw2 ▸ BX.new w1 _ _:BX w2 _ _ _))
 have X5:=af (B0.o.trans ((B1.o.trans (B2.o.mono B1.o.size)).mono B0.o.size));have s0:w.heap.size<w0.heap.size:=by rw [<-hw0];simp
 have s1:w0.heap.size<w1.heap.size:=by rw [<-hw1];simp
 have s2:w1.heap.size<w2.heap.size:=by rw [<-hw2];simp
 have HC:=af (EO l _ w2 (RS.below h X5.o) Jd);have e0:=X0.o.cell 0;clear h B0 B1 B2;go_enter func185,ntmps185
 -- RW
 go_wp2_with fail;refine HC.o.mono ?_;rintro e w3 ⟨u2,rfl,ho2,hb2⟩;obtain ⟨a2,c2,rfl,_,_⟩:=RS.val ho2.rs;have Y0_:=af (X0.o.below hb2);have Y1_:=af (X1.o.below hb2);have Y2:=af (X2.o.below hb2);have Ho:=af ho2;have Hb:=af (X5.o.trans (hb2.mono X5.o.size));have y01:w3.cell? ⟨w.heap.size,1,none⟩=some (I_ r):=Y0_.o.cell 1;have y10:w3.cell? ⟨w0.heap.size,0,none⟩=some (.slice none 0 0):=Y1_.o.cell 0;have ZG:w3.cell? ⟨w0.heap.size,1,none⟩=some (I_ 0):=Y1_.o.cell 1;have y20:w3.cell? ⟨w1.heap.size,0,none⟩=some (.slice none 0 0):=Y2.o.cell 0;have y21:w3.cell? ⟨w1.heap.size,1,none⟩=some (I_ 0):=Y2.o.cell 1;have g10:=Y1_.o.frozen 0;have g11:=Y1_.o.frozen 1;have g20:=Y2.o.frozen 0;have g21:=Y2.o.frozen 1;clear ho2 hb2 X0 X1 X2 HC e0;go_wp2_with fail
 have Z:=(((Y1_.o.other (g':=w1.heap.size) (by omega) 0 (.slice a2 l.length c2)).other (g':=w1.heap.size) (by omega) 1 (I_ r)).set 0 (.slice a2 l.length c2)).set 1 (I_ r);have z0:=Z.cell 0;have z1:=Z.cell 1;refine af7 (by simp [results,results185,go_sem,z0,z1]<;>rfl) ⟨⟨a2,l.length,c2⟩,rfl,?_,?_⟩
 ·exact ((((Ho.o.jb (by omega) _ _).jb (by omega) _ _).jb (by omega) _ _).jb (by omega) _ _).mono (by omega)
 exact (((Hb.o.setCell (p:=⟨w1.heap.size,0,none⟩) (by show w.heap.size<=w1.heap.size;omega) _).setCell (p:=⟨w1.heap.size,1,none⟩) (by show w.heap.size<=w1.heap.size;omega) _).setCell (p:=⟨w0.heap.size,0,none⟩) (by show w.heap.size<=w0.heap.size;omega) _).setCell (p:=⟨w0.heap.size,1,none⟩) (by show w.heap.size<=w0.heap.size;omega) _
def ME (w:World) (g:Nat) (m:List Kx.Env) (ss:List (qj×Int)) (k:Nat):Prop:=
 (∀ i (h:i<ss.length) (h':i<m.length),i<k->ss[i].2=m[i].root/\OS df 1 9 w (g+1) (dM ss[i].1) m[i].aB)/\∀ i j (h:i<ss.length) (h':j<ss.length),i<j->j<k->Sep (dM ss[j].1) (dM ss[i].1)
theorem ME.step {w w2 w3:World} {g:Nat} {m:List Kx.Env} {ss:List (qj×Int)} {k:Nat} (h:ME w g m ss k) (hb:Below w.heap.size w w2) (s:qj) (r:Int) (hk:k<ss.length) (hkm:k<m.length) (hr:r=m[k].root) (ho:OS df 1 9 w2 w.heap.size (dM s) m[k].aB) (hgw:g<w.heap.size) (hg:w2.grownBy w3 (some g)):ME w3 g m (ss.set k (s,r)) (k+1):=by
 obtain ⟨h1,h2⟩:=h;have ho':OS df 1 9 w2 (g+1) (dM s) m[k].aB:=ho.mono (by omega);refine ⟨fun i hi hi' hik=>?_,fun i j hi hj hij hjk=>?_⟩
 ·by_cases e:i=k
  ·subst e;rw [List.getElem_set_self];exact ⟨hr,ho'.qW (by omega) hg⟩
  rw [List.getElem_set_ne (Ne.symm e)];have:=h1 i (by simpa using hi) hi' (by omega);exact ⟨this.1,(this.2.below hb).qW (by omega) hg⟩
 have hi0:i<ss.length:=by simpa using hi
 have hj0:j<ss.length:=by simpa using hj
 by_cases e:j=k
 ·subst e;rw [List.getElem_set_self,List.getElem_set_ne (by omega)];have hA:=(h1 i hi0 (by omega) hij).2;exact Sep.later hA ho aW
 rw [List.getElem_set_ne (by omega),List.getElem_set_ne (by omega)];exact h2 i j hi0 hj0 hij (by omega)
theorem LX (l:List Kx.Env) (v:Value) (w:World) (h:uo w v l) (Jd:l.length<=1048576) (hlr:∀ x ∈ l,x.aB.length<=1048576):Calls prog 105 #[v] w fun e w'=>∃ u,e=.returned u/\OE w' w.heap.size w'.heap.size u l/\Below w.heap.size w w':=by
 obtain ⟨_,a,cap,rfl,_,_⟩:=h.len;have H:=af h;clear h;have Hlr:=af hlr;clear hlr;obtain ⟨i0,hi,hz0,hz1,hz2⟩:=info_parts EN;have hc1:i0.bytes*l.length<=281474976710656:=by rw [hz2];omega
 have hc2:l.length<=maxLen:=by unfold maxLen;omega
 go_enter func105,ntmps105;go_wp2_with (at_make;refine wpList_make_full _ rfl _ _ 25 rfl w.heap.size 86 i0 (.agg #[.slice none 0 0,I_ 0]) 2 underlying25 hi hz0 hz1 .i64 .i64 _ _ l.length rfl rfl rfl rfl hc1 hc2 aW ?_;intro w1 hown hgrow);have B1:=af (Below.lC hgrow);have O1:=af (show OS jG 2 86 w1 w.heap.size (.slice (some ⟨w.heap.size,0,none⟩) l.length l.length) (List.replicate l.length (⟨none,0,0⟩,0)) from ⟨by rw [<-jM (f:=jG) (sz:=2) (fun _=>rfl) (by decide) (⟨none,0,0⟩,0) _ rfl l.length,List.length_replicate];exact hown,by simp;omega⟩);clear hi hz0 hz1 hz2 hgrow hown
 go_loopw [4] (fun i wr=>∃ (k:Nat) (ss:List (qj×Int)),i=I_ k/\k<=l.length/\TI (ss.length=l.length)/\TI (OS jG 2 86 wr w.heap.size (.slice (some ⟨w.heap.size,0,none⟩) l.length l.length) ss)/\TI (ME wr w.heap.size l ss k)/\TI (Below w.heap.size w wr)/\TI (w.heap.size<wr.heap.size\/l.length=0)) (fun i _=>l.length - (intOf i).toNat)
 case atStart =>
  refine ⟨0,List.replicate l.length (⟨none,0,0⟩,0),rfl,Nat.zero_le _,by simp [TI],O1.o,⟨fun i h h' hk=>absurd hk (Nat.not_lt_zero _),fun i j h h' _ hk=>absurd hk (Nat.not_lt_zero _)⟩,B1.o,?_⟩
  by_cases h0:l.length=0
  ·exact .inr h0
  exact .inl ((O1.o.lt w.heap.size rfl).2)
 case round =>
  clear O1 B1;obtain ⟨k,ss,rfl,hk,hsl,ho,Jt,hb,hgw⟩:=hrel
  by_cases hlt:k<l.length
  ·obtain ⟨b,off,cap1,u,e,_,hx0,hx1,m_⟩:=(H.o.below hb.o).at hlt;rw [show au l k=l[k] from by simp [au,hlt]] at hx1 m_;obtain ⟨rfl,_,rfl⟩:=Za e;clear e;have kQ:(k:Int)<(l.length:Int):=by omega
   have UC:=af (show w.heap.size<wr.heap.size by rcases hgw.o with h | h;exact h;omega)
   have HC:=af (N9 l[k].aB u l[k].root wr m_ (Hlr.o _ (List.getElem_mem hlt)));obtain ⟨a9,c9,rfl,_,_⟩:=RS.val m_;clear m_;generalize hrt:l[k].root=r at HC hx1;have MX:=af hrt;clear hrt;go_wp2_with fail;refine HC.o.mono ?_;rintro e w2 ⟨⟨a8,n8,c8⟩,rfl,ho2,hb2⟩;have l7:=af (ho.o.below hb2);have B2:=af (hb.o.trans (hb2.mono hb.o.size));obtain ⟨hst,hgr⟩:=l7.o.jy hsl.o k (⟨a8,n8,c8⟩,r) (by have:=hsl.o;omega);have uh:=af hst;have Vm:=af (Jt.o.step hb2 ⟨a8,n8,c8⟩ r (by have:=hsl.o;omega) hlt MX.o.symm ho2 UC.o hgr);have Vo:=af (show (ss.set k (⟨a8,n8,c8⟩,r)).length=l.length by rw [List.length_set];exact hsl.o);have N8:=af (show w.heap.size<(kP w2 w.heap.size (k*2) (jG (⟨a8,n8,c8⟩,r))).heap.size from Nat.lt_of_lt_of_le UC.o (Nat.le_trans hb2.size hgr.size))
   obtain ⟨⟨z0,hz0⟩,hf0⟩:=l7.o.bP k (by have:=hsl.o;omega) 0 (by decide);obtain ⟨⟨z1,hz1⟩,hf1⟩:=l7.o.bP k (by have:=hsl.o;omega) 1 (by decide);rw [Nat.add_zero] at hz0 hf0;clear hst hgr ho2 hb2 HC;unfold dM;go_wp2_with fail;go_roundw
   case rel=>exact ⟨k+1,_,by go_num,by omega,Vo.o,uh.o,Vm.o,iK aW (jG (⟨a8,n8,c8⟩,r)) (k*2) _ B2.o,.inl N8.o⟩
   case measure=>simp [intOf];omega
  have hkn:k=l.length:=by omega
  have HF:=af (show OE wr w.heap.size wr.heap.size (.slice (some ⟨w.heap.size,0,none⟩) l.length l.length) l from
   ⟨ss,hsl.o,⟨ho.o,ho.o.ub⟩,fun i h h'=>⟨(Jt.o.1 i h h' (by omega)).1,(Jt.o.1 i h h' (by omega)).2.mono (Nat.le_succ _),(Jt.o.1 i h h' (by omega)).2.ub,xA (Jt.o.1 i h h' (by omega)).2 rfl (Nat.lt_succ_self _)⟩,fun i j h h' hij=>Jt.o.2 i j h h' hij (by have:=hsl.o;omega)⟩)
  clear hkn;go_wp2_with fail;go_ret;exact ⟨_,rfl,HF.o,hb.o⟩
def OK (w:World) (base hi:Nat) (um ui ue uc:Value) (k:Kx.Kernel):Prop:=
 ∃ b1 b2 b3,(base<=b1/\b1<=b2/\b2<=b3/\b3<=hi)/\OM w base b1 um k.mem/\(OS bH 3 98 w b1 ui k.ag/\UB ui b2)/\OE w b2 b3 ue k.ah/\(OS b_ 4 103 w b3 uc k.cache/\UB uc hi)
theorem OK.rk {w:World} {base hi:Nat} {um ui ue uc:Value} {k:Kx.Kernel} (h:OK w base hi um ui ue uc k):RK w um ui ue uc k:=by
 obtain ⟨b1,b2,b3,_,h1,h2,h3,h4⟩:=h;exact ⟨h1.rm,h2.1.rs,h3.re,h4.1.rs⟩
theorem OK.below {w w':World} {base hi:Nat} {um ui ue uc:Value} {k:Kx.Kernel} (h:OK w base hi um ui ue uc k) (hb:Below w.heap.size w w'):OK w' base hi um ui ue uc k:=by
 obtain ⟨b1,b2,b3,h0,h1,h2,h3,h4⟩:=h;exact ⟨b1,b2,b3,h0,h1.below hb,⟨h2.1.below hb,h2.2⟩,h3.below hb,⟨h4.1.below hb,h4.2⟩⟩
theorem OK.jb {w:World} {base hi g:Nat} {um ui ue uc:Value} {k:Kx.Kernel} (h:OK w base hi um ui ue uc k) (hg:g<base) (o:Nat) (x:Value):OK (w.setCell ⟨g,o,none⟩ x) base hi um ui ue uc k:=by
 obtain ⟨b1,b2,b3,h0,h1,h2,h3,h4⟩:=h;exact ⟨b1,b2,b3,h0,h1.jb hg o x,⟨h2.1.jb (by omega) o x,h2.2⟩,h3.jb (by omega) o x,⟨h4.1.jb (by omega) o x,h4.2⟩⟩
theorem OK.mono {w:World} {base base' hi hi':Nat} {um ui ue uc:Value} {k:Kx.Kernel} (h:OK w base hi um ui ue uc k) (hb:base'<=base) (hh:hi<=hi'):OK w base' hi' um ui ue uc k:=by
 obtain ⟨b1,b2,b3,h0,h1,h2,h3,h4⟩:=h;exact ⟨b1,b2,b3,by omega,h1.mono hb aW,h2,h3,⟨h4.1,h4.2.mono hh⟩⟩
theorem QR (k:Kx.Kernel) (vm vi ve vc:Value) (w:World) (h:RK w vm vi ve vc k) (h1:k.mem.length<=1048576) (h2:k.ag.length<=1048576) (h3:k.ah.length<=1048576) (h3':∀ x ∈ k.ah,x.aB.length<=1048576) (h4:k.cache.length<=1048576) :
  Calls prog 32 #[.agg #[vm,vi,ve,vc]] w fun e w'=>∃ um ui ue uc,e=.returned (.agg #[um,ui,ue,uc])/\OK w' w.heap.size w'.heap.size um ui ue uc k/\Below w.heap.size w w':=by
 have H:=af h;have H3:=af h3';obtain ⟨_,am,cm,rfl,_,_⟩:=h.m.len;obtain ⟨ai,ci,rfl,_,_⟩:=RS.val h.i;obtain ⟨_,ae,ce,rfl,_,_⟩:=h.e.len;obtain ⟨ac,cc,rfl,_,_⟩:=RS.val h.c;clear h h3';obtain ⟨w0,hw0⟩:=XP (w.alloc (.cells #[.slice am k.mem.length cm,.slice ai k.ag.length ci,.slice ae k.ah.length ce,.slice ac k.cache.length cc] 65));obtain ⟨w1,hw1⟩:=XP (w0.alloc (.cells #[.slice none 0 0,.slice none 0 0,.slice none 0 0,.slice none 0 0] 28));obtain ⟨w2,hw2⟩:=XP (w1.alloc (.cells #[.slice none 0 0,.slice none 0 0,.slice none 0 0,.slice none 0 0] 28));have B0:=af (show Below w.heap.size w w0 from hw0 ▸ dm);have B1:=af (show Below w0.heap.size w0 w1 from hw1 ▸ dm);have B2:=af (show Below w1.heap.size w1 w2 from hw2 ▸ dm)
 have X0:=af (show BX w2 w.heap.size 65 [.slice am k.mem.length cm,.slice ai k.ag.length ci,.slice ae k.ah.length ce,.slice ac k.cache.length cc] from ((hw0 ▸ BX.new w _ _:BX w0 _ _ _).below B1.o).below B2.o);have X1:=af (show BX w2 w0.heap.size 28 [.slice none 0 0,.slice none 0 0,.slice none 0 0,.slice none 0 0] from (hw1 ▸ BX.new w0 _ _:BX w1 _ _ _).below B2.o);have X2:=af (show BX w2 w1.heap.size 28 [.slice none 0 0,.slice none 0 0,.slice none 0 0,.slice none 0 0] from (hw2 ▸ BX.new w1 _ _:BX w2 _ _ _));have Bw:=af (B0.o.trans ((B1.o.trans (B2.o.mono B1.o.size)).mono B0.o.size));have s0:w.heap.size<w0.heap.size:=by rw [<-hw0];simp
 have s1:w0.heap.size<w1.heap.size:=by rw [<-hw1];simp
 have s2:w1.heap.size<w2.heap.size:=by rw [<-hw2];simp
 clear B0 B1 B2;have HC:=af (Jf k.mem _ w2 (H.o.m.below Bw.o) h1);have p0:w2.cell? ⟨w.heap.size,0,none⟩=some (.slice am k.mem.length cm):=X0.o.cell 0;have p1:w2.cell? ⟨w.heap.size,1,none⟩=some (.slice ai k.ag.length ci):=X0.o.cell 1;have p2:w2.cell? ⟨w.heap.size,2,none⟩=some (.slice ae k.ah.length ce):=X0.o.cell 2;have p3:w2.cell? ⟨w.heap.size,3,none⟩=some (.slice ac k.cache.length cc):=X0.o.cell 3;go_enter func32,ntmps32;go_wp2_with fail;clear p0 p1 p2 p3;refine HC.o.mono ?_;rintro e w3 ⟨u0,rfl,ho,hb⟩;obtain ⟨_,a0,c0,rfl,_,_⟩:=ho.rm.len;have zw3:w2.heap.size<=w3.heap.size:=hb.size;replace X0:=af (X0.o.below hb);replace X1:=af (X1.o.below hb);replace X2:=af (X2.o.below hb);replace Bw:=af (Bw.o.trans (hb.mono Bw.o.size));have Q0:=af (ho );clear ho hb HC;have o0:w3.cell? ⟨w1.heap.size,0,none⟩=some (.slice none 0 0):=X2.o.cell 0
 have Zv:=X2.o.frozen 0;obtain ⟨w4,hw4⟩:∃ W,w3.setCell ⟨w1.heap.size,0,none⟩ (.slice a0 k.mem.length c0)=W:=⟨_,rfl⟩;replace X0:=af (hw4 ▸ (X0.o.other (g':=w1.heap.size) (by omega) 0 (.slice a0 k.mem.length c0)):BX w4 w.heap.size _ _);replace X1:=af (hw4 ▸ (X1.o.other (g':=w1.heap.size) (by omega) 0 (.slice a0 k.mem.length c0)):BX w4 w0.heap.size _ _);replace X2:=af (hw4 ▸ (X2.o.set 0 (.slice a0 k.mem.length c0)):BX w4 w1.heap.size _ _);replace Bw:=af (hw4 ▸ (Bw.o.setCell (p:=⟨w1.heap.size,0,none⟩) (show w.heap.size<=w1.heap.size by omega) (.slice a0 k.mem.length c0)):Below w.heap.size w w4);replace Q0:=af (hw4 ▸ (Q0.o.jb (g:=w1.heap.size) (by omega) 0 (.slice a0 k.mem.length c0)):OM w4 _ _ _ _);have zw4:w4.heap.size=w3.heap.size:=by rw [<-hw4];simp [World.setCell]
 have p0:w4.cell? ⟨w.heap.size,0,none⟩=some (.slice am k.mem.length cm):=X0.o.cell 0;have p1:w4.cell? ⟨w.heap.size,1,none⟩=some (.slice ai k.ag.length ci):=X0.o.cell 1;have p2:w4.cell? ⟨w.heap.size,2,none⟩=some (.slice ae k.ah.length ce):=X0.o.cell 2;have p3:w4.cell? ⟨w.heap.size,3,none⟩=some (.slice ac k.cache.length cc):=X0.o.cell 3;have HC:=af (Je k.ag _ w4 (RS.below H.o.i Bw.o) h2);go_wp2_with fail;clear p0 p1 p2 p3 o0 Zv;refine HC.o.mono ?_;rintro e w5 ⟨u1,rfl,ho,hb⟩;obtain ⟨a1,c1,rfl,_,_⟩:=RS.val ho.rs;have zw5:w4.heap.size<=w5.heap.size:=hb.size;replace X0:=af (X0.o.below hb);replace X1:=af (X1.o.below hb);replace X2:=af (X2.o.below hb);replace Q0:=af (Q0.o.below hb);replace Bw:=af (Bw.o.trans (hb.mono Bw.o.size));have Q1:=af ((show OS bH 3 98 w5 _ _ k.ag from ho) );have U1:=af ho.ub;clear ho hb HC
 have o1:w5.cell? ⟨w1.heap.size,1,none⟩=some (.slice none 0 0):=X2.o.cell 1;have Zw:=X2.o.frozen 1;obtain ⟨w6,hw6⟩:∃ W,w5.setCell ⟨w1.heap.size,1,none⟩ (.slice a1 k.ag.length c1)=W:=⟨_,rfl⟩;replace X0:=af (hw6 ▸ (X0.o.other (g':=w1.heap.size) (by omega) 1 (.slice a1 k.ag.length c1)):BX w6 w.heap.size _ _);replace X1:=af (hw6 ▸ (X1.o.other (g':=w1.heap.size) (by omega) 1 (.slice a1 k.ag.length c1)):BX w6 w0.heap.size _ _);replace X2:=af (hw6 ▸ (X2.o.set 1 (.slice a1 k.ag.length c1)):BX w6 w1.heap.size _ _);replace Bw:=af (hw6 ▸ (Bw.o.setCell (p:=⟨w1.heap.size,1,none⟩) (show w.heap.size<=w1.heap.size by omega) (.slice a1 k.ag.length c1)):Below w.heap.size w w6);replace Q0:=af (hw6 ▸ (Q0.o.jb (g:=w1.heap.size) (by omega) 1 (.slice a1 k.ag.length c1)):OM w6 _ _ _ _)
 replace Q1:=af (hw6 ▸ (Q1.o.jb (g:=w1.heap.size) (by omega) 1 (.slice a1 k.ag.length c1)):OS bH 3 98 w6 _ _ _);have zw6:w6.heap.size=w5.heap.size:=by rw [<-hw6];simp [World.setCell]
 have p0:w6.cell? ⟨w.heap.size,0,none⟩=some (.slice am k.mem.length cm):=X0.o.cell 0;have p1:w6.cell? ⟨w.heap.size,1,none⟩=some (.slice ai k.ag.length ci):=X0.o.cell 1;have p2:w6.cell? ⟨w.heap.size,2,none⟩=some (.slice ae k.ah.length ce):=X0.o.cell 2;have p3:w6.cell? ⟨w.heap.size,3,none⟩=some (.slice ac k.cache.length cc):=X0.o.cell 3;have HC:=af (LX k.ah _ w6 (H.o.e.below Bw.o) h3 H3.o);go_wp2_with fail;clear p0 p1 p2 p3 o1 Zw;refine HC.o.mono ?_;rintro e w7 ⟨u2,rfl,ho,hb⟩;obtain ⟨_,a2,c2,rfl,_,_⟩:=ho.re.len;have zw7:w6.heap.size<=w7.heap.size:=hb.size;replace X0:=af (X0.o.below hb);replace X1:=af (X1.o.below hb);replace X2:=af (X2.o.below hb);replace Q0:=af (Q0.o.below hb);replace Q1:=af (Q1.o.below hb);replace Bw:=af (Bw.o.trans (hb.mono Bw.o.size));have Q2:=af (ho );clear ho hb HC
 have o2:w7.cell? ⟨w1.heap.size,2,none⟩=some (.slice none 0 0):=X2.o.cell 2;have Zx:=X2.o.frozen 2;obtain ⟨w8,hw8⟩:∃ W,w7.setCell ⟨w1.heap.size,2,none⟩ (.slice a2 k.ah.length c2)=W:=⟨_,rfl⟩;replace X0:=af (hw8 ▸ (X0.o.other (g':=w1.heap.size) (by omega) 2 (.slice a2 k.ah.length c2)):BX w8 w.heap.size _ _);replace X1:=af (hw8 ▸ (X1.o.other (g':=w1.heap.size) (by omega) 2 (.slice a2 k.ah.length c2)):BX w8 w0.heap.size _ _);replace X2:=af (hw8 ▸ (X2.o.set 2 (.slice a2 k.ah.length c2)):BX w8 w1.heap.size _ _);replace Bw:=af (hw8 ▸ (Bw.o.setCell (p:=⟨w1.heap.size,2,none⟩) (show w.heap.size<=w1.heap.size by omega) (.slice a2 k.ah.length c2)):Below w.heap.size w w8);replace Q0:=af (hw8 ▸ (Q0.o.jb (g:=w1.heap.size) (by omega) 2 (.slice a2 k.ah.length c2)):OM w8 _ _ _ _)
 replace Q1:=af (hw8 ▸ (Q1.o.jb (g:=w1.heap.size) (by omega) 2 (.slice a2 k.ah.length c2)):OS bH 3 98 w8 _ _ _);replace Q2:=af (hw8 ▸ (Q2.o.jb (g:=w1.heap.size) (by omega) 2 (.slice a2 k.ah.length c2)):OE w8 _ _ _ _);have zw8:w8.heap.size=w7.heap.size:=by rw [<-hw8];simp [World.setCell]
 have p0:w8.cell? ⟨w.heap.size,0,none⟩=some (.slice am k.mem.length cm):=X0.o.cell 0;have p1:w8.cell? ⟨w.heap.size,1,none⟩=some (.slice ai k.ag.length ci):=X0.o.cell 1;have p2:w8.cell? ⟨w.heap.size,2,none⟩=some (.slice ae k.ah.length ce):=X0.o.cell 2;have p3:w8.cell? ⟨w.heap.size,3,none⟩=some (.slice ac k.cache.length cc):=X0.o.cell 3;have HC:=af (EP k.cache _ w8 (RS.below H.o.c Bw.o) h4);go_wp2_with fail;clear p0 p1 p2 p3 o2 Zx;refine HC.o.mono ?_;rintro e w9 ⟨u3,rfl,ho,hb⟩;obtain ⟨a3,c3,rfl,_,_⟩:=RS.val ho.rs;have zw9:w8.heap.size<=w9.heap.size:=hb.size;replace X0:=af (X0.o.below hb);replace X1:=af (X1.o.below hb);replace X2:=af (X2.o.below hb);replace Q0:=af (Q0.o.below hb);replace Q1:=af (Q1.o.below hb);replace Q2:=af (Q2.o.below hb);replace Bw:=af (Bw.o.trans (hb.mono Bw.o.size))
 have Q3:=af ((show OS b_ 4 103 w9 _ _ k.cache from ho) );have U3:=af ho.ub;clear ho hb HC;have o3:w9.cell? ⟨w1.heap.size,3,none⟩=some (.slice none 0 0):=X2.o.cell 3;have fo3:=X2.o.frozen 3;have p0:w9.cell? ⟨w.heap.size,0,none⟩=some (.slice am k.mem.length cm):=X0.o.cell 0;have p1:w9.cell? ⟨w.heap.size,1,none⟩=some (.slice ai k.ag.length ci):=X0.o.cell 1;have p2:w9.cell? ⟨w.heap.size,2,none⟩=some (.slice ae k.ah.length ce):=X0.o.cell 2;have p3:w9.cell? ⟨w.heap.size,3,none⟩=some (.slice ac k.cache.length cc):=X0.o.cell 3;have r0:w9.cell? ⟨w0.heap.size,0,none⟩=some (.slice none 0 0):=X1.o.cell 0;have jh:=X1.o.frozen 0;have o0:w9.cell? ⟨w1.heap.size,0,none⟩=some (.slice a0 k.mem.length c0):=X2.o.cell 0;have Zv:=X2.o.frozen 0;have r1:w9.cell? ⟨w0.heap.size,1,none⟩=some (.slice none 0 0):=X1.o.cell 1;have ji:=X1.o.frozen 1
 have o1:w9.cell? ⟨w1.heap.size,1,none⟩=some (.slice a1 k.ag.length c1):=X2.o.cell 1;have Zw:=X2.o.frozen 1;have r2:w9.cell? ⟨w0.heap.size,2,none⟩=some (.slice none 0 0):=X1.o.cell 2;have jk:=X1.o.frozen 2;have o2:w9.cell? ⟨w1.heap.size,2,none⟩=some (.slice a2 k.ah.length c2):=X2.o.cell 2;have Zx:=X2.o.frozen 2;have r3:w9.cell? ⟨w0.heap.size,3,none⟩=some (.slice none 0 0):=X1.o.cell 3;have jl:=X1.o.frozen 3;go_wp2_with fail;have Z:=(((((X1.o.other (g':=w1.heap.size) (by omega) 3 (.slice a3 k.cache.length c3)).set 0 (.slice a0 k.mem.length c0)).set 1 (.slice a1 k.ag.length c1)).set 2 (.slice a2 k.ah.length c2)).set 3 (.slice a3 k.cache.length c3));have e0:=Z.cell 0;have e1:=Z.cell 1;have e2:=Z.cell 2;have e3:=Z.cell 3
 have BF:=af (((((Bw.o.setCell (p:=⟨w1.heap.size,3,none⟩) (show w.heap.size<=w1.heap.size by omega) (.slice a3 k.cache.length c3)).setCell (p:=⟨w0.heap.size,0,none⟩) (show w.heap.size<=w0.heap.size by omega) (.slice a0 k.mem.length c0)).setCell (p:=⟨w0.heap.size,1,none⟩) (show w.heap.size<=w0.heap.size by omega) (.slice a1 k.ag.length c1)).setCell (p:=⟨w0.heap.size,2,none⟩) (show w.heap.size<=w0.heap.size by omega) (.slice a2 k.ah.length c2)).setCell (p:=⟨w0.heap.size,3,none⟩) (show w.heap.size<=w0.heap.size by omega) (.slice a3 k.cache.length c3))
 have F0:=af (((((Q0.o.jb (g:=w1.heap.size) (by omega) 3 (.slice a3 k.cache.length c3)).jb (g:=w0.heap.size) (by omega) 0 (.slice a0 k.mem.length c0)).jb (g:=w0.heap.size) (by omega) 1 (.slice a1 k.ag.length c1)).jb (g:=w0.heap.size) (by omega) 2 (.slice a2 k.ah.length c2)).jb (g:=w0.heap.size) (by omega) 3 (.slice a3 k.cache.length c3));have F1:=af (((((Q1.o.jb (g:=w1.heap.size) (by omega) 3 (.slice a3 k.cache.length c3)).jb (g:=w0.heap.size) (by omega) 0 (.slice a0 k.mem.length c0)).jb (g:=w0.heap.size) (by omega) 1 (.slice a1 k.ag.length c1)).jb (g:=w0.heap.size) (by omega) 2 (.slice a2 k.ah.length c2)).jb (g:=w0.heap.size) (by omega) 3 (.slice a3 k.cache.length c3))
 have F2:=af (((((Q2.o.jb (g:=w1.heap.size) (by omega) 3 (.slice a3 k.cache.length c3)).jb (g:=w0.heap.size) (by omega) 0 (.slice a0 k.mem.length c0)).jb (g:=w0.heap.size) (by omega) 1 (.slice a1 k.ag.length c1)).jb (g:=w0.heap.size) (by omega) 2 (.slice a2 k.ah.length c2)).jb (g:=w0.heap.size) (by omega) 3 (.slice a3 k.cache.length c3));have F3:=af (((((Q3.o.jb (g:=w1.heap.size) (by omega) 3 (.slice a3 k.cache.length c3)).jb (g:=w0.heap.size) (by omega) 0 (.slice a0 k.mem.length c0)).jb (g:=w0.heap.size) (by omega) 1 (.slice a1 k.ag.length c1)).jb (g:=w0.heap.size) (by omega) 2 (.slice a2 k.ah.length c2)).jb (g:=w0.heap.size) (by omega) 3 (.slice a3 k.cache.length c3))
 refine af7 (by simp [results,results32,go_sem,e0,e1,e2,e3]<;>rfl) ?_;exact ⟨_,_,_,_,rfl,⟨w4.heap.size,w6.heap.size,w8.heap.size,⟨by omega,by omega,by omega,by simp [World.setCell];omega⟩,F0.o.mono (by omega) (by omega),⟨F1.o,U1.o.mono (by omega)⟩,F2.o.mono (by omega) (by omega),⟨F3.o,U3.o.mono (by simp [World.setCell])⟩⟩,BF.o⟩
theorem ac9 (k:Kx.Kernel) (c:Kx.Call) (vm vi ve vc:Value) (w:World) (h:RK w vm vi ve vc k) (hs:iQ k) (hss:c.name.size<=9223372036854775807) :
  Calls prog 31 #[.agg #[vm,vi,ve,vc],dW c] w (JE w (QH k c)):=by
 obtain ⟨bQ,JF,ca,cb,cc,bg⟩:=c;obtain ⟨_,am,cm,rfl,_,_⟩:=h.m.len;obtain ⟨ai,ci,rfl,_,_⟩:=RS.val h.i;obtain ⟨_,ae,ce,rfl,_,_⟩:=h.e.len;obtain ⟨ac,cq,rfl,_,_⟩:=RS.val h.c;obtain ⟨w0,hw0⟩:=XP (w.alloc (.cells #[.slice am k.mem.length cm,.slice ai k.ag.length ci,.slice ae k.ah.length ce,.slice ac k.cache.length cq] 28));obtain ⟨w1,hw1⟩:=XP (w0.alloc (.cells #[I_ bQ,I_ JF,I_ ca,I_ cb,I_ cc,.string bg] 59));obtain ⟨w2,hw2⟩:=XP (w1.alloc (.cells #[.slice none 0 0,.slice none 0 0,.slice none 0 0,.slice none 0 0] 28));have B0:Below w.heap.size w w0:=hw0 ▸ dm;have B1:Below w0.heap.size w0 w1:=hw1 ▸ dm;have B2:Below w1.heap.size w1 w2:=hw2 ▸ dm;have Bw:=af (show Below w.heap.size w w2 from B0.trans ((B1.trans (B2.mono B1.size)).mono B0.size))
 have X0:=af (show BX w2 w.heap.size 28 [.slice am k.mem.length cm,.slice ai k.ag.length ci,.slice ae k.ah.length ce,.slice ac k.cache.length cq] from ((hw0 ▸ BX.new w _ _:BX w0 _ _ _).below B1).below B2);have X1:=af (show BX w2 w0.heap.size 59 [I_ bQ,I_ JF,I_ ca,I_ cb,I_ cc,.string bg] from (hw1 ▸ BX.new w0 _ _:BX w1 _ _ _).below B2);have X2:=af (show BX w2 w1.heap.size 28 [.slice none 0 0,.slice none 0 0,.slice none 0 0,.slice none 0 0] from (hw2 ▸ BX.new w1 _ _));have s0:w.heap.size<w0.heap.size:=by rw [<-hw0];simp
 have s1:w0.heap.size<w1.heap.size:=by rw [<-hw1];simp
 have s2:w1.heap.size<w2.heap.size:=by rw [<-hw2];simp
 have HR:=af (show RK w _ _ _ _ k from h);have HS:=af hs;have Jr:=af (show bg.size<=9223372036854775807 from hss);have HV:=af (kJ k _ _ _ _ w2 (show RK w2 _ _ _ _ k from ⟨HR.o.m.below Bw.o,RS.below HR.o.i Bw.o,HR.o.e.below Bw.o,RS.below HR.o.c Bw.o⟩) hs);have HK:=af (show QH k ⟨bQ,JF,ca,cb,cc,bg⟩=if !az k||!Kx.bK JF 0 2 then (Kx.Kernel.zero,0,5) else cO k ⟨bQ,JF,ca,cb,cc,bg⟩ from rfl);unfold dW;clear h hs hss B0 B1 B2;go_enter func31,ntmps31;have p0:=X0.o.c4;have c0:=X1.o.c6;go_wp2_with fail;clear hw0 hw1 hw2;refine HV.o.mono ?_;rintro en w3 ⟨rfl,hb⟩;clear HV;have Hz3:=af (show w2.heap.size<=w3.heap.size from hb.size)
 replace X0:=af (X0.o.below hb);replace X1:=af (X1.o.below hb);replace X2:=af (X2.o.below hb);replace Bw:=af (Bw.o.trans (hb.mono Bw.o.size));clear p0 c0;have p0:=X0.o.c4;have c0:=X1.o.c6;clear hb
 cases hok:az k with
 | false =>
  have HF:=af (show QH k ⟨bQ,JF,ca,cb,cc,bg⟩=(Kx.Kernel.zero,0,5) by rw [HK.o,hok];rfl);clear hok;have r0:=X2.o.c4;have jh:=X2.o.f4;go_wp2_with fail;obtain ⟨F,hF⟩:=XP (sets w3 w1.heap.size 0 [.slice none 0 0,.slice none 0 0,.slice none 0 0,.slice none 0 0]);rw [afA w3,hF];have BF:Below w.heap.size w F:=hF ▸ dP (by omega) _ 0 Bw.o;have XF_:BX F w1.heap.size 28 [.slice none 0 0,.slice none 0 0,.slice none 0 0,.slice none 0 0]:=hF ▸ X2.o.sets _ rfl;have KF_:KO F w.heap.size (.slice none 0 0) (.slice none 0 0) (.slice none 0 0) (.slice none 0 0) Kx.Kernel.zero:=KO.zero _ _;obtain ⟨e0,e1,e2,e3⟩:=XF_.c4
  refine af7 (by simp [results,results31,go_sem,e0,e1,e2,e3]<;>rfl) ?_;rw [HF.o];exact ⟨_,_,_,_,rfl,KF_,BF⟩
 | true =>
  go_wp2_with fail;refine (qZ _ _).mono ?_;rintro en w4 ⟨rfl,rfl⟩
  cases hin:Kx.bK JF 0 2 with
  | false =>
   have HF:=af (show QH k ⟨bQ,JF,ca,cb,cc,bg⟩=(Kx.Kernel.zero,0,5) by rw [HK.o,hok,hin];rfl);clear hok hin;have r0:=X2.o.c4;have jh:=X2.o.f4;go_wp2_with fail;obtain ⟨F,hF⟩:=XP (sets w3 w1.heap.size 0 [.slice none 0 0,.slice none 0 0,.slice none 0 0,.slice none 0 0]);rw [afA w3,hF];have BF:Below w.heap.size w F:=hF ▸ dP (by omega) _ 0 Bw.o;have XF_:BX F w1.heap.size 28 [.slice none 0 0,.slice none 0 0,.slice none 0 0,.slice none 0 0]:=hF ▸ X2.o.sets _ rfl;have KF_:KO F w.heap.size (.slice none 0 0) (.slice none 0 0) (.slice none 0 0) (.slice none 0 0) Kx.Kernel.zero:=KO.zero _ _;obtain ⟨e0,e1,e2,e3⟩:=XF_.c4
   refine af7 (by simp [results,results31,go_sem,e0,e1,e2,e3]<;>rfl) ?_;rw [HF.o];exact ⟨_,_,_,_,rfl,KF_,BF⟩
  | true =>
   obtain ⟨he0,he2⟩:=Kx.ay.1 hin;obtain ⟨e,rfl⟩:=Int.eq_ofNat_of_zero_le he0;obtain ⟨r,hr⟩:=XP (cO k ⟨bQ,(e:Int),ca,cb,cc,bg⟩);have HF:=af (show QH k ⟨bQ,(e:Int),ca,cb,cc,bg⟩=r by rw [HK.o,hok,hin];exact hr);have HC:=af (Ap k ⟨bQ,(e:Int),ca,cb,cc,bg⟩ e _ _ _ _ w3 (show RK w3 _ _ _ _ k from ⟨HR.o.m.below Bw.o,RS.below HR.o.i Bw.o,HR.o.e.below Bw.o,RS.below HR.o.c Bw.o⟩) hok HS.o rfl (by omega) Jr.o);rw [hr] at HC;unfold dW at HC;clear hok hin he0 he2 hr HK;go_wp2_with fail;refine HC.o.mono ?_;rintro en w5 ⟨um,ui,ue,uc,rfl,hko,hb⟩;clear HC;have tZ:=af hko;have Hb5:=af hb;replace X0:=af (X0.o.below hb);replace X1:=af (X1.o.below hb);replace X2:=af (X2.o.below hb);replace Bw:=af (Bw.o.trans (hb.mono Bw.o.size));clear p0 c0
   obtain ⟨⟨a0,n0,m0,rfl⟩,⟨a1,n1,m1,rfl⟩,⟨a2,n2,m2,rfl⟩,⟨a3,n3,m3,rfl⟩⟩:=hko.sl;clear hko hb;have r0:=X2.o.c4;have jh:=X2.o.f4;go_wp2_with fail;obtain ⟨F,hF⟩:=XP (sets w5 w1.heap.size 0 [.slice a0 n0 m0,.slice a1 n1 m1,.slice a2 n2 m2,.slice a3 n3 m3]);rw [afA w5,hF];have BF:Below w.heap.size w F:=hF ▸ dP (by omega) _ 0 Bw.o;have XF_:BX F w1.heap.size 28 [.slice a0 n0 m0,.slice a1 n1 m1,.slice a2 n2 m2,.slice a3 n3 m3]:=hF ▸ X2.o.sets _ rfl;have KF_:KO F w.heap.size (.slice a0 n0 m0) (.slice a1 n1 m1) (.slice a2 n2 m2) (.slice a3 n3 m3) r.1:=hF ▸ (tZ.o.up (Up.sets (by have:=Hz3.o;omega) _ 0 w5)).mono (by have:=Hz3.o;omega)
   obtain ⟨e0,e1,e2,e3⟩:=XF_.c4;refine af7 (by simp [results,results31,go_sem,e0,e1,e2,e3]<;>rfl) ?_;rw [HF.o];exact ⟨_,_,_,_,rfl,KF_,BF⟩
theorem ac' {P:Program} {ops:Array Oper} {Q:Exit->Act->World->Prop} {md:Region.Mode} {S:World->Prop} {o1:Oper} {v1:Value} {fuel:Nat} {listed l1:Array Bool} {a a1:Act} {w:World} (i:Nat) (h:wpAnyH P md ops Q S fuel l1 a1 w) (hS:S w:=by assumption) (h1:Stp P md ops Q S i o1 v1 listed l1 a a1:=by exact stp):wpAnyH P md ops Q S (fuel+1) listed a w:=h1.go hS h
theorem ae' {P:Program} {ops:Array Oper} {Q:Exit->Act->World->Prop} {md:Region.Mode} {S:World->Prop} {oi oj:Oper} {fuel:Nat} {listed:Array Bool} {a:Act} {w:World} (i j:Nat)
  (h:∀ K':Act->World->Prop,Shut (∀ a w,S w->(S w->wpAnyH P md ops Q S fuel (listed.setIfInBounds i true) a w)->K' a w)->Oper.wp P oi a w K' Q)
  (h':∀ K':Act->World->Prop,Shut (∀ a w,S w->(S w->wpAnyH P md ops Q S fuel (listed.setIfInBounds j true) a w)->K' a w)->Oper.wp P oj a w K' Q)
  (hi:ops[i]?=some oi:=by rfl) (hj:ops[j]?=some oj:=by rfl) (hr:Region.ready md ops listed=[i,j]:=by kernel_rfl) (hw:Region.wanted oi (yielded ops a.tmps)=true:=by rfl) (hw':Region.wanted oj (yielded ops a.tmps)=true:=by rfl) :
  wpAnyH P md ops Q S (fuel+1) listed a w:=
 wpAnyH_ready (rs:=[i,j]) hr (by simp) (AllReadyH.cons hi (fun K hK=>by rw [if_pos hw];exact h K hK) (AllReadyH.cons hj (fun K hK=>by rw [if_pos hw'];exact h' K hK) AllReadyH.nil))
def Yes (w:World) (e:Ending) (w':World):Prop:=e=.returned (.bool true)/\Below w.heap.size w w'
theorem ab_ (x:Kx.aG) (w:World):Calls prog 187 #[kN x,kN x] w (Yes w):=by
 have Hb:=af (show ∀ a b,Below w.heap.size w ((w.alloc (.cells a 98)).alloc (.cells b 98)) from fun a b=>((Below.refl w.heap.size w).alloc aW _).alloc (by simp) _)
 unfold kN;go_enter func187,ntmps187;go_wp2_with fail;go_ret;exact ⟨rfl,Hb.o _ _⟩
theorem abJ (x:Kx.Cached) (w:World):Calls prog 189 #[iT x,iT x] w (Yes w):=by
 have Hb:=af (show ∀ a b,Below w.heap.size w ((w.alloc (.cells a 103)).alloc (.cells b 103)) from fun a b=>((Below.refl w.heap.size w).alloc aW _).alloc (by simp) _)
 unfold iT;go_enter func189,ntmps189;go_wp2_with fail;go_ret;exact ⟨rfl,Hb.o _ _⟩
theorem abV (l:List Kx.aG) (v u:Value) (w:World) (h1:RS bH 3 w v l) (h2:RS bH 3 w u l):Calls prog 108 #[v,u] w (Yes w):=by
 have hl:=h1.1;obtain ⟨a,cap,rfl,_,_⟩:=RS.val h1;obtain ⟨a',cap',rfl,_,_⟩:=RS.val h2;have H1:=af h1;have H2:=af h2;clear h1 h2;go_enter func108,ntmps108;go_wp2_with fail;go_loopw [5] (fun i wr=>∃ k:Nat,i=I_ k/\k<=l.length/\TI (Below w.heap.size w wr)) (fun i _=>l.length - (intOf i).toNat)
 case atStart=>exact ⟨0,rfl,Nat.zero_le _,Below.refl _ _⟩
 case round =>
  obtain ⟨k,rfl,hk,hb⟩:=hrel
  by_cases hlt:k<l.length
  ·have kQ:(k:Int)<(l.length:Int):=by omega
   obtain ⟨b,off,cap1,e,hbl,hc⟩:=H1.o.at (k:=k) hlt;obtain ⟨rfl,_,rfl⟩:=Za e;clear e;obtain ⟨b',off',cap1,e,aag,hc'⟩:=H2.o.at (k:=k) hlt;obtain ⟨rfl,_,rfl⟩:=Za e;clear e;generalize l[k]=x at hc hc';have g0:=hc 0 _ rfl;have q0:=hc' 0 _ rfl;have g1:=hc 1 _ rfl;have q1:=hc' 1 _ rfl;have g2:=hc 2 _ rfl;have q2:=hc' 2 _ rfl;rw [Nat.add_zero] at g0 q0;clear hc hc'
   have ik:=af (show ∀ wz,Below w.heap.size w wz->(wz.cell? ⟨b,off+k*3,none⟩=some (I_ x.kind)/\wz.cell? ⟨b,off+k*3+1,none⟩=some (.string x.guard)/\wz.cell? ⟨b,off+k*3+2,none⟩=some (I_ x.refs)/\wz.cell? ⟨b',off'+k*3,none⟩=some (I_ x.kind)/\wz.cell? ⟨b',off'+k*3+1,none⟩=some (.string x.guard)/\wz.cell? ⟨b',off'+k*3+2,none⟩=some (I_ x.refs)) from fun wz hz=>⟨(hz.cell (p:=⟨b,off+k*3,none⟩) hbl).trans g0,(hz.cell (p:=⟨b,off+k*3+1,none⟩) hbl).trans g1,(hz.cell (p:=⟨b,off+k*3+2,none⟩) hbl).trans g2,(hz.cell (p:=⟨b',off'+k*3,none⟩) aag).trans q0,(hz.cell (p:=⟨b',off'+k*3+1,none⟩) aag).trans q1,(hz.cell (p:=⟨b',off'+k*3+2,none⟩) aag).trans q2⟩)
   clear g0 q0 g1 q1 g2 q2 hbl aag;have S1:=ik.o wr hb.o;go_wp2_with fail;refine afi ik fun hHeld=>?_
   refine afW 0 ?_;refine ahk 8 fun K hK=>?_
   (go_simp;go_at_call 187;refine (ab_ x _).mono ?_;rintro e w2 ⟨rfl,hb2⟩;have hb3:=hb.o.trans ((Below.gG hb2).mono hb.o.size);have S2:=ik.o w2 hb3;go_wp2_with fail)
   refine afS hK fun hHeld=>?_
   clear hK K;refine tH 9 ?_;refine wpAnyH_done (by kernel_rfl) ?_ _;go_wp2_with fail;go_roundw
   case rel=>exact ⟨k+1,by go_num,by omega,hb3⟩
   case measure=>simp [intOf];omega
  go_wp2_with fail;go_ret;exact ⟨rfl,hb.o⟩
theorem abr (l:List Kx.Cached) (v u:Value) (w:World) (h1:RS b_ 4 w v l) (h2:RS b_ 4 w u l):Calls prog 110 #[v,u] w (Yes w):=by
 have hl:=h1.1;obtain ⟨a,cap,rfl,_,_⟩:=RS.val h1;obtain ⟨a',cap',rfl,_,_⟩:=RS.val h2;have H1:=af h1;have H2:=af h2;clear h1 h2;go_enter func110,ntmps110;go_wp2_with fail;go_loopw [5] (fun i wr=>∃ k:Nat,i=I_ k/\k<=l.length/\TI (Below w.heap.size w wr)) (fun i _=>l.length - (intOf i).toNat)
 case atStart=>exact ⟨0,rfl,Nat.zero_le _,Below.refl _ _⟩
 case round =>
  obtain ⟨k,rfl,hk,hb⟩:=hrel
  by_cases hlt:k<l.length
  ·have kQ:(k:Int)<(l.length:Int):=by omega
   obtain ⟨b,off,cap1,e,hbl,hc⟩:=H1.o.at (k:=k) hlt;obtain ⟨rfl,_,rfl⟩:=Za e;clear e;obtain ⟨b',off',cap1,e,aag,hc'⟩:=H2.o.at (k:=k) hlt;obtain ⟨rfl,_,rfl⟩:=Za e;clear e;generalize l[k]=x at hc hc';have g0:=hc 0 _ rfl;have q0:=hc' 0 _ rfl;have g1:=hc 1 _ rfl;have q1:=hc' 1 _ rfl;have g2:=hc 2 _ rfl;have q2:=hc' 2 _ rfl;have g3:=hc 3 _ rfl;have q3:=hc' 3 _ rfl;rw [Nat.add_zero] at g0 q0;clear hc hc'
   have ik:=af (show ∀ wz,Below w.heap.size w wz->(wz.cell? ⟨b,off+k*4,none⟩=some (I_ x.env)/\wz.cell? ⟨b,off+k*4+1,none⟩=some (I_ x.page)/\wz.cell? ⟨b,off+k*4+2,none⟩=some (I_ x.frame)/\wz.cell? ⟨b,off+k*4+3,none⟩=some (.bool x.write)/\wz.cell? ⟨b',off'+k*4,none⟩=some (I_ x.env)/\wz.cell? ⟨b',off'+k*4+1,none⟩=some (I_ x.page)/\wz.cell? ⟨b',off'+k*4+2,none⟩=some (I_ x.frame)/\wz.cell? ⟨b',off'+k*4+3,none⟩=some (.bool x.write)) from fun wz hz=>⟨(hz.cell (p:=⟨b,off+k*4,none⟩) hbl).trans g0,(hz.cell (p:=⟨b,off+k*4+1,none⟩) hbl).trans g1,(hz.cell (p:=⟨b,off+k*4+2,none⟩) hbl).trans g2,(hz.cell (p:=⟨b,off+k*4+3,none⟩) hbl).trans g3,(hz.cell (p:=⟨b',off'+k*4,none⟩) aag).trans q0,(hz.cell (p:=⟨b',off'+k*4+1,none⟩) aag).trans q1,(hz.cell (p:=⟨b',off'+k*4+2,none⟩) aag).trans q2,(hz.cell (p:=⟨b',off'+k*4+3,none⟩) aag).trans q3⟩)
   clear g0 q0 g1 q1 g2 q2 g3 q3 hbl aag;have S1:=ik.o wr hb.o;go_wp2_with fail;refine afi ik fun hHeld=>?_
   refine afW 0 ?_;refine ahk 8 fun K hK=>?_
   (go_simp;go_at_call 189;refine (abJ x _).mono ?_;rintro e w2 ⟨rfl,hb2⟩;have hb3:=hb.o.trans ((Below.gG hb2).mono hb.o.size);have S2:=ik.o w2 hb3;go_wp2_with fail)
   refine afS hK fun hHeld=>?_
   clear hK K;refine tH 9 ?_;refine wpAnyH_done (by kernel_rfl) ?_ _;go_wp2_with fail;go_roundw
   case rel=>exact ⟨k+1,by go_num,by omega,hb3⟩
   case measure=>simp [intOf];omega
  go_wp2_with fail;go_ret;exact ⟨rfl,hb.o⟩
theorem abt (l:List Kx.Str) (v u:Value) (w:World) (h1:dK w v l) (h2:dK w u l):Calls prog 237 #[v,u] w (Yes w):=by
 have hl:=h1.1;obtain ⟨a,cap,rfl,_,_⟩:=RS.val h1;obtain ⟨a',cap',rfl,_,_⟩:=RS.val h2;have H1:=af h1;have H2:=af h2;clear h1 h2;go_enter func237,ntmps237;go_wp2_with fail;go_loopw [5] (fun i wr=>∃ k:Nat,i=I_ k/\k<=l.length/\TI (Below w.heap.size w wr)) (fun i _=>l.length - (intOf i).toNat)
 case atStart=>exact ⟨0,rfl,Nat.zero_le _,Below.refl _ _⟩
 case round =>
  obtain ⟨k,rfl,hk,hb⟩:=hrel
  by_cases hlt:k<l.length
  ·have kQ:(k:Int)<(l.length:Int):=by omega
   obtain ⟨b,off,cap1,e,hbl,hc⟩:=RS.at (RS.below H1.o hb.o) (k:=k) hlt;obtain ⟨rfl,_,rfl⟩:=Za e;clear e;obtain ⟨b',off',cap1,e,aag,hc'⟩:=RS.at (RS.below H2.o hb.o) (k:=k) hlt;obtain ⟨rfl,_,rfl⟩:=Za e;clear e;generalize l[k]=x at hc hc';have g0:=hc 0 _ rfl;have q0:=hc' 0 _ rfl;rw [Nat.add_zero,Nat.mul_one] at g0 q0;clear hc hc';go_wp2_with fail;go_quiet (fail);go_wp2_with fail;go_roundw
   case rel=>exact ⟨k+1,by go_num,by omega,hb.o.trans ⟨rfl,rfl,rfl,Nat.le_refl _,fun _ _=>rfl⟩⟩
   case measure=>simp [intOf];omega
  go_wp2_with fail;go_ret;exact ⟨rfl,hb.o⟩
theorem abK (xs:List Int) (v u:Value) (w:World) (h1:RI w v xs) (h2:RI w u xs):Calls prog 39 #[v,u] w (Yes w):=
 (Ug xs xs v u w h1 h2).mono fun e w' h=>⟨by rw [h.1];simp,h.2⟩
theorem abW (l:List (List Int)) (v u:Value) (w:World) (h1:RM w v l) (h2:RM w u l):Calls prog 107 #[v,u] w (Yes w):=by
 have hl:=h1.len.1;obtain ⟨_,a,cap,rfl,_,_⟩:=h1.len;obtain ⟨_,a',cap',rfl,_,_⟩:=h2.len;have H1:=af h1;have H2:=af h2;clear h1 h2;go_enter func107,ntmps107;go_wp2_with fail;go_loopw [5] (fun i wr=>∃ k:Nat,i=I_ k/\k<=l.length/\TI (Below w.heap.size w wr)) (fun i _=>l.length - (intOf i).toNat)
 case atStart=>exact ⟨0,rfl,Nat.zero_le _,Below.refl _ _⟩
 case round =>
  obtain ⟨k,rfl,hk,hb⟩:=hrel
  by_cases hlt:k<l.length
  ·have kQ:(k:Int)<(l.length:Int):=by omega
   obtain ⟨b,off,cap1,u1,e,hbl,g0,r1⟩:=H1.o.at (k:=k) hlt;obtain ⟨rfl,_,rfl⟩:=Za e;clear e;obtain ⟨b',off',cap1,u2,e,aag,q0,r2⟩:=H2.o.at (k:=k) hlt;obtain ⟨rfl,_,rfl⟩:=Za e;clear e;obtain ⟨a1,c1,rfl⟩:=r1.val;obtain ⟨a2,c2,rfl⟩:=r2.val;have HC:=af (show ∀ W,Below w.heap.size w W->Calls prog 39 #[.slice a1 (Kx.row l k).length c1,.slice a2 (Kx.row l k).length c2] W (Yes W) from fun W hW=>abK _ _ _ W (r1.below hW) (r2.below hW))
   generalize (Kx.row l k).length=n1 at g0 q0 HC;clear r1 r2;have ik:=af (show ∀ wz,Below w.heap.size w wz->(wz.cell? ⟨b,off+k,none⟩=some (.slice a1 n1 c1)/\wz.cell? ⟨b',off'+k,none⟩=some (.slice a2 n1 c2)) from fun wz hz=>⟨(hz.cell (p:=⟨b,off+k,none⟩) hbl).trans g0,(hz.cell (p:=⟨b',off'+k,none⟩) aag).trans q0⟩)
   clear g0 q0 hbl aag;have S1:=ik.o wr hb.o;go_wp2_with fail;refine afi ik fun hHeld=>?_
   refine afW 0 ?_;refine ahk 8 fun K hK=>?_
   (go_simp;go_at_call 39;refine (HC.o _ (Below.bz hb.o)).mono ?_;rintro e w2 ⟨rfl,hb2⟩;have hb3:=hb.o.trans ((Below.gG hb2).mono hb.o.size);have S2:=ik.o w2 hb3;go_wp2_with fail)
   refine afS hK fun hHeld=>?_
   clear hK K;refine tH 9 ?_;refine wpAnyH_done (by kernel_rfl) ?_ _;go_wp2_with fail;go_roundw
   case rel=>exact ⟨k+1,by go_num,by omega,hb3⟩
   case measure=>simp [intOf];omega
  go_wp2_with fail;go_ret;exact ⟨rfl,hb.o⟩
theorem aco (l:List Kx.Str) (v u:Value) (r:Int) (w:World) (h1:dK w v l) (h2:dK w u l):Calls prog 188 #[.agg #[v,I_ r],.agg #[u,I_ r]] w (Yes w):=by
 obtain ⟨a,cap,rfl,_,_⟩:=RS.val h1;obtain ⟨a',cap',rfl,_,_⟩:=RS.val h2;obtain ⟨w0,hw0⟩:=XP (w.alloc (.cells #[.slice a l.length cap,I_ r] 86));obtain ⟨w1,hw1⟩:=XP (w0.alloc (.cells #[.slice a' l.length cap',I_ r] 86));have B0:=af (show Below w.heap.size w w0 from hw0 ▸ dm);have B1:=af (show Below w0.heap.size w0 w1 from hw1 ▸ dm);have X0:=af (show BX w1 w.heap.size 86 [.slice a l.length cap,I_ r] from (hw0 ▸ BX.new w _ _:BX w0 _ _ _).below B1.o);have X1:=af (show BX w1 w0.heap.size 86 [.slice a' l.length cap',I_ r] from (hw1 ▸ BX.new w0 _ _:BX w1 _ _ _));have Bw:=af (B0.o.trans (B1.o.mono B0.o.size));have HC:=af (abt l _ _ w1 (RS.below h1 Bw.o) (RS.below h2 Bw.o));have p0:w1.cell? ⟨w.heap.size,0,none⟩=some (.slice a l.length cap):=X0.o.cell 0
 have q0:w1.cell? ⟨w0.heap.size,0,none⟩=some (.slice a' l.length cap'):=X1.o.cell 0;clear h1 h2 B0 B1;go_enter func188,ntmps188;go_wp2_with fail;refine HC.o.mono ?_;rintro e w2 ⟨rfl,hb⟩;have p1:w2.cell? ⟨w.heap.size,1,none⟩=some (I_ r):=(X0.o.below hb).cell 1;have q1:w2.cell? ⟨w0.heap.size,1,none⟩=some (I_ r):=(X1.o.below hb).cell 1;have Bw:=af (Bw.o.trans (hb.mono Bw.o.size));go_wp2_with fail;go_ret;exact ⟨rfl,Bw.o⟩
theorem aca (l:List Kx.Env) (v u:Value) (w:World) (h1:uo w v l) (h2:uo w u l):Calls prog 109 #[v,u] w (Yes w):=by
 have hl:=h1.len.1;obtain ⟨_,a,cap,rfl,_,_⟩:=h1.len;obtain ⟨_,a',cap',rfl,_,_⟩:=h2.len;have H1:=af h1;have H2:=af h2;clear h1 h2;go_enter func109,ntmps109;go_wp2_with fail;go_loopw [5] (fun i wr=>∃ k:Nat,i=I_ k/\k<=l.length/\TI (Below w.heap.size w wr)) (fun i _=>l.length - (intOf i).toNat)
 case atStart=>exact ⟨0,rfl,Nat.zero_le _,Below.refl _ _⟩
 case round =>
  obtain ⟨k,rfl,hk,hb⟩:=hrel
  by_cases hlt:k<l.length
  ·have kQ:(k:Int)<(l.length:Int):=by omega
   obtain ⟨b,off,cap1,u1,e,hbl,g0,g1,r1⟩:=H1.o.at (k:=k) hlt;obtain ⟨rfl,_,rfl⟩:=Za e;clear e;obtain ⟨b',off',cap1,u2,e,aag,q0,q1,r2⟩:=H2.o.at (k:=k) hlt;obtain ⟨rfl,_,rfl⟩:=Za e;clear e;obtain ⟨a1,c1,rfl,_,_⟩:=RS.val r1;obtain ⟨a2,c2,rfl,_,_⟩:=RS.val r2;generalize (au l k).root=rt at g1 q1;have HC:=af (show ∀ W,Below w.heap.size w W->Calls prog 188 #[.agg #[.slice a1 (au l k).aB.length c1,I_ rt],.agg #[.slice a2 (au l k).aB.length c2,I_ rt]] W (Yes W) from fun W hW=>aco _ _ _ _ W (RS.below r1 hW) (RS.below r2 hW))
   generalize (au l k).aB.length=n1 at g0 q0 HC;clear r1 r2;have ik:=af (show ∀ wz,Below w.heap.size w wz->(wz.cell? ⟨b,off+k*2,none⟩=some (.slice a1 n1 c1)/\wz.cell? ⟨b,off+k*2+1,none⟩=some (I_ rt)/\wz.cell? ⟨b',off'+k*2,none⟩=some (.slice a2 n1 c2)/\wz.cell? ⟨b',off'+k*2+1,none⟩=some (I_ rt)) from fun wz hz=>⟨(hz.cell (p:=⟨b,off+k*2,none⟩) hbl).trans g0,(hz.cell (p:=⟨b,off+k*2+1,none⟩) hbl).trans g1,(hz.cell (p:=⟨b',off'+k*2,none⟩) aag).trans q0,(hz.cell (p:=⟨b',off'+k*2+1,none⟩) aag).trans q1⟩)
   clear g0 q0 g1 q1 hbl aag;have S1:=ik.o wr hb.o;go_wp2_with fail;refine afi ik fun hHeld=>?_
   refine afW 0 ?_;refine ahk 8 fun K hK=>?_
   (go_simp;go_at_call 188;refine (HC.o _ (Below.bz hb.o)).mono ?_;rintro e w2 ⟨rfl,hb2⟩;have hb3:=hb.o.trans ((Below.gG hb2).mono hb.o.size);have S2:=ik.o w2 hb3;go_wp2_with fail)
   refine afS hK fun hHeld=>?_
   clear hK K;refine tH 9 ?_;refine wpAnyH_done (by kernel_rfl) ?_ _;go_wp2_with fail;go_roundw
   case rel=>exact ⟨k+1,by go_num,by omega,hb3⟩
   case measure=>simp [intOf];omega
  go_wp2_with fail;go_ret;exact ⟨rfl,hb.o⟩
theorem acP (k:Kx.Kernel) (vm vi ve vc um ui ue uc:Value) (w:World) (h:RK w vm vi ve vc k) (h':RK w um ui ue uc k):Calls prog 34 #[.agg #[vm,vi,ve,vc],.agg #[um,ui,ue,uc]] w (Yes w):=by
 have H:=af h;have H':=af h';clear h h';obtain ⟨w0,hw0⟩:=XP (w.alloc (.cells #[vm,vi,ve,vc] 28));obtain ⟨w1,hw1⟩:=XP (w0.alloc (.cells #[um,ui,ue,uc] 28));have B0:=af (show Below w.heap.size w w0 from hw0 ▸ dm);have B1:=af (show Below w0.heap.size w0 w1 from hw1 ▸ dm);have X0:=af (show BX w1 w.heap.size 28 [vm,vi,ve,vc] from (hw0 ▸ BX.new w _ _:BX w0 _ _ _).below B1.o);have X1:=af (show BX w1 w0.heap.size 28 [um,ui,ue,uc] from (hw1 ▸ BX.new w0 _ _:BX w1 _ _ _));have Bw:=af (B0.o.trans (B1.o.mono B0.o.size));clear B0 B1;have p0:w1.cell? ⟨w.heap.size,0,none⟩=some (vm):=X0.o.cell 0;have q0:w1.cell? ⟨w0.heap.size,0,none⟩=some (um):=X1.o.cell 0;have p1:w1.cell? ⟨w.heap.size,1,none⟩=some (vi):=X0.o.cell 1;have q1:w1.cell? ⟨w0.heap.size,1,none⟩=some (ui):=X1.o.cell 1;have p2:w1.cell? ⟨w.heap.size,2,none⟩=some (ve):=X0.o.cell 2
 have q2:w1.cell? ⟨w0.heap.size,2,none⟩=some (ue):=X1.o.cell 2;have p3:w1.cell? ⟨w.heap.size,3,none⟩=some (vc):=X0.o.cell 3;have q3:w1.cell? ⟨w0.heap.size,3,none⟩=some (uc):=X1.o.cell 3;have HC:=af (abW k.mem _ _ w1 (H.o.m.below Bw.o) (H'.o.m.below Bw.o));go_enter func34,ntmps34;go_wp2_with fail;refine HC.o.mono ?_;rintro e w2 ⟨rfl,hb⟩;clear HC p0 q0 p1 q1 p2 q2 p3 q3;replace X0:=af (X0.o.below hb);replace X1:=af (X1.o.below hb);replace Bw:=af (Bw.o.trans (hb.mono Bw.o.size));clear hb;have p0:w2.cell? ⟨w.heap.size,0,none⟩=some (vm):=X0.o.cell 0;have q0:w2.cell? ⟨w0.heap.size,0,none⟩=some (um):=X1.o.cell 0;have p1:w2.cell? ⟨w.heap.size,1,none⟩=some (vi):=X0.o.cell 1;have q1:w2.cell? ⟨w0.heap.size,1,none⟩=some (ui):=X1.o.cell 1;have p2:w2.cell? ⟨w.heap.size,2,none⟩=some (ve):=X0.o.cell 2
 have q2:w2.cell? ⟨w0.heap.size,2,none⟩=some (ue):=X1.o.cell 2;have p3:w2.cell? ⟨w.heap.size,3,none⟩=some (vc):=X0.o.cell 3;have q3:w2.cell? ⟨w0.heap.size,3,none⟩=some (uc):=X1.o.cell 3;have HC:=af (abV k.ag _ _ w2 (RS.below H.o.i Bw.o) (RS.below H'.o.i Bw.o));go_wp2_with fail;refine HC.o.mono ?_;rintro e w3 ⟨rfl,hb⟩;clear HC p0 q0 p1 q1 p2 q2 p3 q3;replace X0:=af (X0.o.below hb);replace X1:=af (X1.o.below hb);replace Bw:=af (Bw.o.trans (hb.mono Bw.o.size));clear hb;have p0:w3.cell? ⟨w.heap.size,0,none⟩=some (vm):=X0.o.cell 0;have q0:w3.cell? ⟨w0.heap.size,0,none⟩=some (um):=X1.o.cell 0;have p1:w3.cell? ⟨w.heap.size,1,none⟩=some (vi):=X0.o.cell 1;have q1:w3.cell? ⟨w0.heap.size,1,none⟩=some (ui):=X1.o.cell 1;have p2:w3.cell? ⟨w.heap.size,2,none⟩=some (ve):=X0.o.cell 2;have q2:w3.cell? ⟨w0.heap.size,2,none⟩=some (ue):=X1.o.cell 2
 have p3:w3.cell? ⟨w.heap.size,3,none⟩=some (vc):=X0.o.cell 3;have q3:w3.cell? ⟨w0.heap.size,3,none⟩=some (uc):=X1.o.cell 3;have HC:=af (aca k.ah _ _ w3 (H.o.e.below Bw.o) (H'.o.e.below Bw.o));go_wp2_with fail;refine HC.o.mono ?_;rintro e w4 ⟨rfl,hb⟩;clear HC p0 q0 p1 q1 p2 q2 p3 q3;replace X0:=af (X0.o.below hb);replace X1:=af (X1.o.below hb);replace Bw:=af (Bw.o.trans (hb.mono Bw.o.size));clear hb;have p0:w4.cell? ⟨w.heap.size,0,none⟩=some (vm):=X0.o.cell 0;have q0:w4.cell? ⟨w0.heap.size,0,none⟩=some (um):=X1.o.cell 0;have p1:w4.cell? ⟨w.heap.size,1,none⟩=some (vi):=X0.o.cell 1;have q1:w4.cell? ⟨w0.heap.size,1,none⟩=some (ui):=X1.o.cell 1;have p2:w4.cell? ⟨w.heap.size,2,none⟩=some (ve):=X0.o.cell 2;have q2:w4.cell? ⟨w0.heap.size,2,none⟩=some (ue):=X1.o.cell 2;have p3:w4.cell? ⟨w.heap.size,3,none⟩=some (vc):=X0.o.cell 3
 have q3:w4.cell? ⟨w0.heap.size,3,none⟩=some (uc):=X1.o.cell 3;have HC:=af (abr k.cache _ _ w4 (RS.below H.o.c Bw.o) (RS.below H'.o.c Bw.o));go_wp2_with fail;refine HC.o.mono ?_;rintro e w5 ⟨rfl,hb⟩;clear HC p0 q0 p1 q1 p2 q2 p3 q3;replace X0:=af (X0.o.below hb);replace X1:=af (X1.o.below hb);replace Bw:=af (Bw.o.trans (hb.mono Bw.o.size));clear hb;have p0:w5.cell? ⟨w.heap.size,0,none⟩=some (vm):=X0.o.cell 0;have q0:w5.cell? ⟨w0.heap.size,0,none⟩=some (um):=X1.o.cell 0;have p1:w5.cell? ⟨w.heap.size,1,none⟩=some (vi):=X0.o.cell 1;have q1:w5.cell? ⟨w0.heap.size,1,none⟩=some (ui):=X1.o.cell 1;have p2:w5.cell? ⟨w.heap.size,2,none⟩=some (ve):=X0.o.cell 2;have q2:w5.cell? ⟨w0.heap.size,2,none⟩=some (ue):=X1.o.cell 2;have p3:w5.cell? ⟨w.heap.size,3,none⟩=some (vc):=X0.o.cell 3;have q3:w5.cell? ⟨w0.heap.size,3,none⟩=some (uc):=X1.o.cell 3
 go_wp2_with fail;go_ret;exact ⟨rfl,Bw.o⟩
theorem aax {α:Type} (f:α->Nat):∀ (l:List α) (x:α),x ∈ l->f x<=(l.map f).sum
 | [],x,h=>by simp at h
 | y :: l,x,h=>by
  rcases List.mem_cons.1 h with rfl | h
  ·simp
  have:=aax f l x h;simp;omega
theorem RI.acH {w:World} {v:Value} {xs:List Int} (h:RW iR 1 w v xs) (hl:xs.length<=1099511627776):RI w v xs:=RI.rs (h.rs hl)
theorem Pq.rm {w:World} {v:Value} {m:List (List Int)} (h:Pq w v m) (hl:r_ m<=1048576):RM w v m:=by
 obtain ⟨vs,hvl,h1,h2⟩:=h;unfold r_ at hl;refine ⟨vs,hvl,h1.rs (by omega),fun i hi hi'=>RI.acH (h2 i hi hi') ?_⟩
 have:=aax List.length m m[i] (List.getElem_mem hi')
 omega
theorem Pv.re {w:World} {v:Value} {m:List Kx.Env} (h:Pv w v m) (hl:uV m<=1048576):uo w v m/\∀ x ∈ m,x.aB.length<=1048576:=by
 obtain ⟨vs,hvl,h1,h2⟩:=h;unfold uV at hl;have hr:∀ x ∈ m,x.aB.length<=1048576:=fun x hx=>by
  have:=aax (fun x=>lW x.aB) m x hx
  simp only [lW] at this hl;omega
 refine ⟨⟨vs,hvl,h1.rs (by omega),fun i hi hi'=>⟨(h2 i hi hi').1,(h2 i hi hi').2.rs ?_⟩⟩,hr⟩
 have:=hr m[i] (List.getElem_mem hi')
 omega
structure adg (k:Kx.Kernel):Prop where
 m:k.mem.length<=1048576
 i:k.ag.length<=1048576
 e:k.ah.length<=1048576
 r:∀ x ∈ k.ah,x.aB.length<=1048576
 c:k.cache.length<=1048576
theorem Uw.rk {w:World} {vm vi ve vc:Value} {k:Kx.Kernel} (h:Uw w vm vi ve vc k) (hl:nK k<=1048576):RK w vm vi ve vc k/\adg k:=by
 unfold nK at hl;obtain ⟨he,hr⟩:=h.e.re (by omega);have h1:k.mem.length<=r_ k.mem:=by unfold r_;omega
 have h2:k.ag.length<=pR k.ag:=by unfold pR;omega
 have h3:k.ah.length<=uV k.ah:=by unfold uV;omega
 exact ⟨⟨h.m.rm (by omega),h.i.rs (by omega),he,h.c.rs (by omega)⟩,⟨by omega,by omega,by omega,hr,by omega⟩⟩
end Go.Proofs.YthcmmoibpgcgaaaGreatDoor
namespace Kx

def digitsF:Nat->Nat->List UInt8
 | 0,_=>[]
 | f+1,k=>if k=0 then [] else digitsF f (k / 10) ++ [UInt8.ofNat (48+k % 10)]
def mt (k:Int):Str:=if k<=0 then ⟨#[109,48]⟩ else ⟨(109 :: digitsF 20 k.toNat).toArray⟩
def mkInts:Int->List Int->List Int
 | _,[]=>[]
 | n,_ :: l=>n :: mkInts (n+1) l
def mkStrs:Int->List Str->List Str
 | _,[]=>[]
 | n,_ :: l=>mt n :: mkStrs (n+1) l
def mkMem:Int->List (List Int)->List (List Int)
 | _,[]=>[]
 | n,r :: m=>mkInts n r :: mkMem (n+r.length) m
def memN (m:List (List Int)):Int:=((m.map List.length).sum:Nat)
def mkInfos:Int->List aG->List aG
 | _,[]=>[]
 | n,_ :: l=>⟨n,mt (n+1),n+2⟩ :: mkInfos (n+3) l
def mkEnvs:Int->List Env->List Env
 | _,[]=>[]
 | n,e :: l=>⟨mkStrs n e.aB,n+e.aB.length⟩ :: mkEnvs (n+e.aB.length+1) l
def envN (l:List Env):Int:=((l.map fun e=>e.aB.length+1).sum:Nat)
def mkCache:Int->List Cached->List Cached
 | _,[]=>[]
 | n,_ :: l=>⟨n,n+1,n+2,(n+3) % 3==0⟩ :: mkCache (n+4) l
theorem mkInts_length:∀ (l:List Int) (n:Int),(mkInts n l).length=l.length
 | [],_=>rfl
 | _ :: l,n=>by simp [mkInts,mkInts_length l]
theorem mkStrs_length:∀ (l:List Str) (n:Int),(mkStrs n l).length=l.length
 | [],_=>rfl
 | _ :: l,n=>by simp [mkStrs,mkStrs_length l]
theorem mkMem_length:∀ (l:List (List Int)) (n:Int),(mkMem n l).length=l.length
 | [],_=>rfl
 | _ :: l,n=>by simp [mkMem,mkMem_length l]
theorem mkInfos_length:∀ (l:List aG) (n:Int),(mkInfos n l).length=l.length
 | [],_=>rfl
 | _ :: l,n=>by simp [mkInfos,mkInfos_length l]
theorem mkEnvs_length:∀ (l:List Env) (n:Int),(mkEnvs n l).length=l.length
 | [],_=>rfl
 | _ :: l,n=>by simp [mkEnvs,mkEnvs_length l]
theorem mkCache_length:∀ (l:List Cached) (n:Int),(mkCache n l).length=l.length
 | [],_=>rfl
 | _ :: l,n=>by simp [mkCache,mkCache_length l]
theorem mkInts_get:∀ (l:List Int) (n:Int) (i:Nat) (h:i<(mkInts n l).length),(mkInts n l)[i]=n+i
 | [],_,_,h=>absurd h (by simp [mkInts])
 | _ :: l,n,0,_=>by simp [mkInts]
 | _ :: l,n,i+1,h=>by
  simp only [mkInts,List.getElem_cons_succ];rw [mkInts_get l (n+1) i (by simpa [mkInts] using h)];omega
theorem mkStrs_get:∀ (l:List Str) (n:Int) (i:Nat) (h:i<(mkStrs n l).length),(mkStrs n l)[i]=mt (n+i)
 | [],_,_,h=>absurd h (by simp [mkStrs])
 | _ :: l,n,0,_=>by simp [mkStrs]
 | _ :: l,n,i+1,h=>by
  simp only [mkStrs,List.getElem_cons_succ];rw [mkStrs_get l (n+1) i (by simpa [mkStrs] using h)];congr 1;omega
theorem mkInfos_get:∀ (l:List aG) (n:Int) (i:Nat) (h:i<(mkInfos n l).length),(mkInfos n l)[i]=⟨n+3*i,mt (n+3*i+1),n+3*i+2⟩
 | [],_,_,h=>absurd h (by simp [mkInfos])
 | _ :: l,n,0,_=>by simp [mkInfos]
 | _ :: l,n,i+1,h=>by
  simp only [mkInfos,List.getElem_cons_succ];rw [mkInfos_get l (n+3) i (by simpa [mkInfos] using h)];rw [show n+3+3*(i:Int)=n+3*((i+1:Nat):Int) by omega]
theorem mkCache_get:∀ (l:List Cached) (n:Int) (i:Nat) (h:i<(mkCache n l).length),(mkCache n l)[i]=⟨n+4*i,n+4*i+1,n+4*i+2,(n+4*i+3) % 3==0⟩
 | [],_,_,h=>absurd h (by simp [mkCache])
 | _ :: l,n,0,_=>by simp [mkCache]
 | _ :: l,n,i+1,h=>by
  simp only [mkCache,List.getElem_cons_succ];rw [mkCache_get l (n+4) i (by simpa [mkCache] using h)];rw [show n+4+4*(i:Int)=n+4*((i+1:Nat):Int) by omega]
theorem memN_cons (r:List Int) (m:List (List Int)):memN (r :: m)=r.length+memN m:=by simp [memN]
theorem mkMem_get:∀ (l:List (List Int)) (n:Int) (i:Nat) (h:i<(mkMem n l).length) (h':i<l.length),(mkMem n l)[i]=mkInts (n+memN (l.take i)) l[i]
 | [],_,_,h,_=>absurd h (by simp [mkMem])
 | _ :: l,n,0,_,_=>by simp [mkMem,memN]
 | r :: l,n,i+1,h,h'=>by
  simp only [mkMem,List.getElem_cons_succ,List.take_succ_cons,memN_cons];rw [mkMem_get l (n+r.length) i (by simpa [mkMem] using h) (by simpa using h')];congr 1;omega
theorem envN_cons (e:Env) (l:List Env):envN (e :: l)=e.aB.length+1+envN l:=by simp [envN]
theorem mkEnvs_get:∀ (l:List Env) (n:Int) (i:Nat) (h:i<(mkEnvs n l).length) (h':i<l.length),(mkEnvs n l)[i]=⟨mkStrs (n+envN (l.take i)) l[i].aB,n+envN (l.take i)+l[i].aB.length⟩
 | [],_,_,h,_=>absurd h (by simp [mkEnvs])
 | _ :: l,n,0,_,_=>by simp [mkEnvs,envN]
 | e :: l,n,i+1,h,h'=>by
  simp only [mkEnvs,List.getElem_cons_succ,List.take_succ_cons,envN_cons];rw [mkEnvs_get l (n+e.aB.length+1) i (by simpa [mkEnvs] using h) (by simpa using h')];rw [show n+e.aB.length+1+envN (l.take i)=n+(e.aB.length+1+envN (l.take i)) by omega]
def markK (n:Int) (k:Kernel):Kernel×Int:=
 let a:=n+memN k.mem
 let b:=a+3*k.ag.length
 let c:=b+envN k.ah
 (⟨mkMem n k.mem,mkInfos a k.ag,mkEnvs b k.ah,mkCache c k.cache⟩,c+4*k.cache.length)
end Kx
namespace Go.Proofs.YthcmmoibpgcgaaaGreatDoor
open Go.RowKit Kx

theorem RK.slc {w:World} {um ui ue uc:Value} {k:Kx.Kernel} (h:RK w um ui ue uc k):Sl um/\Sl ui/\Sl ue/\Sl uc:=by
 obtain ⟨_,a1,c1,e1,_,_⟩:=h.m.len;obtain ⟨a2,c2,e2,_,_⟩:=RS.val h.i;obtain ⟨_,a3,c3,e3,_,_⟩:=h.e.len;obtain ⟨a4,c4,e4,_,_⟩:=RS.val h.c;exact ⟨⟨_,_,_,e1⟩,⟨_,_,_,e2⟩,⟨_,_,_,e3⟩,⟨_,_,_,e4⟩⟩

theorem conv_one (w:World) (x:Int) (h0:0<=x) (h1:x<256) (c:Nat):(convert 22 9 (.slice (some ⟨w.heap.size,0,none⟩) 1 c)).run prog (w.alloc (.cells #[.int .u8 x] 5))=.ok (.string ⟨#[UInt8.ofNat x.toNat]⟩) (w.alloc (.cells #[.int .u8 x] 5)):=by
 have:=run_convert_bytes_back (P:=prog) (w.alloc (.cells #[.int .u8 x] 5)) 22 9 5 ⟨w.heap.size,0,none⟩ c [UInt8.ofNat x.toNat] underlying22 underlying5 underlying9 (fun j hj=>by
  have:j=0:=by simpa using hj
  subst this;have e:((UInt8.ofNat x.toNat).toNat:Int)=x:=by simp;omega
  show _=some (Value.int .u8 ((UInt8.ofNat x.toNat).toNat:Int))
  rw [e];simp [Addr.add])
 simpa using this

theorem markText_c (n:Nat) (w:World) (h:n<1099511627776) :
  Calls prog 120 #[I_ n] w fun e w'=>e=.returned (.string (Kx.mt n))/\Below w.heap.size w w':=by
 by_cases h0:n=0
 ·subst h0;clear h;go_enter func120,ntmps120;go_wp2_with fail;go_ret;exact ⟨rfl,Below.refl _ _⟩
 have hp:¬ ((n:Int)<=0):=by omega
 have H:=af h;clear h;obtain ⟨E,hE⟩:∃ x,Kx.digitsF 20 n=x:=⟨_,rfl⟩;have HE:=af hE;have Hmt:=af (show Kx.mt n=⟨(109 :: E).toArray⟩ by rw [<-hE];unfold Kx.mt;rw [if_neg hp];rfl);clear hE;go_enter func120,ntmps120;go_wp2_with fail;go_loopw [0,3] (fun k o wr=>∃ (kk f:Nat) (t:ByteArray),k=I_ kk/\o=.string t/\TI (kk<=n/\kk<10 ^ f/\Kx.digitsF f kk ++ t.data.toList=E/\t.size+f=20)/\TI (Below w.heap.size w wr))
  (fun k _ _=>(intOf k).toNat)
 case atStart=>exact ⟨n,20,⟨#[]⟩,rfl,rfl,⟨Nat.le_refl _,by have:=H.o;omega,by simpa using HE.o,rfl⟩,Below.refl _ _⟩
 case round =>
  obtain ⟨kk,f,t,rfl,rfl,hs,hb⟩:=hrel;have B:=af hb.o;clear hb;have ht1:¬ (9223372036854775807<1+t.size):=by have:=hs.o;omega
  have ht2:1+t.size<=9223372036854775807:=by omega
  by_cases hk:kk=0
  ·subst hk;obtain ⟨_,_,h3,_⟩:=hs.o;have hs2:=af (show t.data.toList=E by rw [<-h3];cases f <;> simp [Kx.digitsF]);clear hs h3;go_wp2_with fail;go_ret;refine ⟨?_,B.o⟩;rw [Hmt.o,<-hs2.o];congr 2
  have hgt:(0:Int)<(kk:Int):=by omega
  obtain ⟨h1,h2,h3,h4⟩:=hs.o;clear hs;obtain ⟨f',rfl⟩:∃ f',f=f'+1:=by
   cases f with
   | zero=>simp at h2;exact absurd h2 hk
   | succ f'=>exact ⟨f',rfl⟩
  have HB:=af h1;have H3:=af (show kk / 10<10 ^ f' by rw [Nat.pow_succ] at h2;omega);have H4:=af (show Kx.digitsF f' (kk / 10) ++ ([UInt8.ofNat (48+kk % 10)] ++ t.data.toList)=E by
   rw [<-List.append_assoc,<-h3];simp [Kx.digitsF,hk])
  have H5:=af (show 1+t.size+f'=20 by omega);clear h1 h2 h3 h4;obtain ⟨d,hd⟩:=XP (kk % 10);obtain ⟨q,hq⟩:=XP (kk / 10);rw [hd] at H4;rw [hq] at H3 H4;have Hd:=af (show d<10 by omega);have Hq:=af (show q<kk/\q<=n by have:=HB.o;omega);have e1:(kk:Int).tmod 10=(d:Int):=by rw [Int.tmod_eq_emod_of_nonneg (by omega)];omega
  have e2:(kk:Int).tdiv 10=(q:Int):=by rw [Int.tdiv_eq_ediv_of_nonneg (by omega)];omega
  clear hd hq;have hqn:q<=1099511627776:=by have:=Hq.o;have:=H.o;omega
  have e3:IntKind.i64.wrap (48+(d:Int))=48+(d:Int):=IntWalk.i64_in _ (by have:=Hd.o;omega);have e4:(48+(d:Int)) % 256=48+(d:Int):=by have:=Hd.o;omega
  have kc:=conv_one wr (48+(d:Int)) (by omega) (by have:=Hd.o;omega) 1;go_wp2_with fail;go_roundw
  case rel =>
   refine ⟨q,f',_,rfl,rfl,⟨Hq.o.2,H3.o,?_,?_⟩,Below.lit B.o _⟩
   ·rw [<-H4.o];congr 1;simp [ByteArray.data_append,UInt8.ofNat_add]
   rw [<-H5.o];simp;rfl
  case measure=>have:=Hq.o;simp [intOf];omega

theorem flat_put {α:Type} {f:α->List Value} {sz:Nat} (hf:∀ x,(f x).length=sz) (l:List α) (i j:Nat) (x:α) (u:Value) (hi:i<l.length) (hj:j<sz) (hx:f x=(f l[i]).set j u):flat f (l.set i x)=(flat f l).set (i*sz+j) u:=by
 have hlen:(flat f l).length=l.length*sz:=flat_length hf l;have hle:i*sz+sz<=l.length*sz:=by
  have:=Nat.mul_le_mul_right sz (show i+1<=l.length from hi)
  rw [Nat.add_mul,Nat.one_mul] at this;exact this
 have hA:=oz hf l i x hi;have hB:=oz hf l i l[i] hi;rw [List.set_getElem_self] at hB;rw [EL _ _ _ (by rw [hf,hlen];exact hle),hf] at hA hB;rw [hA,hx];have hAl:((flat f l).take (i*sz)).length=i*sz:=by rw [List.length_take,Nat.min_eq_left];omega
 generalize hAe:(flat f l).take (i*sz)=A at *;generalize hCe:(flat f l).drop (i*sz+sz)=C at *;rw [hB,List.set_append_left _ _ (by rw [List.length_append,hf,hAl];omega),List.set_append_right _ _ (by omega),hAl];congr 3;omega
theorem OS.put {α:Type} {f:α->List Value} {sz:Nat} {e:TypeId} [E:IV f sz] {w:World} {base g n cap:Nat} {l:List α} (h:OS f sz e w base (.slice (some ⟨g,0,none⟩) n cap) l) (hn:l.length=n) (i j:Nat) (x:α) (u:Value) (hi:i<l.length) (hj:j<sz) (hx:f x=(f l[i]).set j u) :
  OS f sz e (w.setCell ⟨g,i*sz+j,none⟩ u) base (.slice (some ⟨g,0,none⟩) n cap) (l.set i x):=by
 subst hn;refine ⟨?_,by simpa using h.2⟩;rw [flat_put E.len l i j x u hi hj hx,List.length_set];exact (h.1.stored (i*sz+j) u).1
theorem OS.same {α:Type} {f:α->List Value} {sz:Nat} {e:TypeId} {w w':World} {base:Nat} {v:Value} {l:List α} (h:OS f sz e w base v l) (hk:∀ g,v.ownBlock=some g->w'.heap[g]?=w.heap[g]?):OS f sz e w' base v l:=by
 refine ⟨⟨h.1.1,?_⟩,h.2⟩;rcases h.1.2 with hn | ⟨g,cap,cur,e1,hb,hg,r⟩
 ·exact .inl hn
 exact .inr ⟨g,cap,cur,e1,hb,by rw [hk g (by rw [e1];rfl)];exact hg,r⟩
structure Btw (T:TypeId->Prop) (lo hi:Nat) (w w':World):Prop where
 b:Below lo w w'
 k:∀ i,i<w.heap.size->hi<=i->w'.heap[i]?=w.heap[i]?
 t:∀ i,i<w.heap.size->(∀ cs t,w.heap[i]?=some (.cells cs t (0,0))->¬ T t)->w'.heap[i]?=w.heap[i]?
theorem Btw.refl (T:TypeId->Prop) (lo hi:Nat) (w:World):Btw T lo hi w w:=⟨Below.refl _ _,fun _ _ _=>rfl,fun _ _ _=>rfl⟩
theorem Btw.trans {T:TypeId->Prop} {lo hi:Nat} {a b c:World} (h:Btw T lo hi a b) (k:Btw T lo hi b c):Btw T lo hi a c:=
 ⟨h.b.trans k.b,fun i h1 h2=>(k.k i (Nat.lt_of_lt_of_le h1 h.b.size) h2).trans (h.k i h1 h2),
  fun i h1 h2=>(k.t i (Nat.lt_of_lt_of_le h1 h.b.size) (fun cs t e=>h2 cs t (by rw [<-h.t i h1 h2];exact e))).trans (h.t i h1 h2)⟩
theorem Btw.of {T:TypeId->Prop} {lo hi:Nat} {w w':World} (h:Below w.heap.size w w') (hlo:lo<=w.heap.size):Btw T lo hi w w':=⟨h.mono hlo,fun i h1 _=>h.block i h1,fun i h1 _=>h.block i h1⟩
theorem Btw.grown {T:TypeId->Prop} {lo hi:Nat} {w w':World} {r:Option Nat} (h:w.grownBy w' r) (hlo:lo<=w.heap.size) (hr:∀ g,r=some g->lo<=g/\g<hi/\∃ cs t,w.heap[g]?=some (.cells cs t (0,0))/\T t):Btw T lo hi w w':=
 ⟨⟨h.os,h.tape,h.output,h.size,fun k hk=>h.block k (by omega) (fun e=>by have:=hr k e.symm;omega)⟩,fun i h1 h2=>h.block i h1 (fun e=>by have:=hr i e.symm;omega),
  fun i h1 h2=>h.block i h1 (fun e=>by obtain ⟨_,_,cs,t,h3,h4⟩:=hr i e.symm;exact h2 cs t h3 h4)⟩
theorem Btw.mono {T T':TypeId->Prop} {lo hi lo' hi':Nat} {w w':World} (h:Btw T lo hi w w') (hT:∀ t,T t->T' t) (h1:lo'<=lo) (h2:hi<=hi'):Btw T' lo' hi' w w':=⟨h.b.mono h1,fun i a b=>h.k i a (by omega),fun i a b=>h.t i a (fun cs t e x=>b cs t e (hT t x))⟩
theorem OS.btw {T:TypeId->Prop} {α:Type} {f:α->List Value} {sz:Nat} {e:TypeId} {lo hi:Nat} {w w':World} {base:Nat} {v:Value} {l:List α} (h:OS f sz e w base v l) (hb:Btw T lo hi w w') (hh:hi<=base):OS f sz e w' base v l:=
 h.same fun g hg=>hb.k g (h.lt g hg).2 (Nat.le_trans hh (h.lt g hg).1)
theorem OS.off {T:TypeId->Prop} {α:Type} {f:α->List Value} {sz:Nat} {e:TypeId} {lo hi:Nat} {w w':World} {base:Nat} {v:Value} {l:List α} (h:OS f sz e w base v l) (hb:Btw T lo hi w w') (hh:¬ T e):OS f sz e w' base v l:=
 h.same fun g hg=>hb.t g (h.lt g hg).2 (fun cs t e1=>by
  obtain ⟨c2,h2⟩:=h.kind hg;rw [h2] at e1;simp only [Option.some.injEq,Obj.cells.injEq] at e1;rw [<-e1.2.1];exact hh)
theorem OM.off {T:TypeId->Prop} {lo hi:Nat} {w w':World} {base top:Nat} {v:Value} {m:List (List Int)} (h:OM w base top v m) (hb:Btw T lo hi w w') (h1:¬ T 29) (h2:¬ T 3):OM w' base top v m:=by
 obtain ⟨ss,hl,ho,hr,hs⟩:=h;exact ⟨ss,hl,⟨ho.1.off hb h1,ho.2⟩,fun i h h'=>⟨((hr i h h').1.os.off hb h2).oi,(hr i h h').2⟩,hs⟩
theorem OE.off {T:TypeId->Prop} {lo hi:Nat} {w w':World} {base top:Nat} {v:Value} {m:List Kx.Env} (h:OE w base top v m) (hb:Btw T lo hi w w') (h1:¬ T 86) (h2:¬ T 9):OE w' base top v m:=by
 obtain ⟨ss,hl,ho,hr,hs⟩:=h;exact ⟨ss,hl,⟨ho.1.off hb h1,ho.2⟩,fun i h h'=>⟨(hr i h h').1,(hr i h h').2.1.off hb h2,(hr i h h').2.2⟩,hs⟩
theorem OM.btw {T:TypeId->Prop} {lo hi:Nat} {w w':World} {base top:Nat} {v:Value} {m:List (List Int)} (h:OM w base top v m) (hb:Btw T lo hi w w') (hh:hi<=base):OM w' base top v m:=by
 obtain ⟨ss,hl,ho,hr,hs⟩:=h;exact ⟨ss,hl,⟨ho.1.btw hb hh,ho.2⟩,fun i h h'=>⟨((hr i h h').1.os.btw hb hh).oi,(hr i h h').2⟩,hs⟩
theorem OE.btw {T:TypeId->Prop} {lo hi:Nat} {w w':World} {base top:Nat} {v:Value} {m:List Kx.Env} (h:OE w base top v m) (hb:Btw T lo hi w w') (hh:hi<=base):OE w' base top v m:=by
 obtain ⟨ss,hl,ho,hr,hs⟩:=h;exact ⟨ss,hl,⟨ho.1.btw hb hh,ho.2⟩,fun i h h'=>⟨(hr i h h').1,(hr i h h').2.1.btw hb hh,(hr i h h').2.2⟩,hs⟩
theorem KO.btw {T:TypeId->Prop} {lo hi:Nat} {w w':World} {base:Nat} {um ui ue uc:Value} {k:Kx.Kernel} (h:KO w base um ui ue uc k) (hb:Btw T lo hi w w') (hh:hi<=base):KO w' base um ui ue uc k:=
 ⟨(h.m.btw hb hh).mono aW hb.b.size,h.i.btw hb hh,(h.e.btw hb hh).mono aW hb.b.size,h.c.btw hb hh⟩
structure KH_ (w:World) (base hi:Nat) (um ui ue uc:Value) (k:Kx.Kernel):Prop where
 m:OM w base hi um k.mem
 i:OS bH 3 98 w base ui k.ag
 iu:UB ui hi
 e:OE w base hi ue k.ah
 c:OS b_ 4 103 w base uc k.cache
 cu:UB uc hi
theorem KH_.rk {w:World} {base hi:Nat} {um ui ue uc:Value} {k:Kx.Kernel} (h:KH_ w base hi um ui ue uc k):RK w um ui ue uc k:=⟨h.m.rm,h.i.rs,h.e.re,h.c.rs⟩
theorem KO.kh {w:World} {base:Nat} {um ui ue uc:Value} {k:Kx.Kernel} (h:KO w base um ui ue uc k):KH_ w base w.heap.size um ui ue uc k:=⟨h.m,h.i,h.i.ub,h.e,h.c,h.c.ub⟩
theorem KH_.below {w w':World} {base hi:Nat} {um ui ue uc:Value} {k:Kx.Kernel} (h:KH_ w base hi um ui ue uc k) (hb:Below w.heap.size w w'):KH_ w' base hi um ui ue uc k:=⟨h.m.below hb,h.i.below hb,h.iu,h.e.below hb,h.c.below hb,h.cu⟩
theorem OK.kh {w:World} {base hi:Nat} {um ui ue uc:Value} {k:Kx.Kernel} (h:OK w base hi um ui ue uc k):KH_ w base hi um ui ue uc k:=by
 obtain ⟨b1,b2,b3,⟨h1,h2,h3,h4⟩,hm,hi,he,hc⟩:=h;exact ⟨hm.mono aW (by omega),hi.1.mono (by omega),hi.2.mono (by omega),he.mono (by omega) (by omega),hc.1.mono (by omega),hc.2⟩
def OMs (w:World) (base hi:Nat) (u:Value) (ss:List qj) (m:List (List Int)):Prop:=
 ss.length=m.length/\(OS rO 1 29 w base u ss/\UB u hi)/\(∀ i (h:i<ss.length) (h':i<m.length),OI w base (dM ss[i]) m[i]/\UB (dM ss[i]) hi/\Sep (dM ss[i]) u) /\
  ∀ i j (h:i<ss.length) (h':j<ss.length),i<j->Sep (dM ss[j]) (dM ss[i])
theorem Sep.o {a b:Value} (h:Sep a b):b.ownBlock=none\/b.ownBlock≠a.ownBlock:=by
 rcases h with h | h
 ·cases hb:b.ownBlock with
  | none=>exact .inl rfl
  | some k=>rw [h];exact .inr (by simp)
 exact .inr fun e=>h e.symm
theorem OMs.row {w w':World} {base hi:Nat} {u:Value} {ss:List qj} {m:List (List Int)} (h:OMs w base hi u ss m) {i:Nat} (hi':i<ss.length) {xs:List Int} (ho:OI w' base (dM ss[i]) xs) (hg:w.grownBy w' (dM ss[i]).ownBlock):OMs w' base hi u ss (m.set i xs):=by
 obtain ⟨hl,hu,hr,hs⟩:=h;have him:i<m.length:=by omega
 refine ⟨by simpa using hl,⟨hu.1.kept hg (hr i hi' him).2.2.o,hu.2⟩,fun j h h'=>?_,hs⟩
 have hjm:j<m.length:=by simpa using h'
 refine ⟨?_,(hr j h hjm).2⟩
 by_cases e:i=j
 ·subst e;simpa using ho
 have hj:=(hr j h hjm).1;have hq:(m.set i xs)[j]=m[j]:=by simp [List.getElem_set,e]
 rw [hq];refine (hj.os.kept hg ?_).oi;rcases Nat.lt_or_gt_of_ne e with e | e
 ·exact hs i j hi' h e
 exact (hs j i h hi' e).o
def OEs (w:World) (base hi:Nat) (u:Value) (ss:List (qj×Int)) (es:List Kx.Env):Prop:=
 ss.length=es.length/\(OS jG 2 86 w base u ss/\UB u hi)/\(∀ i (h:i<ss.length) (h':i<es.length),ss[i].2=es[i].root/\OS df 1 9 w base (dM ss[i].1) es[i].aB/\UB (dM ss[i].1) hi/\Sep (dM ss[i].1) u) /\
  ∀ i j (h:i<ss.length) (h':j<ss.length),i<j->Sep (dM ss[j].1) (dM ss[i].1)
theorem OEs.row {w w':World} {base hi:Nat} {u:Value} {ss:List (qj×Int)} {m:List Kx.Env} (h:OEs w base hi u ss m) {i:Nat} (hi':i<ss.length) (him:i<m.length) {xs:List Kx.Str} (ho:OS df 1 9 w' base (dM ss[i].1) xs) (hg:w.grownBy w' (dM ss[i].1).ownBlock):OEs w' base hi u ss (m.set i { m[i] with aB:=xs }):=by
 obtain ⟨hl,hu,hr,hs⟩:=h;refine ⟨by simpa using hl,⟨hu.1.kept hg (hr i hi' him).2.2.2.o,hu.2⟩,fun j h h'=>?_,hs⟩
 have hjm:j<m.length:=by simpa using h'
 by_cases e:i=j
 ·subst e;simp only [List.getElem_set_self];exact ⟨(hr i h hjm).1,ho,(hr i h hjm).2.2⟩
 have hj:=(hr j h hjm).2.1;have hq:(m.set i { m[i] with aB:=xs })[j]=m[j]:=by simp [List.getElem_set,e]
 rw [hq];refine ⟨(hr j h hjm).1,hj.kept hg ?_,(hr j h hjm).2.2⟩;rcases Nat.lt_or_gt_of_ne e with e | e
 ·exact hs i j hi' h e
 exact (hs j i h hi' e).o
theorem OEs.root {w:World} {base hi g n cap:Nat} {ss:List (qj×Int)} {m:List Kx.Env} (h:OEs w base hi (.slice (some ⟨g,0,none⟩) n cap) ss m) (hn:ss.length=n) {i:Nat} (hi':i<ss.length) (him:i<m.length) (r:Int) :
  OEs (w.setCell ⟨g,i*2+1,none⟩ (I_ r)) base hi (.slice (some ⟨g,0,none⟩) n cap) (ss.set i (ss[i].1,r)) (m.set i { m[i] with root:=r }):=by
 obtain ⟨hl,hu,hr,hs⟩:=h;have hone:∀ (j:Nat) (h:j<(ss.set i (ss[i].1,r)).length) (h':j<ss.length),(ss.set i (ss[i].1,r))[j].1=ss[j].1:=by
  intro j h h'
  by_cases e:i=j
  ·subst e;simp
  simp [List.getElem_set,e]
 refine ⟨by simpa using hl,⟨hu.1.put hn i 1 (ss[i].1,r) (I_ r) hi' (by decide) rfl,hu.2⟩,fun j h h'=>?_,fun j q h h' hjq=>?_⟩
 ·have hj:j<ss.length:=by simpa using h
  have hjm:j<m.length:=by simpa using h'
  obtain ⟨h1,h2,h3,h4⟩:=hr j hj hjm;have hk:=h2.kept (aK w g (i*2+1) (I_ r)) h4;rw [hone j h hj]
  by_cases e:i=j
  ·subst e;simp only [List.getElem_set_self];exact ⟨trivial,hk,h3,h4⟩
  have hq:(m.set i { m[i] with root:=r })[j]=m[j]:=by simp [List.getElem_set,e]
  have hq2:(ss.set i (ss[i].1,r))[j]=ss[j]:=by simp [List.getElem_set,e]
  rw [hq,hq2];exact ⟨h1,hk,h3,h4⟩
 have hj:j<ss.length:=by simpa using h
 have hq:q<ss.length:=by simpa using h'
 rw [hone j h hj,hone q h' hq];exact hs j q hj hq hjq
end Go.Proofs.YthcmmoibpgcgaaaGreatDoor
namespace Kx
theorem mkInts_append:∀ (a b:List Int) (n:Int),mkInts n (a ++ b)=mkInts n a ++ mkInts (n+a.length) b
 | [],b,n=>by simp [mkInts]
 | _ :: a,b,n=>by
  simp only [List.cons_append,mkInts,mkInts_append a b (n+1),List.length_cons];rw [show n+1+(a.length:Int)=n+((a.length+1:Nat):Int) by omega]
theorem mkStrs_append:∀ (a b:List Str) (n:Int),mkStrs n (a ++ b)=mkStrs n a ++ mkStrs (n+a.length) b
 | [],b,n=>by simp [mkStrs]
 | _ :: a,b,n=>by
  simp only [List.cons_append,mkStrs,mkStrs_append a b (n+1),List.length_cons];rw [show n+1+(a.length:Int)=n+((a.length+1:Nat):Int) by omega]
theorem mkInfos_append:∀ (a b:List aG) (n:Int),mkInfos n (a ++ b)=mkInfos n a ++ mkInfos (n+3*a.length) b
 | [],b,n=>by simp [mkInfos]
 | _ :: a,b,n=>by
  simp only [List.cons_append,mkInfos,mkInfos_append a b (n+3),List.length_cons];rw [show n+3+3*(a.length:Int)=n+3*((a.length+1:Nat):Int) by omega]
theorem mkCache_append:∀ (a b:List Cached) (n:Int),mkCache n (a ++ b)=mkCache n a ++ mkCache (n+4*a.length) b
 | [],b,n=>by simp [mkCache]
 | _ :: a,b,n=>by
  simp only [List.cons_append,mkCache,mkCache_append a b (n+4),List.length_cons];rw [show n+4+4*(a.length:Int)=n+4*((a.length+1:Nat):Int) by omega]
theorem mkMem_append:∀ (a b:List (List Int)) (n:Int),mkMem n (a ++ b)=mkMem n a ++ mkMem (n+memN a) b
 | [],b,n=>by simp [mkMem,memN]
 | r :: a,b,n=>by
  simp only [List.cons_append,mkMem,mkMem_append a b (n+r.length),memN_cons];rw [show n+(r.length:Int)+memN a=n+((r.length:Int)+memN a) by omega]
theorem mkEnvs_append:∀ (a b:List Env) (n:Int),mkEnvs n (a ++ b)=mkEnvs n a ++ mkEnvs (n+envN a) b
 | [],b,n=>by simp [mkEnvs,envN]
 | e :: a,b,n=>by
  simp only [List.cons_append,mkEnvs,mkEnvs_append a b (n+e.aB.length+1),envN_cons];rw [show n+(e.aB.length:Int)+1+envN a=n+((e.aB.length:Int)+1+envN a) by omega]
theorem put_step {α:Type} {P l:List α} {j:Nat} (hP:P.length=j) (hj:j<l.length) (x:α):(P ++ l.drop j).set j x=P ++ [x] ++ l.drop (j+1):=by
 rw [List.set_append_right _ _ (by omega),hP,Nat.sub_self,List.drop_eq_getElem_cons hj,List.set_cons_zero];simp
theorem put_len {α:Type} {P l:List α} {j:Nat} (hP:P.length=j) (hj:j<=l.length):(P ++ l.drop j).length=l.length:=by rw [List.length_append,List.length_drop];omega
theorem put_get {α:Type} {P l:List α} {j:Nat} (hP:P.length=j) (hj:j<l.length) (h:j<(P ++ l.drop j).length):(P ++ l.drop j)[j]=l[j]:=by
 rw [List.getElem_append_right (by omega)];simp [hP]
theorem mkInts_step (n:Int) (l:List Int) (j:Nat) (hj:j<l.length):(mkInts n (l.take j) ++ l.drop j).set j (n+j)=mkInts n (l.take (j+1)) ++ l.drop (j+1):=by
 rw [put_step (by rw [mkInts_length,List.length_take,Nat.min_eq_left (by omega)]) hj,List.take_succ_eq_append_getElem hj,mkInts_append,List.length_take,Nat.min_eq_left (by omega)];rfl
theorem mkStrs_step (n:Int) (l:List Str) (j:Nat) (hj:j<l.length):(mkStrs n (l.take j) ++ l.drop j).set j (mt (n+j))=mkStrs n (l.take (j+1)) ++ l.drop (j+1):=by
 rw [put_step (by rw [mkStrs_length,List.length_take,Nat.min_eq_left (by omega)]) hj,List.take_succ_eq_append_getElem hj,mkStrs_append,List.length_take,Nat.min_eq_left (by omega)];rfl
theorem mkInfos_step (n:Int) (l:List aG) (j:Nat) (hj:j<l.length):(mkInfos n (l.take j) ++ l.drop j).set j ⟨n+3*j,mt (n+3*j+1),n+3*j+2⟩=mkInfos n (l.take (j+1)) ++ l.drop (j+1):=by
 rw [put_step (by rw [mkInfos_length,List.length_take,Nat.min_eq_left (by omega)]) hj,List.take_succ_eq_append_getElem hj,mkInfos_append,List.length_take,Nat.min_eq_left (by omega)];rfl
theorem mkCache_step (n:Int) (l:List Cached) (j:Nat) (hj:j<l.length):(mkCache n (l.take j) ++ l.drop j).set j ⟨n+4*j,n+4*j+1,n+4*j+2,(n+4*j+3) % 3==0⟩=mkCache n (l.take (j+1)) ++ l.drop (j+1):=by
 rw [put_step (by rw [mkCache_length,List.length_take,Nat.min_eq_left (by omega)]) hj,List.take_succ_eq_append_getElem hj,mkCache_append,List.length_take,Nat.min_eq_left (by omega)];rfl
theorem mkMem_step (n:Int) (l:List (List Int)) (j:Nat) (hj:j<l.length):(mkMem n (l.take j) ++ l.drop j).set j (mkInts (n+memN (l.take j)) l[j])=mkMem n (l.take (j+1)) ++ l.drop (j+1):=by
 rw [put_step (by rw [mkMem_length,List.length_take,Nat.min_eq_left (by omega)]) hj,List.take_succ_eq_append_getElem hj,mkMem_append];rfl
theorem memN_take (l:List (List Int)) (j:Nat) (hj:j<l.length):memN (l.take (j+1))=memN (l.take j)+l[j].length:=by
 rw [List.take_succ_eq_append_getElem hj];simp only [memN,List.map_append,List.sum_append];simp
theorem mkEnvs_step (n:Int) (l:List Env) (j:Nat) (hj:j<l.length):(mkEnvs n (l.take j) ++ l.drop j).set j ⟨mkStrs (n+envN (l.take j)) l[j].aB,n+envN (l.take j)+l[j].aB.length⟩=mkEnvs n (l.take (j+1)) ++ l.drop (j+1):=by
 rw [put_step (by rw [mkEnvs_length,List.length_take,Nat.min_eq_left (by omega)]) hj,List.take_succ_eq_append_getElem hj,mkEnvs_append];rfl
theorem envN_take (l:List Env) (j:Nat) (hj:j<l.length):envN (l.take (j+1))=envN (l.take j)+l[j].aB.length+1:=by
 rw [List.take_succ_eq_append_getElem hj];simp only [envN,List.map_append,List.sum_append];simp;omega
end Kx
namespace Go.Proofs.YthcmmoibpgcgaaaGreatDoor
open Go.RowKit Kx

theorem OS.spot {α:Type} {f:α->List Value} {sz:Nat} {e:TypeId} [E:IV f sz] {w:World} {base g n cap:Nat} {l:List α} (h:OS f sz e w base (.slice (some ⟨g,0,none⟩) n cap) l) {i:Nat} (hi:i<l.length) (j:Nat) (hj:j<sz):∃ u,w.cell? ⟨g,i*sz+j,none⟩=some u/\w.frozen? ⟨g,i*sz+j,none⟩=false:=by
 obtain ⟨b,off,cap',e1,_,hc⟩:=h.rs.at hi;have hj':j<(f l[i]).length:=by rw [E.len];exact hj
 obtain ⟨u,hu⟩:∃ u,(f l[i])[j]?=some u:=⟨_,List.getElem?_eq_getElem hj'⟩;obtain ⟨cs,hk⟩:=h.kind (g:=g) rfl;obtain ⟨b',cap'',e2,_,_⟩:=h.shape (by omega);obtain ⟨⟨rfl,rfl,_⟩,_,_⟩:=Zb e1;clear e1;exact ⟨u,by have:=hc j u hu;simpa using this,by simp [World.frozen?,hk]⟩
theorem markText_i (n:Int) (w:World) (h0:0<=n) (h:n<1099511627776) :
  Calls prog 120 #[I_ n] w fun e w'=>e=.returned (.string (Kx.mt n))/\Below w.heap.size w w':=by
 obtain ⟨m,rfl⟩:=Int.eq_ofNat_of_zero_le h0;exact markText_c m w (by omega)

theorem markInts_c (xs:List Int) (k0:Int) (base:Nat) (v:Value) (w:World) (h:OI w base v xs) (h0:0<=k0) (h1:k0<=1099511627776) :
  Calls prog 42 #[v,I_ k0] w fun e w'=>e=.returned (I_ (k0+xs.length))/\OI w' base v (Kx.mkInts k0 xs)/\w.grownBy w' v.ownBlock:=by
 obtain ⟨a,cap,rfl⟩:=h.ri.val;have hl:=h.2;have H:=af h;clear h;go_enter func42,ntmps42;go_wp2_with fail;go_loopw [1,5] (fun k i wr=>∃ j:Nat,i=I_ j/\j<=xs.length/\k=I_ (k0+(j:Int))/\TI (OI wr base (.slice a xs.length cap) (Kx.mkInts k0 (xs.take j) ++ xs.drop j))/\TI (w.grownBy wr (Value.slice a xs.length cap).ownBlock))
  (fun _ i _=>xs.length - (intOf i).toNat)
 case atStart=>exact ⟨0,rfl,Nat.zero_le _,by simp,by simpa [TI,Kx.mkInts] using H.o,World.grownBy.refl _ _⟩
 case round =>
  obtain ⟨j,rfl,hj,rfl,ho,hg⟩:=hrel;have hlen:(Kx.mkInts k0 (xs.take j) ++ xs.drop j).length=xs.length:=Kx.put_len (by rw [Kx.mkInts_length,List.length_take,Nat.min_eq_left hj]) hj
  by_cases hlt:j<xs.length
  ·obtain ⟨g,cap',e,_,hc,hf⟩:=ho.o.at (k:=j) (by omega);obtain ⟨rfl,he,rfl⟩:=Za e;clear e he;have kQ:(j:Int)<(xs.length:Int):=by omega
   obtain ⟨ho2,hg2⟩:=ho.o.stored hlen j (k0+(j:Int));rw [Kx.mkInts_step k0 xs j hlt] at ho2;have hg2:w.grownBy _ (Value.slice (some ⟨g,0,none⟩) xs.length cap).ownBlock:=grownBy_trans hg.o hg2;have l7:=af ho2;clear ho2;have DT:=af hg2;obtain ⟨z,hz⟩:∃ z,wr.cell? ⟨g,j,none⟩=some z:=⟨_,hc⟩;clear hg2 hc hlen;go_wp2_with fail;go_roundw
   case rel=>exact ⟨j+1,by go_num,by omega,by first | rfl | (congr 1;omega),l7.o,DT.o⟩
   case measure=>simp [intOf];omega
  have:j=xs.length:=by omega
  subst this;go_wp2_with fail;go_ret;exact ⟨rfl,by simpa using ho.o,hg.o⟩
theorem markStrs_c (xs:List Kx.Str) (k0:Int) (base:Nat) (v:Value) (w:World) (h:OS df 1 9 w base v xs) (h0:0<=k0) (h1:k0+xs.length<1099511627776) :
  Calls prog 190 #[v,I_ k0] w fun e w'=>e=.returned (I_ (k0+xs.length))/\OS df 1 9 w' base v (Kx.mkStrs k0 xs)/\w.grownBy w' v.ownBlock:=by
 obtain ⟨a,cap,rfl,_,_⟩:=h.rs.val;have hl:=h.2;have H:=af h;clear h;go_enter func190,ntmps190;go_wp2_with fail;go_loopw [1,5] (fun k i wr=>∃ j:Nat,i=I_ j/\j<=xs.length/\k=I_ (k0+(j:Int))/\TI (OS df 1 9 wr base (.slice a xs.length cap) (Kx.mkStrs k0 (xs.take j) ++ xs.drop j))/\TI (w.grownBy wr (Value.slice a xs.length cap).ownBlock))
  (fun _ i _=>xs.length - (intOf i).toNat)
 case atStart=>exact ⟨0,rfl,Nat.zero_le _,by simp,by simpa [TI,Kx.mkStrs] using H.o,World.grownBy.refl _ _⟩
 case round =>
  obtain ⟨j,rfl,hj,rfl,ho,hg⟩:=hrel;have hlen:=af (show (Kx.mkStrs k0 (xs.take j) ++ xs.drop j).length=xs.length from Kx.put_len (by rw [Kx.mkStrs_length,List.length_take,Nat.min_eq_left hj]) hj)
  by_cases hlt:j<xs.length
  ·obtain ⟨g,cap',e,_,_⟩:=ho.o.shape (by rw [hlen.o];omega);obtain ⟨rfl,he,rfl⟩:=Za e;clear e he;have kQ:(j:Int)<(xs.length:Int):=by omega
   go_wp2_with fail;refine (markText_i (k0+j) wr (by omega) (by omega)).mono ?_;rintro en w2 ⟨rfl,hb⟩;have l7:=af (ho.o.below hb);have DT:=af (grownBy_trans hg.o (IG hb _));clear hb;obtain ⟨z,hz,hf⟩:=l7.o.spot (i:=j) (by rw [hlen.o];omega) 0 (by decide);rw [Nat.mul_one,Nat.add_zero] at hz hf;have jJ:=af (show OS df 1 9 (w2.setCell ⟨g,j,none⟩ (.string (Kx.mt (k0+j)))) base _ _ by
    have:=l7.o.put hlen.o j 0 (Kx.mt (k0+j)) (.string (Kx.mt (k0+j))) (by rw [hlen.o];omega) (by decide) rfl
    rw [Nat.mul_one,Nat.add_zero,Kx.mkStrs_step k0 xs j hlt] at this;exact this)
   have ql:=af (grownBy_trans DT.o (aK w2 g j (.string (Kx.mt (k0+j)))));clear DT l7 ho hg;go_wp2_with fail;go_roundw
   case rel=>exact ⟨j+1,by go_num,by omega,by first | rfl | (congr 1;omega),jJ.o,ql.o⟩
   case measure=>simp [intOf];omega
  have:j=xs.length:=by omega
  subst this;go_wp2_with fail;go_ret;exact ⟨rfl,by simpa using ho.o,hg.o⟩
end Go.Proofs.YthcmmoibpgcgaaaGreatDoor
namespace Kx
theorem memN_nn (m:List (List Int)):0<=memN m:=by unfold memN;omega
theorem memN_le (m:List (List Int)) (j:Nat):memN (m.take j)<=memN m:=by
 conv=>rhs;rw [<-List.take_append_drop j m]
 have:memN (m.take j ++ m.drop j)=memN (m.take j)+memN (m.drop j):=by simp only [memN,List.map_append,List.sum_append];omega
 have:=memN_nn (m.drop j)
 omega
theorem envN_nn (m:List Env):0<=envN m:=by unfold envN;omega
theorem envN_le (m:List Env) (j:Nat):envN (m.take j)<=envN m:=by
 conv=>rhs;rw [<-List.take_append_drop j m]
 have:envN (m.take j ++ m.drop j)=envN (m.take j)+envN (m.drop j):=by simp only [envN,List.map_append,List.sum_append];omega
 have:=envN_nn (m.drop j)
 omega
end Kx
namespace Go.Proofs.YthcmmoibpgcgaaaGreatDoor
open Go.RowKit Kx

theorem markInfos_c (xs:List Kx.aG) (k0:Int) (base:Nat) (v:Value) (w:World) (h:OS bH 3 98 w base v xs) (h0:0<=k0) (h1:k0+3*xs.length<1099511627776) :
  Calls prog 112 #[v,I_ k0] w fun e w'=>e=.returned (I_ (k0+3*xs.length))/\OS bH 3 98 w' base v (Kx.mkInfos k0 xs)/\w.grownBy w' v.ownBlock:=by
 obtain ⟨a,cap,rfl,_,_⟩:=h.rs.val;have hl:=h.2;have H:=af h;clear h;go_enter func112,ntmps112;go_wp2_with fail;go_loopw [1,5] (fun k i wr=>∃ j:Nat,i=I_ j/\j<=xs.length/\k=I_ (k0+3*(j:Int))/\TI (OS bH 3 98 wr base (.slice a xs.length cap) (Kx.mkInfos k0 (xs.take j) ++ xs.drop j))/\TI (w.grownBy wr (Value.slice a xs.length cap).ownBlock))
  (fun _ i _=>xs.length - (intOf i).toNat)
 case atStart=>exact ⟨0,rfl,Nat.zero_le _,by simp,by simpa [TI,Kx.mkInfos] using H.o,World.grownBy.refl _ _⟩
 case round =>
  obtain ⟨j,rfl,hj,rfl,ho,hg⟩:=hrel;have hlen:=af (show (Kx.mkInfos k0 (xs.take j) ++ xs.drop j).length=xs.length from Kx.put_len (by rw [Kx.mkInfos_length,List.length_take,Nat.min_eq_left hj]) hj)
  by_cases hlt:j<xs.length
  ·obtain ⟨g,cap',e,_,_⟩:=ho.o.shape (by rw [hlen.o];omega);obtain ⟨rfl,he,rfl⟩:=Za e;clear e he;have kQ:(j:Int)<(xs.length:Int):=by omega
   have hK1:k0+3*(j:Int)+2<=1099511627776:=by omega
   have hst:=af (Kx.mkInfos_step k0 xs j hlt);obtain ⟨L0,hL0⟩:∃ x,Kx.mkInfos k0 (xs.take j) ++ xs.drop j=x:=⟨_,rfl⟩;rw [hL0] at ho hlen hst;clear hL0;obtain ⟨q,hq⟩:∃ x,k0+3*(j:Int)=x:=⟨_,rfl⟩;rw [hq] at hst hK1 ⊢;rw [show q+2=q+1+1 by omega] at hst;have Hq:=af hq;have hq0:0<=q:=by omega
   clear hq;have hjl:=af (show j<L0.length by rw [hlen.o];exact hlt);have Ho0:=ho;clear ho;obtain ⟨z0,hz0,hf0⟩:=Ho0.o.spot hjl.o 0 (by decide);rw [Nat.add_zero] at hz0 hf0;have O_:=af (Ho0.o.put hlen.o j 0 ⟨q,(L0[j]'hjl.o).guard,(L0[j]'hjl.o).refs⟩ (I_ q) hjl.o (by decide) rfl);rw [Nat.add_zero] at O_;go_wp2_with fail;refine (markText_i (q+1) _ (by omega) (by omega)).mono ?_;rintro en w2 ⟨rfl,hb⟩;have l7:=af (O_.o.below hb);have DT:=af (grownBy_trans (grownBy_trans hg.o (aK _ g _ _)) (IG hb _));clear hb;have hl1:=af (show j<(L0.set j ⟨q,(L0[j]'hjl.o).guard,(L0[j]'hjl.o).refs⟩).length by rw [List.length_set];exact hjl.o);obtain ⟨z1,hz1,hf1⟩:=l7.o.spot hl1.o 1 (by decide)
   have jJ:=af (l7.o.put (by rw [List.length_set];exact hlen.o) j 1 ⟨q,Kx.mt (q+1),(L0[j]'hjl.o).refs⟩ (.string (Kx.mt (q+1))) hl1.o (by decide) (by simp [bH]));rw [List.set_set] at jJ;have hl3:=af (show j<(L0.set j ⟨q,Kx.mt (q+1),(L0[j]'hjl.o).refs⟩).length by rw [List.length_set];exact hjl.o);obtain ⟨z2,hz2,hf2⟩:=jJ.o.spot hl3.o 2 (by decide);have kH:=af (jJ.o.put (by rw [List.length_set];exact hlen.o) j 2 ⟨q,Kx.mt (q+1),q+1+1⟩ (I_ (q+1+1)) hl3.o (by decide) (by simp [bH]));rw [List.set_set,hst.o] at kH;have rU:=af (grownBy_trans (grownBy_trans DT.o (aK _ g (j*3+1) (.string (Kx.mt (q+1))))) (aK _ g (j*3+2) (I_ (q+1+1))));clear jJ l7 DT O_ hz0 hf0;go_wp2_with fail;go_roundw
   case rel=>exact ⟨j+1,by go_num,by omega,by have:=Hq.o;congr 1;omega,kH.o,rU.o⟩
   case measure=>simp [intOf];omega
  have:j=xs.length:=by omega
  subst this;go_wp2_with fail;go_ret;exact ⟨rfl,by simpa using ho.o,hg.o⟩
theorem markCache_c (xs:List Kx.Cached) (k0:Int) (base:Nat) (v:Value) (w:World) (h:OS b_ 4 103 w base v xs) (h0:0<=k0) (h1:k0+4*xs.length<1099511627776) :
  Calls prog 114 #[v,I_ k0] w fun e w'=>e=.returned (I_ (k0+4*xs.length))/\OS b_ 4 103 w' base v (Kx.mkCache k0 xs)/\w.grownBy w' v.ownBlock:=by
 obtain ⟨a,cap,rfl,_,_⟩:=h.rs.val;have hl:=h.2;have H:=af h;clear h;go_enter func114,ntmps114;go_wp2_with fail;go_loopw [1,5] (fun k i wr=>∃ j:Nat,i=I_ j/\j<=xs.length/\k=I_ (k0+4*(j:Int))/\TI (OS b_ 4 103 wr base (.slice a xs.length cap) (Kx.mkCache k0 (xs.take j) ++ xs.drop j))/\TI (w.grownBy wr (Value.slice a xs.length cap).ownBlock))
  (fun _ i _=>xs.length - (intOf i).toNat)
 case atStart=>exact ⟨0,rfl,Nat.zero_le _,by simp,by simpa [TI,Kx.mkCache] using H.o,World.grownBy.refl _ _⟩
 case round =>
  obtain ⟨j,rfl,hj,rfl,ho,hg⟩:=hrel;have hlen:=af (show (Kx.mkCache k0 (xs.take j) ++ xs.drop j).length=xs.length from Kx.put_len (by rw [Kx.mkCache_length,List.length_take,Nat.min_eq_left hj]) hj)
  by_cases hlt:j<xs.length
  ·obtain ⟨g,cap',e,_,_⟩:=ho.o.shape (by rw [hlen.o];omega);obtain ⟨rfl,he,rfl⟩:=Za e;clear e he;have kQ:(j:Int)<(xs.length:Int):=by omega
   have hK1:k0+4*(j:Int)+3<=1099511627776:=by omega
   have hst:=af (Kx.mkCache_step k0 xs j hlt);obtain ⟨L0,hL0⟩:∃ x,Kx.mkCache k0 (xs.take j) ++ xs.drop j=x:=⟨_,rfl⟩;rw [hL0] at ho hlen hst;clear hL0;obtain ⟨q,hq⟩:∃ x,k0+4*(j:Int)=x:=⟨_,rfl⟩;rw [hq] at hst hK1 ⊢;rw [show q+3=q+1+1+1 by omega,show q+2=q+1+1 by omega] at hst;have Hq:=af hq;have hq0:0<=q:=by omega
   clear hq;have xH:(q+1+1+1).tmod 3=(q+1+1+1) % 3:=Int.tmod_eq_emod_of_nonneg (by omega);have hjl:=af (show j<L0.length by rw [hlen.o];exact hlt);have Ho0:=ho;clear ho;obtain ⟨x0,hx0⟩:∃ x,L0[j]'hjl.o=x:=⟨_,rfl⟩;obtain ⟨z0,hz0,hf0⟩:=Ho0.o.spot hjl.o 0 (by decide);rw [Nat.add_zero] at hz0 hf0;have O_:=af (Ho0.o.put hlen.o j 0 ⟨q,x0.page,x0.frame,x0.write⟩ (I_ q) hjl.o (by decide) (by rw [hx0];rfl));rw [Nat.add_zero] at O_;obtain ⟨z1,hz1,hf1⟩:=O_.o.spot (i:=j) (by rw [List.length_set];exact hjl.o) 1 (by decide);have l7:=af (O_.o.put (by rw [List.length_set];exact hlen.o) j 1 ⟨q,q+1,x0.frame,x0.write⟩ (I_ (q+1)) (by rw [List.length_set];exact hjl.o) (by decide) (by simp [b_]));rw [List.set_set] at l7;obtain ⟨z2,hz2,hf2⟩:=l7.o.spot (i:=j) (by rw [List.length_set];exact hjl.o) 2 (by decide)
   have jJ:=af (l7.o.put (by rw [List.length_set];exact hlen.o) j 2 ⟨q,q+1,q+1+1,x0.write⟩ (I_ (q+1+1)) (by rw [List.length_set];exact hjl.o) (by decide) (by simp [b_]));rw [List.set_set] at jJ;obtain ⟨z3,hz3,hf3⟩:=jJ.o.spot (i:=j) (by rw [List.length_set];exact hjl.o) 3 (by decide);have kH:=af (jJ.o.put (by rw [List.length_set];exact hlen.o) j 3 ⟨q,q+1,q+1+1,(q+1+1+1) % 3==0⟩ (.bool ((q+1+1+1) % 3==0)) (by rw [List.length_set];exact hjl.o) (by decide) (by simp [b_]));rw [List.set_set,hst.o] at kH;have rU:=af (grownBy_trans (grownBy_trans (grownBy_trans (grownBy_trans hg.o (aK _ g (j*4) (I_ q))) (aK _ g (j*4+1) (I_ (q+1)))) (aK _ g (j*4+2) (I_ (q+1+1)))) (aK _ g (j*4+3) (.bool ((q+1+1+1) % 3==0))));clear Ho0 jJ l7 O_ hx0 hst hg;go_wp2_with fail;go_roundw
   case rel=>exact ⟨j+1,by go_num,by omega,by have:=Hq.o;congr 1;omega,kH.o,rU.o⟩
   case measure=>simp [intOf];omega
  have:j=xs.length:=by omega
  subst this;go_wp2_with fail;go_ret;exact ⟨rfl,by simpa using ho.o,hg.o⟩
theorem markMem_c (m:List (List Int)) (k0:Int) (base hi:Nat) (v:Value) (w:World) (h:OM w base hi v m) (hbw:base<=w.heap.size) (h0:0<=k0) (h1:k0+Kx.memN m<=1099511627776) :
  Calls prog 111 #[v,I_ k0] w fun e w'=>e=.returned (I_ (k0+Kx.memN m))/\OM w' base hi v (Kx.mkMem k0 m)/\Btw (·=3) base hi w w':=by
 obtain ⟨ss,hx⟩:=h;have hOM:OMs w base hi v ss m:=hx;clear hx;have Hl:=af hOM.1;obtain ⟨a,cap,rfl,_,_⟩:=hOM.2.1.1.rs.val;have hl2:=hOM.2.1.1.2;have H:=af hOM;clear hOM;go_enter func111,ntmps111;go_wp2_with fail;go_loopw [1,5] (fun k i wr=>∃ j:Nat,i=I_ j/\j<=ss.length/\k=I_ (k0+Kx.memN (m.take j))/\TI (OMs wr base hi (.slice a ss.length cap) ss (Kx.mkMem k0 (m.take j) ++ m.drop j))/\TI (Btw (·=3) base hi w wr))
  (fun _ i _=>ss.length - (intOf i).toNat)
 case atStart=>exact ⟨0,rfl,Nat.zero_le _,by simp [Kx.memN],by simpa [TI,Kx.mkMem] using H.o,Btw.refl _ _ _ _⟩
 case round =>
  obtain ⟨j,rfl,hj,rfl,ho,hg⟩:=hrel
  by_cases hlt:j<ss.length
  ·have hjm:j<m.length:=by have:=Hl.o;omega
   have hP:(Kx.mkMem k0 (m.take j)).length=j:=by rw [Kx.mkMem_length,List.length_take,Nat.min_eq_left (by omega)]
   have hlen:=af (Kx.put_len hP (show j<=m.length by omega));have hget:=af (Kx.put_get hP hjm (by rw [hlen.o];exact hjm));have hst:=af (Kx.mkMem_step k0 m j hjm);have htk:=af (Kx.memN_take m j hjm);have hle:=af (show Kx.memN (m.take (j+1))<=Kx.memN m from Kx.memN_le m (j+1));have hN:=af (Kx.memN_nn (m.take j));clear hP;obtain ⟨g,cap',e,_,_⟩:=ho.o.2.1.1.shape (by omega);obtain ⟨rfl,he,rfl⟩:=Za e;clear e he;have kQ:(j:Int)<(ss.length:Int):=by omega
   obtain ⟨b,off,c2,e,_,hc⟩:=ho.o.2.1.1.rs.at hlt;obtain ⟨⟨rfl,rfl,e0⟩,e1,e2⟩:=Zb e;clear e e0 e1 e2;have hc0:=hc 0 _ rfl;rw [Nat.mul_one,Nat.add_zero,Nat.zero_add] at hc0;clear hc;obtain ⟨hr,hub,_⟩:=ho.o.2.2.1 j hlt (by rw [hlen.o];exact hjm);rw [hget.o] at hr;have Hr:=af hr;have Va:=af hub;clear hr hub;unfold dM at hc0;generalize hs0:ss[j]=s0 at hc0;obtain ⟨sa,sn,sc⟩:=s0;have JG:=af hs0;clear hs0;go_wp2_with fail;clear hc0;have xG:=af (show OI wr base (.slice sa sn sc) m[j] by have:=Hr.o;rw [JG.o] at this;exact this);refine (markInts_c m[j] _ base _ wr xG.o (by have:=hN.o;omega) (by have:=hle.o;have:=htk.o;have:=hN.o;omega)).mono ?_;rintro en w2 ⟨rfl,hro,hgr⟩
   have l7:=af (ho.o.row hlt (w':=w2) (xs:=Kx.mkInts (k0+Kx.memN (m.take j)) m[j]) (by rw [JG.o];exact hro) (by rw [JG.o];exact hgr));rw [hst.o] at l7;have DT:=af (hg.o.trans (Btw.grown hgr (Nat.le_trans hbw hg.o.b.size) (fun g' hg'=>⟨(xG.o.lt g' hg').1,Va.o g' (by rw [JG.o];exact hg'),(xG.o.os.kind hg').elim fun cs hcs=>⟨cs,_,hcs,rfl⟩⟩)))
   clear hro hgr ho hg;go_wp2_with fail;go_roundw
   case rel=>exact ⟨j+1,by go_num,by omega,by rw [htk.o];congr 1;omega,l7.o,DT.o⟩
   case measure=>simp [intOf];omega
  have:j=ss.length:=by omega
  subst this;have e1:m.take ss.length=m:=by rw [Hl.o];exact List.take_length
  have e2:m.drop ss.length=[]:=by rw [Hl.o];exact List.drop_length
  rw [e1,e2,List.append_nil] at ho;rw [e1];go_wp2_with fail;go_ret;exact ⟨rfl,⟨ss,ho.o⟩,hg.o⟩

theorem markEnvs_c (m:List Kx.Env) (k0:Int) (base hi:Nat) (v:Value) (w:World) (h:OE w base hi v m) (hbw:base<=w.heap.size) (h0:0<=k0) (h1:k0+Kx.envN m<1099511627776) :
  Calls prog 113 #[v,I_ k0] w fun e w'=>e=.returned (I_ (k0+Kx.envN m))/\OE w' base hi v (Kx.mkEnvs k0 m)/\Btw (fun t=>t=9\/t=86) base hi w w':=by
 obtain ⟨ss0,hx⟩:=h;have hOM:OEs w base hi v ss0 m:=hx;clear hx;obtain ⟨a,cap,hv,_,_⟩:=hOM.2.1.1.rs.val;rw [hOM.1] at hv;subst hv;have hl2:=hOM.2.1.1.2;rw [hOM.1] at hl2;have H:=af hOM;clear hOM;go_enter func113,ntmps113;go_wp2_with fail;go_loopw [1,5] (fun k i wr=>∃ (j:Nat) (ss:List (qj×Int)),i=I_ j/\j<=m.length/\k=I_ (k0+Kx.envN (m.take j))/\TI (OEs wr base hi (.slice a m.length cap) ss (Kx.mkEnvs k0 (m.take j) ++ m.drop j))/\TI (Btw (fun t=>t=9\/t=86) base hi w wr))
  (fun _ i _=>m.length - (intOf i).toNat)
 case atStart=>exact ⟨0,ss0,rfl,Nat.zero_le _,by simp [Kx.envN],by simpa [TI,Kx.mkEnvs] using H.o,Btw.refl _ _ _ _⟩
 case round =>
  obtain ⟨j,ss,rfl,hj,rfl,ho,hg⟩:=hrel
  by_cases hlt:j<m.length
  ·have hP:(Kx.mkEnvs k0 (m.take j)).length=j:=by rw [Kx.mkEnvs_length,List.length_take,Nat.min_eq_left (by omega)]
   have hlen:=af (Kx.put_len hP hj);have hget:=af (Kx.put_get hP hlt (by rw [hlen.o];exact hlt));have hst:=af (Kx.mkEnvs_step k0 m j hlt);have htk:=af (Kx.envN_take m j hlt);have hle:=af (show Kx.envN (m.take (j+1))<=Kx.envN m from Kx.envN_le m (j+1));have hN:=af (Kx.envN_nn (m.take j));clear hP;have hssl:=af (show ss.length=m.length by rw [ho.o.1,hlen.o]);have hjs:=af (show j<ss.length by rw [hssl.o];exact hlt);obtain ⟨g,cap',e,_,_⟩:=ho.o.2.1.1.shape (by rw [hssl.o];omega);obtain ⟨rfl,he,rfl⟩:=Za e;clear e he;have kQ:(j:Int)<(m.length:Int):=by omega
   obtain ⟨b,off,c2,e,_,hc⟩:=ho.o.2.1.1.rs.at hjs.o;obtain ⟨⟨rfl,rfl,e0⟩,e1,e2⟩:=Zb e;clear e e0 e1 e2;have hc0:=hc 0 _ rfl;rw [Nat.add_zero,Nat.zero_add] at hc0;clear hc;obtain ⟨_,hr,hub,_⟩:=ho.o.2.2.1 j hjs.o (by rw [hlen.o];exact hlt);rw [hget.o] at hr;have Hr:=af hr;have Va:=af hub;clear hr hub;unfold dM at hc0;generalize hs0:(ss[j]'hjs.o).1=s0 at hc0;obtain ⟨sa,sn,sc⟩:=s0;have JG:=af hs0;clear hs0;go_wp2_with fail;clear hc0;have xG:=af (show OS df 1 9 wr base (.slice sa sn sc) m[j].aB by have:=Hr.o;rw [JG.o] at this;exact this);refine (markStrs_c m[j].aB _ base _ wr xG.o (by have:=hN.o;omega) (by have:=hle.o;have:=htk.o;have:=hN.o;omega)).mono ?_;rintro en w2 ⟨rfl,hro,hgr⟩;obtain ⟨q,hq⟩:=XP (k0+Kx.envN (m.take j)+(m[j].aB.length:Int))
   have hq1:q+1<=1099511627776:=by have:=hle.o;have:=htk.o;omega
   have hq0:0<=q:=by have:=hN.o;omega
   have hjl:=af (show j<(Kx.mkEnvs k0 (m.take j) ++ m.drop j).length by rw [hlen.o];exact hlt);have l7:=af (ho.o.row hjs.o hjl.o (w':=w2) (xs:=Kx.mkStrs (k0+Kx.envN (m.take j)) m[j].aB) (by rw [JG.o];exact hro) (by rw [JG.o];exact hgr));have DT:=af (hg.o.trans (Btw.grown hgr (Nat.le_trans hbw hg.o.b.size) (fun g' hg'=>⟨(xG.o.lt g' hg').1,Va.o g' (by rw [JG.o];exact hg'),(xG.o.kind hg').elim fun cs hcs=>⟨cs,_,hcs,.inl rfl⟩⟩)))
   clear hro hgr ho hg;obtain ⟨z,hz,hf⟩:=l7.o.2.1.1.spot hjs.o 1 (by decide);have jJ:=af (l7.o.root hssl.o (i:=j) hjs.o (by rw [List.length_set];exact hjl.o) q);rw [List.set_set] at jJ;simp only [List.getElem_set_self] at jJ;have hst2:=hst.o;rw [hq] at hst2 ⊢;rw [hst2] at jJ;have ql:=af (DT.o.trans (Btw.grown (aK w2 g (j*2+1) (I_ q)) (Nat.le_trans hbw DT.o.b.size) (fun g' hg'=>by
    obtain rfl:g=g':=by simpa using hg'
    exact ⟨(l7.o.2.1.1.lt g rfl).1,l7.o.2.1.2 g rfl,(l7.o.2.1.1.kind (g:=g) rfl).elim fun cs hcs=>⟨cs,_,hcs,.inr rfl⟩⟩)))
   have Hq:=af hq;clear hst2 hst l7 DT hq;go_wp2_with fail;go_roundw
   case rel=>exact ⟨j+1,_,by go_num,by omega,by have:=Hq.o;rw [htk.o];congr 1;omega,jJ.o,ql.o⟩
   case measure=>simp [intOf];omega
  have:j=m.length:=by omega
  subst this;have e1:m.take m.length=m:=List.take_length;have e2:m.drop m.length=[]:=List.drop_length;rw [e1,e2,List.append_nil] at ho;rw [e1];go_wp2_with fail;go_ret;exact ⟨rfl,⟨ss,ho.o⟩,hg.o⟩

def Mk (t:TypeId):Prop:=t=3\/t=98\/(t=9\/t=86)\/t=103
theorem BX.off {T:TypeId->Prop} {w w':World} {g lo hi:Nat} {e:TypeId} {cs:List Value} (h:BX w g e cs) (hb:Btw T lo hi w w') (ht:¬ T e):BX w' g e cs:=
 (hb.t g h.lt (fun c t e1=>by
  have h2:w.heap[g]?=some (.cells cs.toArray e (0,0)):=h;rw [h2] at e1;simp only [Option.some.injEq,Obj.cells.injEq] at e1;rw [<-e1.2.1];exact ht)).trans h

theorem markKernel_c (k:Kx.Kernel) (n:Int) (base hi:Nat) (um ui ue uc:Value) (w:World) (h:KH_ w base hi um ui ue uc k) (hbw:base<=w.heap.size) (hhi:hi<=w.heap.size) (h0:0<=n) (h1:(Kx.markK n k).2<1099511627776) :
  Calls prog 35 #[.agg #[um,ui,ue,uc],I_ n] w fun e w'=>e=.returned (I_ (Kx.markK n k).2)/\KH_ w' base hi um ui ue uc (Kx.markK n k).1/\Btw Mk base hi w w':=by
 obtain ⟨⟨am,nm,cm,rfl⟩,⟨ai,ni,ci,rfl⟩,⟨ae,ne,ce,rfl⟩,⟨ac,nc,cc,rfl⟩⟩:=h.rk.slc;obtain ⟨w0,hw0⟩:=XP (w.alloc (.cells #[.slice am nm cm,.slice ai ni ci,.slice ae ne ce,.slice ac nc cc] 28));have B0:=af (show Below w.heap.size w w0 from hw0 ▸ dm);have X0:=af (show BX w0 w.heap.size 28 [.slice am nm cm,.slice ai ni ci,.slice ae ne ce,.slice ac nc cc] from hw0 ▸ BX.new _ _ _);have H:=af (h.below B0.o);clear h;obtain ⟨a,ha⟩:=XP (n+Kx.memN k.mem);obtain ⟨b,hb⟩:=XP (a+3*(k.ag.length:Int));obtain ⟨c,hc⟩:=XP (b+Kx.envN k.ah);obtain ⟨d,hd⟩:=XP (c+4*(k.cache.length:Int));have eM:Kx.markK n k=(⟨Kx.mkMem n k.mem,Kx.mkInfos a k.ag,Kx.mkEnvs b k.ah,Kx.mkCache c k.cache⟩,d):=by
  unfold Kx.markK;simp only [ha,hb,hc,hd]
 rw [eM] at h1 ⊢;clear eM;have nn1:=Kx.memN_nn k.mem;have nn2:=Kx.envN_nn k.ah;have L:=af (show 0<=a/\a<=b/\0<=b/\b<=c/\0<=c/\c<=d/\d<1099511627776 by refine ⟨?_,?_,?_,?_,?_,?_,h1⟩ <;> omega);clear h1 nn1 nn2;have Ha:=af ha;have Hb:=af hb;have Hc:=af hc;have Hd:=af hd;clear ha hb hc hd;have Hhi:=af hhi;have Q4:=af hbw;clear hhi hbw;have c0:w0.cell? ⟨w.heap.size,0,none⟩=some (.slice am nm cm):=X0.o.cell 0;go_enter func35,ntmps35;go_wp2_with fail;clear hw0;refine (markMem_c k.mem n base hi _ w0 H.o.m (Nat.le_trans Q4.o B0.o.size) h0 (by have:=L.o;have:=Ha.o;omega)).mono ?_;rintro en w1 ⟨rfl,hm1,hb1⟩;clear c0;rw [Ha.o];have HM:=af hm1;have G1:=af hb1;clear hm1 hb1;have X1:=af (show BX w1 w.heap.size 28 [.slice am nm cm,.slice ai ni ci,.slice ae ne ce,.slice ac nc cc] from (G1.o.k _ X0.o.lt Hhi.o).trans X0.o)
 have HI:=af (H.o.i.off G1.o (by decide));have HE:=af (H.o.e.off G1.o (by decide) (by decide));have HC:=af (H.o.c.off G1.o (by decide));have c1:w1.cell? ⟨w.heap.size,1,none⟩=some (.slice ai ni ci):=X1.o.cell 1;go_wp2_with fail;refine (markInfos_c k.ag a base _ w1 HI.o (by have:=L.o;omega) (by have:=L.o;have:=Hb.o;omega)).mono ?_;rintro en w2 ⟨rfl,hi2,hg2⟩;clear c1;rw [Hb.o];have HI2:=af hi2;have G2:=af (show Btw (·=98) base hi w1 w2 from Btw.grown hg2 (Nat.le_trans Q4.o (Nat.le_trans B0.o.size G1.o.b.size)) (fun g hg=>⟨(HI.o.lt g hg).1,H.o.iu g hg,(HI.o.kind hg).elim fun cs hcs=>⟨cs,_,hcs,rfl⟩⟩))
 clear hi2 hg2 HI;have X2:=af (show BX w2 w.heap.size 28 [.slice am nm cm,.slice ai ni ci,.slice ae ne ce,.slice ac nc cc] from (G2.o.k _ X1.o.lt Hhi.o).trans X1.o);have HM2:=af (HM.o.off G2.o (by decide) (by decide));have HE2:=af (HE.o.off G2.o (by decide) (by decide));have HC2:=af (HC.o.off G2.o (by decide));have c2:w2.cell? ⟨w.heap.size,2,none⟩=some (.slice ae ne ce):=X2.o.cell 2;clear HM HE HC;go_wp2_with fail;refine (markEnvs_c k.ah b base hi _ w2 HE2.o (Nat.le_trans Q4.o (Nat.le_trans B0.o.size (Nat.le_trans G1.o.b.size G2.o.b.size))) (by have:=L.o;omega) (by have:=L.o;have:=Hc.o;omega)).mono ?_;rintro en w3 ⟨rfl,he3,hb3⟩;clear c2;rw [Hc.o];have Zu:=af he3;have G3:=af hb3;clear he3 hb3 HE2
 have X3:=af (show BX w3 w.heap.size 28 [.slice am nm cm,.slice ai ni ci,.slice ae ne ce,.slice ac nc cc] from (G3.o.k _ X2.o.lt Hhi.o).trans X2.o);have HM3:=af (HM2.o.off G3.o (by decide) (by decide));have HI3:=af (HI2.o.off G3.o (by decide));have TG:=af (HC2.o.off G3.o (by decide));have c3:w3.cell? ⟨w.heap.size,3,none⟩=some (.slice ac nc cc):=X3.o.cell 3;clear HM2 HI2 HC2;go_wp2_with fail;refine (markCache_c k.cache c base _ w3 TG.o (by have:=L.o;omega) (by have:=L.o;have:=Hd.o;omega)).mono ?_;rintro en w4 ⟨rfl,hc4,hg4⟩;clear c3;rw [Hd.o];have HC4:=af hc4;have G4:=af (show Btw (·=103) base hi w3 w4 from Btw.grown hg4 (Nat.le_trans Q4.o (Nat.le_trans B0.o.size (Nat.le_trans G1.o.b.size (Nat.le_trans G2.o.b.size G3.o.b.size)))) (fun g hg=>⟨(TG.o.lt g hg).1,H.o.cu g hg,(TG.o.kind hg).elim fun cs hcs=>⟨cs,_,hcs,rfl⟩⟩))
 clear hc4 hg4 TG;go_wp2_with fail;go_ret;refine ⟨rfl,⟨HM3.o.off G4.o (by decide) (by decide),HI3.o.off G4.o (by decide),H.o.iu,Zu.o.off G4.o (by decide) (by decide),HC4.o,H.o.cu⟩,?_⟩;exact (Btw.of B0.o Q4.o).trans ((G1.o.mono (fun _ h=>.inl h) aW aW).trans ((G2.o.mono (fun _ h=>.inr (.inl h)) aW aW).trans ((G3.o.mono (fun _ h=>.inr (.inr (.inl h))) aW aW).trans (G4.o.mono (fun _ h=>.inr (.inr (.inr h))) aW aW))))
theorem heldInts_c (xs:List Int) (k0:Int) (v:Value) (w:World) (h:RI w v (Kx.mkInts k0 xs)) (h0:0<=k0) (h1:k0<=1099511627776) :
  Calls prog 43 #[v,I_ k0] w fun e w'=>e=.returned (I_ (k0+xs.length))/\w=w':=by
 obtain ⟨a,cap,rfl⟩:=h.val;have hl:=h.1;rw [Kx.mkInts_length] at hl ⊢;have H:=af h;clear h;obtain ⟨n,hn⟩:=XP xs.length;have Hn:=af hn;rw [hn] at hl ⊢;clear hn;go_enter func43,ntmps43;go_wp2_with fail;go_loop [1,5] (fun k i=>∃ j:Nat,i=I_ j/\j<=n/\k=I_ (k0+(j:Int))) (fun _ i=>n - (intOf i).toNat)
 case atStart=>exact ⟨0,rfl,Nat.zero_le _,by simp⟩
 case round =>
  obtain ⟨j,rfl,hj,rfl⟩:=hrel
  by_cases hlt:j<n
  ·obtain ⟨b,off,cap',e,_,hc⟩:=H.o.at (k:=j) (by rw [Kx.mkInts_length,Hn.o];exact hlt);rw [Kx.mkInts_get] at hc;obtain ⟨rfl,e1,rfl⟩:=Za e;clear e e1;have kQ:(j:Int)<(n:Int):=by omega
   have hne:((k0+(j:Int)) != (k0+(j:Int)))=false:=by simp
   go_wp2_with fail;go_round
   case rel=>exact ⟨j+1,by go_num,by omega,by first | rfl | (congr 1;omega)⟩
   case measure=>simp [intOf];omega
  have:j=n:=by omega
  subst this;go_wp2_with fail;go_ret;exact ⟨rfl,rfl⟩
theorem heldStrs_c (xs:List Kx.Str) (k0:Int) (v:Value) (w:World) (h:dK w v (Kx.mkStrs k0 xs)) (h0:0<=k0) (h1:k0+xs.length<1099511627776) :
  Calls prog 191 #[v,I_ k0] w fun e w'=>e=.returned (I_ (k0+xs.length))/\Below w.heap.size w w':=by
 obtain ⟨a,cap,rfl,_,_⟩:=RS.val h;have hl:=h.1;rw [Kx.mkStrs_length] at hl ⊢;have H:=af h;clear h;obtain ⟨n,hn⟩:=XP xs.length;have Hn:=af hn;rw [Kx.mkStrs_length] at H;rw [hn] at hl h1 H ⊢;clear hn;go_enter func191,ntmps191;go_wp2_with fail;go_loopw [1,5] (fun k i wr=>∃ j:Nat,i=I_ j/\j<=n/\k=I_ (k0+(j:Int))/\TI (Below w.heap.size w wr)) (fun _ i _=>n - (intOf i).toNat)
 case atStart=>exact ⟨0,rfl,Nat.zero_le _,by simp,Below.refl _ _⟩
 case round =>
  obtain ⟨j,rfl,hj,rfl,hb⟩:=hrel;have Bw:=af hb.o;clear hb
  by_cases hlt:j<n
  ·have Hr:=af (show dK wr (.slice a n cap) (Kx.mkStrs k0 xs) from RS.below H.o Bw.o);obtain ⟨b,off,cap',e,hbs,hc⟩:=RS.at Hr.o (k:=j) (by rw [Kx.mkStrs_length,Hn.o];exact hlt);have hc0:=hc 0 _ rfl;rw [Kx.mkStrs_get,Nat.mul_one,Nat.add_zero] at hc0;clear hc;obtain ⟨rfl,e1,rfl⟩:=Za e;clear e e1;have kQ:(j:Int)<(n:Int):=by omega
   have IK_:=af (show ∀ W,Below wr.heap.size wr W->W.cell? ⟨b,off+j,none⟩=some (.string (Kx.mt (k0+j))) from fun W hW=>(Below.cell hW hbs).trans hc0)
   have HTx:=af (show 0<=k0+(j:Int)/\k0+(j:Int)<1099511627776 by omega);clear hc0 hbs;have hb0:=Below.refl wr.heap.size wr;have hS0:=IK_.o _ (Below.bz hb0);go_wp2_with fail;refine afi IK_ fun hHeld=>?_
   clear hS0;obtain ⟨d,hd⟩:=XP wr.drew;rw [hd] at hHeld ⊢;replace hb0:Below wr.heap.size wr d:=hd ▸ Below.bz hb0;clear hd;refine afV 0 ?_;refine ac' 4 ?_;refine ahk 5 fun K hK=>?_
   (go_simp;go_at_call 120;refine (markText_i _ _ HTx.o.1 HTx.o.2).mono ?_;rintro en v1 ⟨rfl,hb⟩;have hb1:=hb0.trans ((hb).mono hb0.size);clear hb;have hS1:=IK_.o v1 hb1;go_wp2_with fail)
   refine afS hK fun hHeld=>?_
   clear hK K;refine ac' 6 ?_;refine wpAnyH_done (by kernel_rfl) ?_ _;have X5:=af (Bw.o.trans (hb1.mono Bw.o.size));go_wp2_with fail;go_roundw
   case rel=>exact ⟨j+1,by go_num,by omega,by first | rfl | (congr 1;omega),X5.o⟩
   case measure=>simp [intOf];omega
  have:j=n:=by omega
  subst this;go_wp2_with fail;go_ret;exact ⟨rfl,Bw.o⟩

theorem heldInfos_c (xs:List Kx.aG) (k0:Int) (v:Value) (w:World) (h:bV w v (Kx.mkInfos k0 xs)) (h0:0<=k0) (h1:k0+3*xs.length<1099511627776) :
  Calls prog 116 #[v,I_ k0] w fun e w'=>e=.returned (I_ (k0+3*xs.length))/\Below w.heap.size w w':=by
 obtain ⟨a,cap,rfl,_,_⟩:=RS.val h;have hl:=h.1;rw [Kx.mkInfos_length] at hl ⊢;have H:=af h;clear h;obtain ⟨n,hn⟩:=XP xs.length;have Hn:=af hn;rw [Kx.mkInfos_length] at H;rw [hn] at hl h1 H ⊢;clear hn;go_enter func116,ntmps116;go_wp2_with fail;go_loopw [1,5] (fun k i wr=>∃ j:Nat,i=I_ j/\j<=n/\k=I_ (k0+3*(j:Int))/\TI (Below w.heap.size w wr)) (fun _ i _=>n - (intOf i).toNat)
 case atStart=>exact ⟨0,rfl,Nat.zero_le _,by simp,Below.refl _ _⟩
 case round =>
  obtain ⟨j,rfl,hj,rfl,hb⟩:=hrel;have Bw:=af hb.o;clear hb
  by_cases hlt:j<n
  ·have Hr:=af (show bV wr (.slice a n cap) (Kx.mkInfos k0 xs) from RS.below H.o Bw.o);obtain ⟨b,off,cap',e,hbs,hc⟩:=RS.at Hr.o (k:=j) (by rw [Kx.mkInfos_length,Hn.o];exact hlt);rw [Kx.mkInfos_get] at hc;have HK:=af (show k0+3*(j:Int)+3<=1099511627775 by omega);obtain ⟨q,hq⟩:∃ x,k0+3*(j:Int)=x:=⟨_,rfl⟩;rw [hq] at hc HK ⊢;have Hq:=af hq;have hq0:0<=q:=by omega
   clear hq;have hK1:=HK.o;have hc0:=hc 0 _ rfl;have hc1:=hc 1 _ rfl;have hc2:=hc 2 _ rfl;rw [Nat.add_zero] at hc0;rw [show q+2=q+1+1 by omega] at hc2;clear hc;obtain ⟨rfl,e1,rfl⟩:=Za e;clear e e1;have kQ:(j:Int)<(n:Int):=by omega
   have hn0:(q != q)=false:=by simp
   have IK_:=af (show ∀ W,Below wr.heap.size wr W->W.cell? ⟨b,off+j*3+1,none⟩=some (.string (Kx.mt (q+1))) from fun W hW=>(Below.cell hW hbs).trans hc1)
   have IK2:=af (show ∀ W,Below wr.heap.size wr W->W.cell? ⟨b,off+j*3+2,none⟩=some (I_ (q+1+1)) from fun W hW=>(Below.cell hW hbs).trans hc2)
   have HTx:=af (show 0<=q+1/\q+1<1099511627776 by omega);clear hc1 hc2 hbs;have hb0:=Below.refl wr.heap.size wr;have hS0:=IK_.o _ (Below.bz hb0);go_wp2_with fail;refine afi IK_ fun hHeld=>?_
   clear hS0 hc0;obtain ⟨d,hd⟩:=XP wr.drew;rw [hd] at hHeld ⊢;replace hb0:Below wr.heap.size wr d:=hd ▸ Below.bz hb0;clear hd;refine afV 0 ?_;refine afU 4 ?_;refine ahk 6 fun K hK=>?_
   (go_simp;go_at_call 120;refine (markText_i _ _ HTx.o.1 HTx.o.2).mono ?_;rintro en v1 ⟨rfl,hb⟩;have hb1:=hb0.trans ((hb).mono hb0.size);clear hb;have hS1:=IK_.o v1 hb1;go_wp2_with fail)
   refine afS hK fun hHeld=>?_
   clear hK K;refine ac' 7 ?_;refine wpAnyH_done (by kernel_rfl) ?_ _;have X5:=af (Bw.o.trans (hb1.mono Bw.o.size));have hc2:=IK2.o v1 hb1;have hn2:((q+1+1) != (q+1+1))=false:=by simp
   go_wp2_with fail;go_roundw
   case rel=>exact ⟨j+1,by go_num,by omega,by have:=Hq.o;congr 1;omega,X5.o⟩
   case measure=>simp [intOf];omega
  have:j=n:=by omega
  subst this;go_wp2_with fail;go_ret;exact ⟨rfl,Bw.o⟩
theorem heldCache_c (xs:List Kx.Cached) (k0:Int) (v:Value) (w:World) (h:dZ w v (Kx.mkCache k0 xs)) (h0:0<=k0) (h1:k0+4*xs.length<1099511627776) :
  Calls prog 118 #[v,I_ k0] w fun e w'=>e=.returned (I_ (k0+4*xs.length))/\w=w':=by
 obtain ⟨a,cap,rfl,_,_⟩:=RS.val h;have hl:=h.1;rw [Kx.mkCache_length] at hl ⊢;have H:=af h;clear h;obtain ⟨n,hn⟩:=XP xs.length;have Hn:=af hn;rw [Kx.mkCache_length] at H;rw [hn] at hl h1 H ⊢;clear hn;go_enter func118,ntmps118;go_wp2_with fail;go_loop [1,5] (fun k i=>∃ j:Nat,i=I_ j/\j<=n/\k=I_ (k0+4*(j:Int))) (fun _ i=>n - (intOf i).toNat)
 case atStart=>exact ⟨0,rfl,Nat.zero_le _,by simp⟩
 case round =>
  obtain ⟨j,rfl,hj,rfl⟩:=hrel
  by_cases hlt:j<n
  ·obtain ⟨b,off,cap',e,hbs,hc⟩:=RS.at H.o (k:=j) (by rw [Kx.mkCache_length,Hn.o];exact hlt);rw [Kx.mkCache_get] at hc;have HK:=af (show k0+4*(j:Int)+4<=1099511627775 by omega);obtain ⟨q,hq⟩:∃ x,k0+4*(j:Int)=x:=⟨_,rfl⟩;rw [hq] at hc HK ⊢;have Hq:=af hq;have hq0:0<=q:=by omega
   clear hq;have hK1:=HK.o;have hc0:=hc 0 _ rfl;have hc1:=hc 1 _ rfl;have hc2:=hc 2 _ rfl;have hc3:=hc 3 _ rfl;rw [Nat.add_zero] at hc0;rw [show q+2=q+1+1 by omega] at hc2;rw [show q+3=q+1+1+1 by omega] at hc3;clear hc hbs;obtain ⟨rfl,e1,rfl⟩:=Za e;clear e e1;have kQ:(j:Int)<(n:Int):=by omega
   have xH:(q+1+1+1).tmod 3=(q+1+1+1) % 3:=Int.tmod_eq_emod_of_nonneg (by omega);have hn0:(q != q)=false:=by simp
   have hn1:((q+1) != (q+1))=false:=by simp
   have hn2:((q+1+1) != (q+1+1))=false:=by simp
   have hn3:(((q+1+1+1) % 3==0) != ((q+1+1+1) % 3==0))=false:=by simp
   go_wp2_with fail;go_round
   case rel=>exact ⟨j+1,by go_num,by omega,by have:=Hq.o;congr 1;omega⟩
   case measure=>simp [intOf];omega
  have:j=n:=by omega
  subst this;go_wp2_with fail;go_ret;exact ⟨rfl,rfl⟩
theorem heldMem_c (m:List (List Int)) (k0:Int) (v:Value) (w:World) (h:RM w v (Kx.mkMem k0 m)) (h0:0<=k0) (h1:k0+Kx.memN m<=1099511627776) :
  Calls prog 115 #[v,I_ k0] w fun e w'=>e=.returned (I_ (k0+Kx.memN m))/\w=w':=by
 obtain ⟨vs,hl,hs,hr⟩:=h;obtain ⟨a,cap,rfl,_,_⟩:=hs.val;have hl2:=hs.1;rw [Kx.mkMem_length] at hl;obtain ⟨n,hn⟩:=XP vs.length;have Hn:=af hn;have Hm:=af (show m.length=n by omega);have Hs:=af hs;have Hr:=af hr;rw [hn] at hl2 Hs ⊢;clear hl hs hr hn;go_enter func115,ntmps115;go_wp2_with fail;go_loop [1,5] (fun k i=>∃ j:Nat,i=I_ j/\j<=n/\k=I_ (k0+Kx.memN (m.take j))) (fun _ i=>n - (intOf i).toNat)
 case atStart=>exact ⟨0,rfl,Nat.zero_le _,by simp [Kx.memN]⟩
 case round =>
  obtain ⟨j,rfl,hj,rfl⟩:=hrel
  by_cases hlt:j<n
  ·have hjm:=af (show j<m.length by rw [Hm.o];exact hlt);have hjv:=af (show j<vs.length by rw [Hn.o];exact hlt);have htk:=af (Kx.memN_take m j hjm.o);have hle:=af (show Kx.memN (m.take (j+1))<=Kx.memN m from Kx.memN_le m (j+1));have hN:=af (Kx.memN_nn (m.take j));have hjk:=af (show j<(Kx.mkMem k0 m).length by rw [Kx.mkMem_length];exact hjm.o);have hri:=Hr.o j hjv.o hjk.o;rw [Kx.mkMem_get m k0 j hjk.o hjm.o] at hri;obtain ⟨b,off,cap',e,_,hc⟩:=RS.at Hs.o (k:=j) hjv.o;have hc0:=hc 0 _ rfl;rw [Nat.mul_one,Nat.add_zero] at hc0;clear hc;obtain ⟨rfl,e1,rfl⟩:=Za e;clear e e1;generalize hx:vs[j]'hjv.o=x at hc0 hri;clear hx;obtain ⟨xa,xc,rfl⟩:=hri.val;have YF:=af hri;clear hri;rw [Kx.mkInts_length] at hc0 YF;have kQ:(j:Int)<(n:Int):=by omega
   generalize hrow:m[j]'hjm.o=row at hc0 YF htk;clear hrow;generalize hP:Kx.memN (m.take j)=P at YF htk hN;have hlr:k0+P+(row.length:Int)<=1099511627776:=by have:=hle.o;have:=htk.o;omega
   have hk0:0<=k0+P:=by have:=hN.o;omega
   have hk1:¬ (k0+P+(row.length:Int)<0):=by omega
   go_wp2_with fail;refine (heldInts_c row (k0+P) _ w YF.o hk0 (by omega)).mono ?_;rintro en w2 ⟨rfl,rfl⟩;go_wp2_with fail;go_round
   case rel=>exact ⟨j+1,by go_num,by omega,by rw [htk.o];congr 1;omega⟩
   case measure=>simp [intOf];omega
  have:j=n:=by omega
  subst this;have e1:m.take j=m:=by rw [<-Hm.o];exact List.take_length
  rw [e1];go_wp2_with fail;go_ret;exact ⟨rfl,rfl⟩

theorem heldEnvs_c (m:List Kx.Env) (k0:Int) (v:Value) (w:World) (h:uo w v (Kx.mkEnvs k0 m)) (h0:0<=k0) (h1:k0+Kx.envN m<1099511627776) :
  Calls prog 117 #[v,I_ k0] w fun e w'=>e=.returned (I_ (k0+Kx.envN m))/\Below w.heap.size w w':=by
 obtain ⟨vs,hl,hs,hr⟩:=h;obtain ⟨a,cap,rfl,_,_⟩:=hs.val;have hl2:=hs.1;rw [Kx.mkEnvs_length] at hl;obtain ⟨n,hn⟩:=XP vs.length;have Hn:=af hn;have Hm:=af (show m.length=n by omega);have Hs:=af hs;have Hr:=af hr;rw [hn] at hl2 Hs ⊢;clear hl hs hr hn;go_enter func117,ntmps117;go_wp2_with fail;go_loopw [1,5] (fun k i wr=>∃ j:Nat,i=I_ j/\j<=n/\k=I_ (k0+Kx.envN (m.take j))/\TI (Below w.heap.size w wr)) (fun _ i _=>n - (intOf i).toNat)
 case atStart=>exact ⟨0,rfl,Nat.zero_le _,by simp [Kx.envN],Below.refl _ _⟩
 case round =>
  obtain ⟨j,rfl,hj,rfl,hb⟩:=hrel;have Bw:=af hb.o;clear hb
  by_cases hlt:j<n
  ·have hjm:=af (show j<m.length by rw [Hm.o];exact hlt);have hjv:=af (show j<vs.length by rw [Hn.o];exact hlt);have htk:=af (Kx.envN_take m j hjm.o);have hle:=af (show Kx.envN (m.take (j+1))<=Kx.envN m from Kx.envN_le m (j+1));have hN:=af (Kx.envN_nn (m.take j));have hjk:=af (show j<(Kx.mkEnvs k0 m).length by rw [Kx.mkEnvs_length];exact hjm.o);obtain ⟨hroot,hri⟩:=Hr.o j hjv.o hjk.o;rw [Kx.mkEnvs_get m k0 j hjk.o hjm.o] at hroot hri;have Hs2:=af (show RS QD 2 wr _ vs from RS.below Hs.o Bw.o);obtain ⟨b,off,cap',e,hbs,hc⟩:=RS.at Hs2.o (k:=j) hjv.o;have hc0:=hc 0 _ rfl;have hc1:=hc 1 _ rfl;rw [Nat.add_zero] at hc0;clear hc;obtain ⟨rfl,e1,rfl⟩:=Za e;clear e e1;rw [hroot] at hc1;clear hroot;generalize hx:(vs[j]'hjv.o).1=x at hc0 hri;clear hx;have hri:dK w x (Kx.mkStrs (k0+Kx.envN (m.take j)) (m[j]'hjm.o).aB):=hri
   obtain ⟨xa,xc,rfl,_,_⟩:=RS.val hri;have YF:=af (show dK wr _ _ from RS.below hri Bw.o);clear hri;have hc1:wr.cell? ⟨b,off+j*2+1,none⟩=some (.int .i64 (k0+Kx.envN (m.take j)+((m[j]'hjm.o).aB.length:Int))):=hc1;rw [Kx.mkStrs_length] at hc0 YF;have kQ:(j:Int)<(n:Int):=by omega
   generalize hrow:(m[j]'hjm.o).aB=row at hc0 hc1 YF htk;clear hrow;generalize hP:Kx.envN (m.take j)=P at YF htk hN hc1;obtain ⟨q,hq⟩:=XP (k0+P+(row.length:Int));rw [hq] at hc1;have hq1:q+1<=1099511627775:=by have:=hle.o;have:=htk.o;omega
   have hq0:0<=q:=by have:=hN.o;omega
   have hk0:=af (show 0<=k0+P by have:=hN.o;omega);have hk1:¬ (q<0):=by omega
   have hn0:(q != q)=false:=by simp
   have Hq:=af hq;clear hq;have Zy:=af (fun (W:World) (hW:Below wr.heap.size wr W)=>(Below.cell hW hbs).trans hc1)
   clear hc1 hbs;go_wp2_with fail;refine (heldStrs_c row (k0+P) _ wr YF.o hk0.o (by have:=Hq.o;omega)).mono ?_;rintro en w2 ⟨rfl,hb⟩;rw [Hq.o];have hc1:=Zy.o w2 hb;have X5:=af (Bw.o.trans (hb.mono Bw.o.size));clear hb hc0;go_wp2_with fail;go_roundw
   case rel=>exact ⟨j+1,by go_num,by omega,by have:=Hq.o;rw [htk.o];congr 1;omega,X5.o⟩
   case measure=>simp [intOf];omega
  have:j=n:=by omega
  subst this;have e1:m.take j=m:=by rw [<-Hm.o];exact List.take_length
  rw [e1];go_wp2_with fail;go_ret;exact ⟨rfl,Bw.o⟩
theorem heldKernel_c (k:Kx.Kernel) (n:Int) (um ui ue uc:Value) (w:World) (h:RK w um ui ue uc (Kx.markK n k).1) (h0:0<=n) (h1:(Kx.markK n k).2<1099511627776) :
  Calls prog 36 #[.agg #[um,ui,ue,uc],I_ n] w fun e w'=>e=.returned (I_ (Kx.markK n k).2)/\Below w.heap.size w w':=by
 obtain ⟨⟨am,nm,cm,rfl⟩,⟨ai,ni,ci,rfl⟩,⟨ae,ne,ce,rfl⟩,⟨ac,nc,cc,rfl⟩⟩:=h.slc;obtain ⟨w0,hw0⟩:=XP (w.alloc (.cells #[.slice am nm cm,.slice ai ni ci,.slice ae ne ce,.slice ac nc cc] 28));have B0:=af (show Below w.heap.size w w0 from hw0 ▸ dm);have X0:=af (show BX w0 w.heap.size 28 [.slice am nm cm,.slice ai ni ci,.slice ae ne ce,.slice ac nc cc] from hw0 ▸ BX.new _ _ _);obtain ⟨a,ha⟩:=XP (n+Kx.memN k.mem);obtain ⟨b,hb⟩:=XP (a+3*(k.ag.length:Int));obtain ⟨c,hc⟩:=XP (b+Kx.envN k.ah);obtain ⟨d,hd⟩:=XP (c+4*(k.cache.length:Int));have eM:Kx.markK n k=(⟨Kx.mkMem n k.mem,Kx.mkInfos a k.ag,Kx.mkEnvs b k.ah,Kx.mkCache c k.cache⟩,d):=by
  unfold Kx.markK;simp only [ha,hb,hc,hd]
 rw [eM] at h h1 ⊢;clear eM;have H:=af (h.below B0.o);clear h;have nn1:=Kx.memN_nn k.mem;have nn2:=Kx.envN_nn k.ah;have L:=af (show 0<=a/\a<=b/\0<=b/\b<=c/\0<=c/\c<=d/\d<1099511627776 by refine ⟨?_,?_,?_,?_,?_,?_,h1⟩ <;> omega);clear h1 nn1 nn2;have Ha:=af ha;have Hb:=af hb;have Hc:=af hc;have Hd:=af hd;clear ha hb hc hd;have na:¬ (a<0):=by have:=L.o;omega
 have nb:¬ (b<0):=by have:=L.o;omega
 have nc':¬ (c<0):=by have:=L.o;omega
 have nd:¬ (d<0):=by have:=L.o;omega
 have c0:w0.cell? ⟨w.heap.size,0,none⟩=some (.slice am nm cm):=X0.o.cell 0;go_enter func36,ntmps36;go_wp2_with fail;clear hw0;refine (heldMem_c k.mem n _ w0 H.o.m h0 (by have:=L.o;have:=Ha.o;omega)).mono ?_;rintro en w1 ⟨rfl,rfl⟩;rw [Ha.o];have c1:w0.cell? ⟨w.heap.size,1,none⟩=some (.slice ai ni ci):=X0.o.cell 1;clear c0;go_wp2_with fail;refine (heldInfos_c k.ag a _ w0 H.o.i (by have:=L.o;omega) (by have:=L.o;have:=Hb.o;omega)).mono ?_;rintro en w1 ⟨rfl,hb1⟩;rw [Hb.o];have G1:=af (B0.o.trans (hb1.mono B0.o.size));have H1:=af (H.o.below hb1);have X1:=af (X0.o.below hb1);clear hb1 c1;have c2:w1.cell? ⟨w.heap.size,2,none⟩=some (.slice ae ne ce):=X1.o.cell 2;go_wp2_with fail;refine (heldEnvs_c k.ah b _ w1 H1.o.e (by have:=L.o;omega) (by have:=L.o;have:=Hc.o;omega)).mono ?_;rintro en w2 ⟨rfl,hb2⟩;rw [Hc.o]
 have G2:=af (G1.o.trans (hb2.mono G1.o.size));have H2:=af (H1.o.below hb2);have X2:=af (X1.o.below hb2);clear hb2 c2;have c3:w2.cell? ⟨w.heap.size,3,none⟩=some (.slice ac nc cc):=X2.o.cell 3;go_wp2_with fail;refine (heldCache_c k.cache c _ w2 H2.o.c (by have:=L.o;omega) (by have:=L.o;have:=Hd.o;omega)).mono ?_;rintro en w3 ⟨rfl,rfl⟩;rw [Hd.o];clear c3;go_wp2_with fail;go_ret;exact ⟨rfl,G2.o⟩

theorem szCall_c (x:Kx.Call) (lf:Nat) (w:World) (hs:x.name.size<=9223372036854775807) (hl:lf<=1048576):Calls prog 30 #[dW x,I_ lf] w (Sz lf x.name.size w):=by
 have hb:=af (show Below w.heap.size w (w.alloc (.cells #[I_ x.kind,I_ x.env,I_ x.a,I_ x.b,I_ x.c,.string x.name] 66)) from fZ.alloc aW _);have Rt:(x.name.size:Int)<=9223372036854775807:=by omega
 clear hs;unfold dW
 by_cases hlt:lf<x.name.size
 ·have HR:=af (gQ hlt);have hI:(lf:Int)<(x.name.size:Int):=by omega
  go_enter func30,ntmps30;go_wp2_with fail;go_ret;exact ⟨aZ HR.o.symm,hb.o⟩
 have HR:=af (iJ (Nat.not_lt.1 hlt));have hI:¬ (lf:Int)<(x.name.size:Int):=by omega
 go_enter func30,ntmps30;go_wp2_with fail;go_ret;exact ⟨aZ (by rw [HR.o];omega),hb.o⟩
theorem toCall_c (x:Kx.Call) (w:World):Calls prog 33 #[dW x] w fun e w'=>e=.returned (dW x)/\Below w.heap.size w w':=by
 have Hb:=af (show ∀ a b c,Below w.heap.size w (((w.alloc (.cells a 66)).alloc (.cells b 59)).alloc (.cells c 59)) from fun a b c=>(((Below.refl w.heap.size w).alloc aW _).alloc (by simp) _).alloc (by simp;omega) _)
 unfold dW;go_enter func33,ntmps33;go_wp2_with fail;exact af7 (by simp [results,results33,go_sem]<;>rfl) ⟨rfl,Hb.o _ _ _⟩
end Go.Proofs.YthcmmoibpgcgaaaGreatDoor
namespace Kx
theorem sumL_le {α:Type} (f:α->Nat) (b:Nat):∀ (l:List α),(∀ x ∈ l,f x<=b)->(l.map f).sum<=l.length*b
 | [],_=>by simp
 | x :: l,h=>by
  have h1:=sumL_le f b l (fun y hy=>h y (List.mem_cons_of_mem _ hy))
  have h2:=h x (List.mem_cons_self ..);simp only [List.map_cons,List.sum_cons,List.length_cons,Nat.add_mul,Nat.one_mul];omega
theorem sumL_add1 {α:Type} (f:α->Nat):∀ (l:List α),(l.map fun x=>f x+1).sum=(l.map f).sum+l.length
 | []=>by simp
 | x :: l=>by
  simp only [List.map_cons,List.sum_cons,List.length_cons,sumL_add1 f l];omega
theorem sumL_mono {α:Type} (f g:α->Nat):∀ (l:List α),(∀ x,f x<=g x)->(l.map f).sum<=(l.map g).sum
 | [],_=>by simp
 | x :: l,h=>by
  have h1:=sumL_mono f g l h;have h2:=h x;simp only [List.map_cons,List.sum_cons];omega
end Kx
namespace Go.Proofs.YthcmmoibpgcgaaaGreatDoor
open Go.RowKit Kx

structure Few (k:Kx.Kernel):Prop where
 h:(Kx.markK 1 k).2<1099511627776
theorem marks_small {k:Kx.Kernel} (h:nK k<=1048576):(Kx.markK 1 k).2<1099511627776:=by
 unfold nK at h;have h1:Kx.memN k.mem<=r_ k.mem:=by unfold Kx.memN r_;omega
 have h2:k.ag.length<=pR k.ag:=by unfold pR;omega
 have h3:Kx.envN k.ah<=uV k.ah:=by
  unfold Kx.envN uV;rw [Kx.sumL_add1];have:=Kx.sumL_mono (fun e:Kx.Env=>e.aB.length) (fun x=>lW x.aB) k.ah (fun x=>by unfold lW;omega);omega
 show 1+Kx.memN k.mem+3*(k.ag.length:Int)+Kx.envN k.ah+4*(k.cache.length:Int) < _
 omega
theorem marks_ok {k:Kx.Kernel} (h:az k=true):(Kx.markK 1 k).2<1099511627776:=by
 obtain ⟨h1,h2,h3,h4,h5⟩:=nR h;have hm:=jC.1 (aI h).1;have e1:Kx.memN k.mem<=12*4:=by
  unfold Kx.memN;have:=Kx.sumL_le List.length 4 k.mem (fun x hx=>by
   obtain ⟨i,hi,rfl⟩:=List.getElem_of_mem hx;have:=(hm.2 i (by omega)).1;simp [Kx.row,hi] at this;omega)
  rw [hm.1] at this;omega
 have e2:Kx.envN k.ah<=1000*1001:=by
  unfold Kx.envN;have:=Kx.sumL_le (fun e:Kx.Env=>e.aB.length+1) 1001 k.ah (fun x hx=>by
   obtain ⟨i,hi,rfl⟩:=List.getElem_of_mem hx;have:=h5 i hi;simp [au,hi] at this;omega)
  have:k.ah.length*1001<=1000*1001:=Nat.mul_le_mul_right _ h3
  omega
 show 1+Kx.memN k.mem+3*(k.ag.length:Int)+Kx.envN k.ah+4*(k.cache.length:Int) < _
 omega
theorem marks_call (k:Kx.Kernel) (c:Kx.Call):(Kx.markK 1 (QH k c).1).2<1099511627776:=by
 unfold QH;split
 ·decide
 rename_i h
 simp only [Bool.or_eq_true,Bool.not_eq_true',not_or,Bool.not_eq_false] at h;exact marks_ok (nN.2 (Kx.Ok.cO (nN.1 h.1) c h.2))
theorem rThree {P:Program} {ops:Array Oper} {Q:Exit->Act->World->Prop} {md:Region.Mode} {S:World->Prop} {oi oj ok:Oper} {fuel:Nat} {listed:Array Bool} {a:Act} {w:World} (i j k:Nat)
  (h:∀ K':Act->World->Prop,Shut (∀ a w,S w->(S w->wpAnyH P md ops Q S fuel (listed.setIfInBounds i true) a w)->K' a w)->Oper.wp P oi a w K' Q)
  (h':∀ K':Act->World->Prop,Shut (∀ a w,S w->(S w->wpAnyH P md ops Q S fuel (listed.setIfInBounds j true) a w)->K' a w)->Oper.wp P oj a w K' Q)
  (h'':∀ K':Act->World->Prop,Shut (∀ a w,S w->(S w->wpAnyH P md ops Q S fuel (listed.setIfInBounds k true) a w)->K' a w)->Oper.wp P ok a w K' Q)
  (hi:ops[i]?=some oi:=by rfl) (hj:ops[j]?=some oj:=by rfl) (hk:ops[k]?=some ok:=by rfl) (hr:Region.ready md ops listed=[i,j,k]:=by kernel_rfl) (hw:Region.wanted oi (yielded ops a.tmps)=true:=by rfl) (hw':Region.wanted oj (yielded ops a.tmps)=true:=by rfl) (hw'':Region.wanted ok (yielded ops a.tmps)=true:=by rfl) :
  wpAnyH P md ops Q S (fuel+1) listed a w:=
 wpAnyH_ready (rs:=[i,j,k]) hr (by simp) (AllReadyH.cons hi (fun K hK=>by rw [if_pos hw];exact h K hK) (AllReadyH.cons hj (fun K hK=>by rw [if_pos hw'];exact h' K hK) (AllReadyH.cons hk (fun K hK=>by rw [if_pos hw''];exact h'' K hK) AllReadyH.nil)))
theorem few_pos (k:Kx.Kernel):¬ ((Kx.markK 1 k).2<0):=by
 have:=Kx.memN_nn k.mem
 have:=Kx.envN_nn k.ah
 show ¬ (1+Kx.memN k.mem+3*(k.ag.length:Int)+Kx.envN k.ah+4*(k.cache.length:Int)<0)
 omega
theorem nMk:¬ Mk 28:=by unfold Mk;decide
theorem few_small {k:Kx.Kernel} (h:nK k<=1048576):Few k:=⟨marks_small h⟩
theorem few_call (k:Kx.Kernel) (c:Kx.Call):Few (QH k c).1:=⟨marks_call k c⟩
end Go.Proofs.YthcmmoibpgcgaaaGreatDoor
namespace Go.Proofs.YthcmmoibpgcgaaaGreatDoor
open Go.RowKit Go.ChangeShapes Go.WideShapes Go.Deep Kx

theorem len6 {l:List Value} (h:l.length=6):∃ c0 c1 c2 c3 c4 c5,l=[c0,c1,c2,c3,c4,c5]:=by
 match l,h with
 | [c0,c1,c2,c3,c4,c5],_=>exact ⟨c0,c1,c2,c3,c4,c5,rfl⟩
theorem rd_call {H:Type} {enc:TypeId×Value->H} {w:World} {base:Nat} {spare:Nat->Bool} {held:Bool} {fuel:Nat} {cs:List Value} {y:DataW H×List MemPlace} (h:DataW.trod enc prog w base spare held fuel 66 cs=some y) :
  ∃ c:Kx.Call,cs=[I_ c.kind,I_ c.env,I_ c.a,I_ c.b,I_ c.c,.string c.name]/\c.name.size<=9223372036854775807/\c.c<=9223372036854775807:=by
 obtain ⟨hl,m,hf⟩:=Vj underlying66 (n:=6) (by kernel_rfl) h;obtain ⟨_,h0⟩:=hf 0 _ rfl;obtain ⟨_,h1⟩:=hf 1 _ rfl;obtain ⟨_,h2⟩:=hf 2 _ rfl;obtain ⟨_,h3⟩:=hf 3 _ rfl;obtain ⟨_,h4⟩:=hf 4 _ rfl;obtain ⟨_,h5⟩:=hf 5 _ rfl;have g0:DataW.trod enc prog w base spare held m 3 ((cs.drop 0).take (prog.cellsOf 3))=some _:=h0;have g1:DataW.trod enc prog w base spare held m 3 ((cs.drop 1).take (prog.cellsOf 3))=some _:=h1;have g2:DataW.trod enc prog w base spare held m 3 ((cs.drop 2).take (prog.cellsOf 3))=some _:=h2;have g3:DataW.trod enc prog w base spare held m 3 ((cs.drop 3).take (prog.cellsOf 3))=some _:=h3;have g4:DataW.trod enc prog w base spare held m 3 ((cs.drop 4).take (prog.cellsOf 3))=some _:=h4;have g5:DataW.trod enc prog w base spare held m 9 ((cs.drop 5).take (prog.cellsOf 9))=some _:=h5;rw [kF] at g0 g1 g2 g3 g4
 rw [zy] at g5;rw [lF (k:=0) hl (by decide)] at g0;rw [lF (k:=1) hl (by decide)] at g1;rw [lF (k:=2) hl (by decide)] at g2;rw [lF (k:=3) hl (by decide)] at g3;rw [lF (k:=4) hl (by decide)] at g4;rw [lF (k:=5) hl (by decide)] at g5;obtain ⟨a0,e0,_⟩:=DataW.trod_int underlying3 g0;obtain ⟨a1,e1,_⟩:=DataW.trod_int underlying3 g1;obtain ⟨a2,e2,_⟩:=DataW.trod_int underlying3 g2;obtain ⟨a3,e3,_⟩:=DataW.trod_int underlying3 g3;obtain ⟨a4,e4,hw4⟩:=DataW.trod_int underlying3 g4;obtain ⟨a5,e5,_,hbs⟩:=DataW.trod_string underlying9 g5;clear hf;obtain ⟨c0,c1,c2,c3,c4,c5,rfl⟩:=len6 hl;simp at e0 e1 e2 e3 e4 e5;subst e0 e1 e2 e3 e4 e5;refine ⟨⟨a0,a1,a2,a3,a4,a5⟩,rfl,by unfold maxLen at hbs;show a5.size<=_;omega,?_⟩;show a4<=_;have:=hw4.2;simp [Lit.wf,IntKind.wrap_i64] at this;omega
end Go.Proofs.YthcmmoibpgcgaaaGreatDoor
