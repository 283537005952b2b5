/- Reading slices of integers in a world; small laws that every walk of this seat uses. -/
import Derived.Test.YthcmmoibpgcgaaaGreatDoorKY
set_option linter.all false
open Nat renaming le_trans->A1,lt_of_lt_of_le->A2
open Go.Value renaming slice->A0
open Go.Proofs.Tryz
namespace Go.Proofs.YthcmmoibpgcgaaaGreatDoor
open Go.RowKit
variable {w w' a:World}{v:Value}{xs:List Int}{n base cap rb:Nat}{lo hi:Int}{ops:Array Oper}
def RI (w:World) (v:Value) (xs:List Int):Prop:=
 xs.length<=1099511627776/\((xs=[]/\∃ a cap,v=A0 a 0 cap/\(a=none->cap=0)) \/
  ∃ b off cap,v=A0 (some ⟨b,off,none⟩) xs.length cap/\b<w.heap.size/\∀ i (h:i<xs.length),w.cell? ⟨b,off+i,none⟩=some (I_ xs[i]))
theorem RI.val (h:RI w v xs):∃ a cap,v=A0 a xs.length cap:=by
 rcases h.2 with ⟨rfl,a,cap,rfl,_⟩ | ⟨b,off,cap,rfl,_⟩
 ·exact ⟨a,cap,rfl⟩
 exact ⟨_,cap,rfl⟩
theorem RI.at (h:RI w v xs) {k:Nat} (hk:k<xs.length) :
  ∃ b off cap,v=A0 (some ⟨b,off,none⟩) xs.length cap/\b<w.heap.size/\w.cell? ⟨b,off+k,none⟩=some (I_ xs[k]):=by
 rcases h.2 with ⟨rfl,a,cap,rfl,_⟩ | ⟨b,off,cap,rfl,hb,hc⟩
 ·simp at hk
 exact ⟨b,off,cap,rfl,hb,hc k hk⟩
theorem RI.below (h:RI w v xs) (hb:Below w.heap.size w w'):RI w' v xs:=by
 refine ⟨h.1,?_⟩;rcases h.2 with ⟨rfl,a,cap,rfl,hn⟩ | ⟨b,off,cap,rfl,hlt,hc⟩
 ·exact .inl ⟨rfl,a,cap,rfl,hn⟩
 exact .inr ⟨b,off,cap,rfl,A2 hlt hb.size,fun i hi=>(hb.cell (p:=⟨b,off+i,none⟩) hlt).trans (hc i hi)⟩
theorem RI.nil (w:World):RI w (A0 none 0 0) []:=⟨by simp,.inl ⟨rfl,none,0,rfl,fun _=>rfl⟩⟩
def bK (n lo hi:Int):Bool:=decide (lo<=n)&&decide (n<=hi)
theorem ay {n:Int}:bK n lo hi=true↔lo<=n/\n<=hi:=by simp [bK]
theorem u_ {n:Int}:bK n lo hi=false↔n<lo\/hi<n:=by
 simp only [bK,Bool.and_eq_false_iff,decide_eq_false_iff_not];omega
theorem aZ {k:IntKind} {a b:Int} (h:a=b):Ending.returned (.int k a)=.returned (.int k b):=by rw [h]
theorem ak {a b:Bool} (h:a=b):Ending.returned (.bool a)=.returned (.bool b):=by rw [h]
/-! ### Slices of integers that the call itself has made -/
theorem u22:prog.underlying 29=some (.slice 3):=underlying29
theorem info3:(prog.info? 3).map (fun i=>(i.zero,i.size,i.bytes))=some (some (I_ 0),1,8):=by kernel_rfl
def ints (xs:List Int):List Value:=xs.map (Value.int .i64)
theorem wV (xs:List Int):(ints xs).length=xs.length:=by simp [ints]
theorem yM (xs:List Int) (k:Nat) (h:k<xs.length):(ints xs)[k]?=some (I_ xs[k]):=by simp [ints,h]
def OI (w:World) (base:Nat) (v:Value) (xs:List Int):Prop:=w.ownsRow base 3 1 v xs.length (ints xs)/\xs.length<=1099511627776
theorem OI.ri (h:OI w base v xs):RI w v xs:=by
 refine ⟨h.2,?_⟩;rcases h.1.2 with ⟨rfl,hn⟩ | ⟨g,cap,cur,rfl,hb,hg,hnc,hcm,hcs,htake⟩
 ·have:xs=[]:=List.eq_nil_of_length_eq_zero hn
  subst this;exact .inl ⟨rfl,none,0,rfl,fun _=>rfl⟩
 refine .inr ⟨g,0,cap,rfl,(Array.getElem?_eq_some_iff.1 hg).1,fun i hi=>?_⟩
 rw [Nat.zero_add,h.1.cellAt i (by omega),yM xs i hi]
theorem OI.below (h:OI w base v xs) (hb:Below w.heap.size w w'):OI w' base v xs:=by
 refine ⟨⟨h.1.1,?_⟩,h.2⟩;rcases h.1.2 with hn | ⟨g,cap,cur,rfl,hbg,hg,r⟩
 ·exact .inl hn
 exact .inr ⟨g,cap,cur,rfl,hbg,by rw [hb.block g (Array.getElem?_eq_some_iff.1 hg).1];exact hg,r⟩
theorem OI.kept {row:Option Nat} (h:OI w base v xs) (hg:w.grownBy w' row) (hne:v.ownBlock=none\/v.ownBlock≠row):OI w' base v xs:=
 ⟨h.1.kept hg hne,h.2⟩
theorem OI.lt (h:OI w base v xs):∀ k,v.ownBlock=some k->base<=k/\k<w.heap.size:=h.1.lt
theorem OI.mono {base':Nat} (h:OI w base v xs) (hb:base'<=base):OI w base' v xs:=by
 refine ⟨⟨h.1.1,?_⟩,h.2⟩;rcases h.1.2 with hn | ⟨g,cap,cur,rfl,hbg,r⟩
 ·exact .inl hn
 exact .inr ⟨g,cap,cur,rfl,A1 hb hbg,r⟩
theorem OI.nil (w:World) (base:Nat):OI w base (A0 none 0 0) []:=⟨World.ownsRow_nil _ _ _ _,by simp⟩
theorem OI.B_ {l:List Value} (h:w.ownsRow base 3 1 v n l) (hl:l=ints xs) (hn:n=xs.length) (hb:xs.length<=1099511627776):OI w base v xs:=by
 subst hl hn;exact ⟨h,hb⟩
def mZ (w:World) (xs:List Int) (e:Ending) (w':World):Prop:=∃ u,e=.returned u/\OI w' w.heap.size u xs/\Below w.heap.size w w'
def JR (w:World) (xs:List Int) (ok:Bool) (e:Ending) (w':World):Prop:=∃ u,e=.returned (.tuple #[u,.bool ok])/\OI w' w.heap.size u xs/\Below w.heap.size w w'
/-! ### What comes in -/
def abT (k:IntKind) (w:World) (a:Option Addr) (len cap:Nat) (zs:List Int):Prop:=
 (a=none/\len=0/\cap=0/\zs=[]) \/
 ∃ x,a=some x/\len<=cap/\cap<=maxLen/\zs.length=cap/\(∀ i,i<zs.length->w.cell? (x.add i)=some (.int k (zs.getD i 0)))/\∀ n ∈ zs,(Lit.int k n).wf=true
theorem OI.at (h:OI w base v xs) {k:Nat} (hk:k<xs.length) :
  ∃ g cap,v=A0 (some ⟨g,0,none⟩) xs.length cap/\base<=g/\w.cell? ⟨g,k,none⟩=some (I_ xs[k])/\w.frozen? ⟨g,k,none⟩=false:=by
 rcases h.1.2 with ⟨rfl,hn⟩ | ⟨g,cap,cur,rfl,hb,hg,hnc,hcm,hcs,htake⟩
 ·omega
 exact ⟨g,cap,rfl,hb,by rw [h.1.cellAt k (by omega),yM xs k hk],h.1.frozenAt k⟩
theorem OI.stored {g:Nat} (h:OI w base (A0 (some ⟨g,0,none⟩) n cap) xs) (hn:xs.length=n) (k:Nat) (x:Int) :
  OI (w.setCell ⟨g,k,none⟩ (I_ x)) base (A0 (some ⟨g,0,none⟩) n cap) (xs.set k x)/\w.grownBy (w.setCell ⟨g,k,none⟩ (I_ x)) (some g):=by
 subst hn;have:=h.1.stored k (I_ x);exact ⟨OI.B_ this.1 (by simp [ints]) (by simp) (by simpa using h.2),this.2⟩
theorem grownBy_trans {b c:World} {r:Option Nat} (h:a.grownBy b r) (k:b.grownBy c r):a.grownBy c r:=
 ⟨k.os.trans h.os,k.tape.trans h.tape,k.output.trans h.output,A1 h.size k.size,fun i hi hr=>(k.block i (A2 hi h.size) hr).trans (h.block i hi hr)⟩
theorem Below.mark {B:Nat} (h:Below B a w) (ho:OI w base v xs) (hg:w.grownBy w' v.ownBlock) (hB:B<=base) (hs:B<=w.heap.size):Below B a w':=
 h.grown hg hs (fun k hk=>A1 hB (ho.lt k hk).1)
theorem OI.d_ (hb:base<=w.heap.size):OI (w.alloc (.cells #[] 3)) base (A0 (some ⟨w.heap.size,0,none⟩) 0 0) []:=
 OI.B_ (World.ownsRow_lit (base:=base) (e:=3) (size:=1) w #[] 0 hb (by unfold maxLen;omega) rfl) rfl rfl (by simp)
theorem OI.alloc (h:OI w base v xs) (o:Obj):OI (w.alloc o) base v xs:=⟨h.1.alloc o,h.2⟩
theorem OI.drewN (h:OI w base v xs) (n:Nat):OI (w.drewN n) base v xs:=⟨h.1,h.2⟩
theorem kW {rest:List Oper} {o:Oper} {a:Act} {Q:Exit->Act->World->Prop} (hgd:o.guard=none) (s x:Operand)
  (ho:o.op=.call { callee:=.builtin .append,args:=#[s,x],argTypes:=#[29,29] })
  (base:Nat) (v:Value) (xs:List Int) (hs:a.eval s=v) (hown:OI w base v xs) (ad:Addr) (m c:Nat) (ys:List Int) (hx:a.eval x=A0 (some ad) m c) (hl:ys.length=m)
  (hnews:∀ j u,(ints ys)[j]?=some u->w.cell? (ad.add j)=some u) (hlen:xs.length+m<=1099511627776) (hbase:base<=w.heap.size)
  (h:∀ v' w',OI w' base v' (xs ++ ys)->w.grownBy w' v.ownBlock->wpList prog ops Q rest (a.put o.dst v') w'):wpList prog ops Q (o :: rest) a w:=by
 obtain ⟨i0,hi,hz0,hz1,hz2⟩:=info_parts info3;subst hl;refine wpList_append_own w hgd s x 29 ho base 3 i0 (I_ 0) 1 8 u22 hi hz0 hz1 hz2 rfl (by decide) v xs.length (ints xs) hs hown.1 ad ys.length c (ints ys) hx (by simp [ints]) hnews
  (ints_oneCell .i64 ys) (by unfold maxLen;omega) (by omega) hbase (fun v' w' h1 h2 _=>h v' w' (OI.B_ h1 (by simp [ints]) (by simp) (by simpa using hlen)) h2)
theorem Below.app {B:Nat} (h:Below B a w) (ho:OI w base v xs) (hg:w.grownBy w' v.ownBlock) (hB:B<=base) (hs:B<=w.heap.size):Below B a w':=
 h.grown hg hs (fun k hk=>A1 hB (ho.lt k hk).1)
theorem OI.jT (h:OI w base v xs) (hr:rb<base) (hg:w.grownBy w' (some rb)):OI w' base v xs:=by
 refine h.kept hg ?_
 cases hv:v.ownBlock with
 | none=>exact .inl rfl
 | some k=>refine .inr fun e=>?_;have:=(h.lt k hv).1;simp at e;omega
theorem IG (h:Below w.heap.size w w') (r:Option Nat):w.grownBy w' r:=⟨h.os,h.tape,h.output,h.size,fun k hk _=>h.block k hk⟩
theorem grownBy_alloc {r:Option Nat} (h:a.grownBy w r) (o:Obj):a.grownBy (w.alloc o) r:=
 ⟨h.os,h.tape,h.output,A1 h.size (by simp),fun k hk hr=>(Below.heap_alloc w o k (A2 hk h.size)).trans (h.block k hk hr)⟩
theorem ed {r:Option Nat} {s:Option Nat} (h:a.grownBy w r) (hg:w.grownBy w' s) (hs:∀ k,s=some k->a.heap.size<=k):a.grownBy w' r:=
 ⟨hg.os.trans h.os,hg.tape.trans h.tape,hg.output.trans h.output,A1 h.size hg.size,fun k hk hr=>(hg.block k (A2 hk h.size) (fun e=>by have:=hs k e.symm;omega)).trans (h.block k hk hr)⟩
theorem RI.src {a:Addr} (h:RI w (A0 (some a) n cap) xs):∀ j u,(ints xs)[j]?=some u->w.cell? (a.add j)=some u:=by
 intro j u hj;have hjl:j<xs.length:=by have:=(List.getElem?_eq_some_iff.1 hj).1;rwa [wV] at this
 obtain ⟨b,off,cap',e,_,hc⟩:=h.at hjl;simp only [Value.slice.injEq,Option.some.injEq] at e;obtain ⟨rfl,_,_⟩:=e;rw [Addr.add_lit,hc,<-yM xs j hjl];exact hj
theorem RI.Qh (h:RI w (A0 none n cap) xs):xs=[]/\n=0/\cap=0:=by
 rcases h.2 with ⟨rfl,a,c,e,hn⟩ | ⟨b,off,c,e,_⟩
 ·simp only [Value.slice.injEq] at e;exact ⟨rfl,e.2.1,by rw [e.2.2];exact hn e.1.symm⟩
 simp at e
theorem nC {rest:List Oper} {o:Oper} {a:Act} {Q:Exit->Act->World->Prop} (hgd:o.guard=none) (s x:Operand)
  (ho:o.op=.call { callee:=.builtin .append,args:=#[s,x],argTypes:=#[29,29] })
  (base:Nat) (v:Value) (xs:List Int) (hs:a.eval s=v) (hown:OI w base v xs) (u:Value) (ys:List Int) (hx:a.eval x=u) (hr:RI w u ys)
  (hlen:xs.length+ys.length<=1099511627776) (hbase:base<=w.heap.size)
  (h:∀ v' w',OI w' base v' (xs ++ ys)->w.grownBy w' v.ownBlock->wpList prog ops Q rest (a.put o.dst v') w'):wpList prog ops Q (o :: rest) a w:=by
 obtain ⟨ad,cap,rfl⟩:=hr.val
 cases ad with
 | some ad=>exact kW hgd s x ho base v xs hs hown ad ys.length cap ys hx rfl hr.src hlen hbase h
 | none =>
  obtain ⟨rfl,_,rfl⟩:=hr.Qh;obtain ⟨i0,hi,hz0,hz1,hz2⟩:=info_parts info3;refine wpList_plain hgd fun K hK'=>?_
  have hrun:=run_append_owned_none (P:=prog) w base 29 o.type 3 i0 1 u22 hi v xs.length (ints xs) hown.1;unfold Oper.wp;simp [execOp,ho,resolve,invoke,builtin,hs,hx,hrun,Result.andThen];exact hK' _ _ (h v w (by simpa using hown) (World.grownBy.refl _ _))
end Go.Proofs.YthcmmoibpgcgaaaGreatDoor
