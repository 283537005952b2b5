/- KL1, KL2, KL3, KL4, KC1, KC2, KC3, joined. -/
import Derived.Test.YtecnmehlbfklnaaGreatDoorKWa
set_option maxHeartbeats 4000000
set_option maxRecDepth 100000
set_option linter.all false
open List renaming take_succ_eq_append_getElem->A1,length_append->A2,replicate->A3,getElem?_eq_getElem->A4,findIdx?_eq_some_iff_getElem->A5,length_set->A6
open Nat renaming le_trans->A9,zero_le->A',lt_of_lt_of_le->Ab,le_succ_of_le->Al,add_zero->An
open Go.Value renaming slice->A0
open Go.Proofs.Tryz
namespace Go.Proofs.YtecnmehlbfklnaaGreatDoor
open Go.RowKit Go.ChangeShapes Go.WideShapes Go.Deep Kx
section
variable {α:Type} {f:α->List Value} {sz:Nat} {w w':World} {v:Value} {l:List α}
end
section
variable {H:Type} {enc:TypeId×Value->H} {w:World} {base:Nat} {spare:Nat->Bool} {held:Bool}
end
def setAt:List Value->Nat->List Value->List Value
 | xs,_,[]=>xs
 | xs,o,c :: cs=>setAt (xs.set o c) (o+1) cs
def kP:World->Nat->Nat->List Value->World
 | w,_,_,[]=>w
 | w,g,o,c :: cs=>kP (w.setCell ⟨g,o,none⟩ c) g (o+1) cs
theorem EL:∀ (cs xs:List Value) (o:Nat),o+cs.length<=xs.length->setAt xs o cs=xs.take o ++ cs ++ xs.drop (o+cs.length)
 | [],xs,o,_=>by simp [setAt]
 | c :: cs,xs,o,h=>by
  have h':o+1+cs.length<=(xs.set o c).length:=by rw [A6];simp at h;omega
  have ho:o<xs.length:=by simp at h;omega
  have e:setAt xs o (c :: cs)=setAt (xs.set o c) (o+1) cs:=rfl;rw [e,EL cs (xs.set o c) (o+1) h'];have e1:(xs.set o c).take (o+1)=xs.take o ++ [c]:=by
   rw [A1 (by simpa using ho)];simp [List.take_set_of_le]
  have e2:(xs.set o c).drop (o+1+cs.length)=xs.drop (o+(c :: cs).length):=by
   rw [List.drop_set_of_lt (by omega)];congr 1;simp;omega
  rw [e1,e2];simp
theorem oz {α:Type} {f:α->List Value} {sz:Nat} (hf:∀ x,(f x).length=sz) (l:List α) (k:Nat) (x:α) (hk:k<l.length):flat f (l.set k x)=setAt (flat f l) (k*sz) (f x):=by
 have hl:l=l.take k ++ l[k] :: l.drop (k+1):=by rw [List.getElem_cons_drop];simp
 have e1:l.set k x=l.take k ++ x :: l.drop (k+1):=by
  conv=>lhs;rw [hl]
  rw [List.set_append_right _ _ (by simp;omega)];have:k - (l.take k).length=0:=by simp;omega
  rw [this,List.set_cons_zero]
 have ht:(flat f (l.take k)).length=k*sz:=by rw [flat_length hf,List.length_take,Nat.min_eq_left (by omega)]
 have e2:flat f l=flat f (l.take k) ++ (f l[k] ++ flat f (l.drop (k+1))):=by
  conv=>lhs;rw [hl]
  rw [qM];congr 1
 have hlen:k*sz+(f x).length<=(flat f l).length:=by rw [e2,A2,A2,ht,hf,hf];omega
 rw [EL _ _ _ hlen,e1,qM];have e3:(flat f l).take (k*sz)=flat f (l.take k):=by rw [e2,<-ht,List.take_left'];rfl
 have e4:(flat f l).drop (k*sz+(f x).length)=flat f (l.drop (k+1)):=by
  have e5:(flat f (l.take k) ++ f l[k]).length=(flat f (l.take k)).length+(f x).length:=by rw [A2,hf,hf]
  rw [e2,<-ht,<-List.append_assoc,<-e5,List.drop_left]
 rw [e3,e4];unfold flat;simp
theorem zC {base e sz g n cap:Nat}:∀ (cs xs:List Value) (o:Nat) (w:World),w.ownsRow base e sz (A0 (some ⟨g,0,none⟩) n cap) n xs ->
  (kP w g o cs).ownsRow base e sz (A0 (some ⟨g,0,none⟩) n cap) n (setAt xs o cs)/\w.grownBy (kP w g o cs) (some g)
 | [],xs,o,w,h=>⟨h,World.grownBy.refl _ _⟩
 | c :: cs,xs,o,w,h=>by
  obtain ⟨h1,h2⟩:=h.stored o c;obtain ⟨h3,h4⟩:=zC cs (xs.set o c) (o+1) _ h1;exact ⟨h3,grownBy_trans h2 h4⟩
theorem OS.jy {α:Type} {f:α->List Value} {sz:Nat} [E:IV f sz] {e:TypeId} {w:World} {base g n cap:Nat} {l:List α} (h:OS f sz e w base (A0 (some ⟨g,0,none⟩) n cap) l) (hn:l.length=n) (k:Nat) (x:α) (hk:k<l.length) :
  OS f sz e (kP w g (k*sz) (f x)) base (A0 (some ⟨g,0,none⟩) n cap) (l.set k x)/\w.grownBy (kP w g (k*sz) (f x)) (some g):=by
 subst hn;obtain ⟨h1,h2⟩:=zC (f x) (flat f l) (k*sz) w h.1;refine ⟨⟨?_,by simpa using h.2⟩,h2⟩;rw [oz E.len l k x hk,A6];exact h1
theorem iK {B:Nat} {a:World} {g:Nat} (hg:B<=g):∀ (cs:List Value) (o:Nat) (w:World),Below B a w->Below B a (kP w g o cs)
 | [],_,_,h=>h
 | c :: cs,o,_,h=>iK hg cs (o+1) _ (h.setCell (p:=⟨g,o,none⟩) hg c)
theorem OS.bP {α:Type} {f:α->List Value} {sz:Nat} [E:IV f sz] {e:TypeId} {w:World} {base g n cap:Nat} {l:List α} (h:OS f sz e w base (A0 (some ⟨g,0,none⟩) n cap) l) (k:Nat) (hk:k<l.length) (j:Nat) (hj:j<sz) :
  (∃ u,w.cell? ⟨g,k*sz+j,none⟩=some u)/\w.frozen? ⟨g,k*sz+j,none⟩=false:=by
 have h1:(f l[k])[j]?=some ((f l[k])[j]'(by rw [E.len];exact hj)):=A4 (by rw [E.len];exact hj);obtain ⟨b,off,cap',e,_,hc⟩:=h.rs.at hk;obtain ⟨⟨rfl,rfl,_⟩,_⟩:=Zb e;clear e;have:=hc j _ h1;rw [Nat.zero_add] at this;obtain rfl:=(RS.len h.rs rfl).1;exact ⟨⟨_,this⟩,h.1.frozenAt _⟩
theorem jM {α:Type} {f:α->List Value} {sz:Nat} (hf:∀ x,(f x).length=sz) (hs:0<sz) (z:α) (zc:Array Value) (hz:zc.toList=f z) (n:Nat):(madeCells zc (n*sz)).toList=flat f (A3 n z):=by
 have hzs:zc.size=sz:=by rw [<-hf z,<-hz];simp
 have hl:(flat f (A3 n z)).length=n*sz:=by rw [flat_length hf];simp
 refine List.ext_getElem (by rw [hl,Array.length_toList,size_madeCells]) fun i h1 h2=>?_
 have hi:i<n*sz:=by rw [hl] at h2;exact h2
 obtain ⟨k,hk,j,hj,e,hg⟩:=Ej hf hs (A3 n z) i _ (A4 h2);have hz2:(f z)[j]?=some ((flat f (A3 n z))[i]):=by simpa using hg
 simp only [madeCells,Array.getElem_toList,Array.getElem_map,Array.getElem_range];have hm:i % zc.size=j:=by rw [hzs,e,Nat.mul_comm,Nat.mul_add_mod,Nat.mod_eq_of_lt hj]
 rw [hm,<-hz] at *;rw [getElem!_pos zc j (by omega)];have:zc.toList[j]?=some (zc[j]'(by omega)):=by simp [show j<zc.size by omega]
 rw [this] at hz2;exact Option.some.inj hz2
def yu {α:Type} (f:α->List Value) (sz:Nat) (e:TypeId) (w:World) (l:List α) (en:Ending) (w':World):Prop:=∃ u,en=.returned u/\OS f sz e w' w.heap.size u l/\Below w.heap.size w w'
theorem EM:(prog.info? 9).map (fun i=>(i.zero,i.size,i.bytes))=some (some (.string ⟨#[]⟩),1,16):=by kernel_rfl
theorem Bj:(prog.info? 53).map (fun i=>(i.zero,i.size,i.bytes))=some (some (.agg #[I_ 0,.string ⟨#[]⟩,I_ 0]),3,32):=by kernel_rfl
theorem xy:(prog.info? 51).map (fun i=>(i.zero,i.size,i.bytes))=some (some (.agg #[I_ 0,I_ 0,I_ 0,.bool false]),4,32):=by kernel_rfl
theorem EN:(prog.info? 43).map (fun i=>(i.zero,i.size,i.bytes))=some (some (.agg #[A0 none 0 0,I_ 0]),2,32):=by kernel_rfl
theorem Bo:(prog.info? 56).map (fun i=>(i.zero,i.size,i.bytes))=some (some (A0 none 0 0),1,24):=by kernel_rfl
structure qj where
 a:Option Addr
 n:Nat
 c:Nat
def dM (s:qj):Value:=A0 s.a s.n s.c
def rO (s:qj):List Value:=[dM s]
def jG (x:qj×Int):List Value:=[dM x.1,I_ x.2]
instance:IV rO 1:=⟨fun _=>rfl,by decide,fun x u hu=>by simp [rO] at hu;subst hu;rfl⟩
instance:IV jG 2:=⟨fun _=>rfl,by decide,fun x u hu=>by simp [jG] at hu;rcases hu with rfl | rfl <;> rfl⟩
theorem RS.map {α β:Type} {f:α->List Value} {g:β->List Value} {sz:Nat} {w:World} {v:Value} {l:List α} (h:RS f sz w v l) (m:α->β) (hm:∀ x,f x=g (m x)):RS g sz w v (l.map m):=by
 obtain ⟨h1,h2⟩:=h;refine ⟨by simpa using h1,?_⟩;rcases h2 with ⟨rfl,a,cap,rfl,hc,hn⟩ | ⟨b,off,cap,rfl,h3,h4,hb,hc⟩
 ·exact .inl ⟨rfl,a,cap,rfl,hc,hn⟩
 refine .inr ⟨b,off,cap,by simp,by simpa using h3,h4,hb,fun k hk j u hu=>?_⟩
 have hk':k<l.length:=by simpa using hk
 refine hc k hk' j u ?_;rw [hm];simpa using hu
def UB (v:Value) (hi:Nat):Prop:=∀ k,v.ownBlock=some k->k<hi
theorem UB.mono {v:Value} {a b:Nat} (h:UB v a) (hab:a<=b):UB v b:=fun k e=>Ab (h k e) hab
theorem OS.ub {α:Type} {f:α->List Value} {sz:Nat} {e:TypeId} {w:World} {base:Nat} {v:Value} {l:List α} (h:OS f sz e w base v l):UB v w.heap.size:=fun k hk=>(h.lt k hk).2
theorem aK (w:World) (g k:Nat) (v:Value):w.grownBy (w.setCell ⟨g,k,none⟩ v) (some g):=⟨rfl,rfl,rfl,by simp [World.setCell],fun i hi hne=>Below.heap_setCell w ⟨g,k,none⟩ v i (by intro e;exact hne (by rw [e]))⟩
theorem OI.qW {w w':World} {base g:Nat} {v:Value} {xs:List Int} (h:OI w base v xs) (hr:g<base) (hg:w.grownBy w' (some g)):OI w' base v xs:=h.jT hr hg
def OM (w:World) (base hi:Nat) (u:Value) (m:List (List Int)):Prop:=
 ∃ ss:List qj,ss.length=m.length/\(OS rO 1 56 w base u ss/\UB u hi)/\(∀ i (h:i<ss.length) (h':i<m.length),OI w base (dM ss[i]) m[i]/\UB (dM ss[i]) hi/\Sep (dM ss[i]) u) /\
  ∀ i j (h:i<ss.length) (h':j<ss.length),i<j->Sep (dM ss[j]) (dM ss[i])
theorem OM.rm {w:World} {base hi:Nat} {u:Value} {m:List (List Int)} (h:OM w base hi u m):RM w u m:=by
 obtain ⟨ss,hl,ho,hr,_⟩:=h;refine ⟨ss.map dM,by simpa using hl,ho.1.rs.map dM (fun _=>rfl),fun i h h'=>?_⟩
 have hi:i<ss.length:=by simpa using h
 have:=(hr i hi h').1.ri
 simpa using this
theorem OM.below {w w':World} {base hi:Nat} {u:Value} {m:List (List Int)} (h:OM w base hi u m) (hb:Below w.heap.size w w'):OM w' base hi u m:=by
 obtain ⟨ss,hl,ho,hr,hs⟩:=h;exact ⟨ss,hl,⟨ho.1.below hb,ho.2⟩,fun i h h'=>⟨(hr i h h').1.below hb,(hr i h h').2⟩,hs⟩
theorem OM.mono {w:World} {base base' hi hi':Nat} {u:Value} {m:List (List Int)} (h:OM w base hi u m) (hb:base'<=base) (hh:hi<=hi'):OM w base' hi' u m:=by
 obtain ⟨ss,hl,ho,hr,hs⟩:=h;exact ⟨ss,hl,⟨ho.1.mono hb,ho.2.mono hh⟩,fun i h h'=>⟨(hr i h h').1.mono hb,(hr i h h').2.1.mono hh,(hr i h h').2.2⟩,hs⟩
def OE (w:World) (base hi:Nat) (u:Value) (es:List Kx.Env):Prop:=
 ∃ ss:List (qj×Int),ss.length=es.length/\(OS jG 2 43 w base u ss/\UB u hi)/\(∀ i (h:i<ss.length) (h':i<es.length),ss[i].2=es[i].root/\OS df 1 9 w base (dM ss[i].1) es[i].aB/\UB (dM ss[i].1) hi/\Sep (dM ss[i].1) u) /\
  ∀ i j (h:i<ss.length) (h':j<ss.length),i<j->Sep (dM ss[j].1) (dM ss[i].1)
theorem OE.re {w:World} {base hi:Nat} {u:Value} {es:List Kx.Env} (h:OE w base hi u es):uo w u es:=by
 obtain ⟨ss,hl,ho,hr,_⟩:=h;refine ⟨ss.map fun x=>(dM x.1,x.2),by simpa using hl,ho.1.rs.map _ (fun _=>rfl),fun i h h'=>?_⟩
 have hi:i<ss.length:=by simpa using h
 obtain ⟨h1,h2,_⟩:=hr i hi h';exact ⟨by simpa using h1,by have:=h2.rs;unfold dK;simpa using this⟩
theorem OE.below {w w':World} {base hi:Nat} {u:Value} {m:List Kx.Env} (h:OE w base hi u m) (hb:Below w.heap.size w w'):OE w' base hi u m:=by
 obtain ⟨ss,hl,ho,hr,hs⟩:=h;exact ⟨ss,hl,⟨ho.1.below hb,ho.2⟩,fun i h h'=>⟨(hr i h h').1,(hr i h h').2.1.below hb,(hr i h h').2.2⟩,hs⟩
theorem OE.mono {w:World} {base base' hi hi':Nat} {u:Value} {m:List Kx.Env} (h:OE w base hi u m) (hb:base'<=base) (hh:hi<=hi'):OE w base' hi' u m:=by
 obtain ⟨ss,hl,ho,hr,hs⟩:=h;exact ⟨ss,hl,⟨ho.1.mono hb,ho.2.mono hh⟩,fun i h h'=>⟨(hr i h h').1,(hr i h h').2.1.mono hb,(hr i h h').2.2.1.mono hh,(hr i h h').2.2.2⟩,hs⟩
theorem OI.Oy {w:World} {base g:Nat} {v:Value} {xs:List Int} (h:OI w base v xs) (hr:g<base) (k:Nat) (x:Value):OI (w.setCell ⟨g,k,none⟩ x) base v xs:=h.qW hr (aK w g k x)
def BX (w:World) (g:Nat) (e:TypeId) (cs:List Value):Prop:=w.heap[g]?=some (.cells cs.toArray e (0,0))
theorem BX.new (w:World) (e:TypeId) (cs:Array Value):BX (w.alloc (.cells cs e)) w.heap.size e cs.toList:=by
 show (w.alloc (.cells cs e)).heap[w.heap.size]?=_
 rw [heap_alloc_new]
theorem BX.lt {w:World} {g:Nat} {e:TypeId} {cs:List Value} (h:BX w g e cs):g<w.heap.size:=by
 have h:w.heap[g]?=some (.cells cs.toArray e (0,0)):=h;exact (Array.getElem?_eq_some_iff.1 h).1
theorem BX.below {w wz:World} {g:Nat} {e:TypeId} {cs:List Value} (h:BX w g e cs) (hb:Below w.heap.size w wz):BX wz g e cs:=(hb.block g h.lt).trans h
theorem BX.set {w:World} {g:Nat} {e:TypeId} {cs:List Value} (h:BX w g e cs) (k:Nat) (v:Value):BX (w.setCell ⟨g,k,none⟩ v) g e (cs.set k v):=by
 have:=heap_setCell_same w g k cs.toArray e v h
 unfold BX;rw [this];simp
theorem BX.other {w:World} {g:Nat} {e:TypeId} {cs:List Value} (h:BX w g e cs) {g':Nat} (hne:g≠g') (k:Nat) (v:Value):BX (w.setCell ⟨g',k,none⟩ v) g e cs:=(Below.heap_setCell w ⟨g',k,none⟩ v g hne).trans h
theorem BX.cell {w:World} {g:Nat} {e:TypeId} {cs:List Value} (h:BX w g e cs) (k:Nat):w.cell? ⟨g,k,none⟩=cs[k]?:=by
 have h:w.heap[g]?=some (.cells cs.toArray e (0,0)):=h;simp [World.cell?,h]
theorem BX.frozen {w:World} {g:Nat} {e:TypeId} {cs:List Value} (h:BX w g e cs) (k:Nat):w.frozen? ⟨g,k,none⟩=false:=by
 have h:w.heap[g]?=some (.cells cs.toArray e (0,0)):=h;simp [World.frozen?,h]
theorem qH:aaG 24 53 (.agg #[I_ 0,.string ⟨#[]⟩,I_ 0]) 3:=aaG.mk underlying24 Bj (by decide) rfl
theorem gB:aaG 26 51 (.agg #[I_ 0,I_ 0,I_ 0,.bool false]) 4:=aaG.mk underlying26 xy (by decide) rfl
theorem OJ:aaG 25 43 (.agg #[A0 none 0 0,I_ 0]) 2:=aaG.mk underlying25 EN (by decide) rfl
theorem gX:aaG 41 9 (.string ⟨#[]⟩) 1:=aaG.mk underlying41 EM (by decide) rfl
theorem Kt:aaG 23 56 (A0 none 0 0) 1:=aaG.mk underlying23 Bo (by decide) rfl
def uX (l:List aG):Int:=match Kx.free l with | some i=>(i:Int) | none=>-1
theorem LY {l:List aG} {k:Nat} (hk:k<l.length) (h:l[k].kind=0) (hall:∀ j (hj:j<l.length),j<k->l[j].kind≠0):Kx.free l=some k:=by
 unfold Kx.free;rw [A5];exact ⟨hk,by simpa using h,fun j hj=>by simpa using hall j (by omega) hj⟩
theorem Jg {l:List aG} (hall:∀ j (hj:j<l.length),l[j].kind≠0):Kx.free l=none:=by
 unfold Kx.free;rw [List.findIdx?_eq_none_iff];intro x hx;obtain ⟨j,hj,rfl⟩:=List.getElem_of_mem hx;simpa using hall j hj
theorem Bq (l:List aG) (v:Value) (w:World) (h:bV w v l):Calls prog 189 #[v] w fun e w'=>e=.returned (I_ (uX l))/\w=w':=by
 obtain ⟨a,cap,rfl,_,_⟩:=RS.val h;have hl:=h.1;have H:=af h;clear h;go_enter func189,ntmps189;go_wp2_with fail;go_loop [3] (fun i=>∃ k:Nat,i=I_ k/\k<=l.length/\TI (∀ j (hj:j<l.length),j<k->l[j].kind≠0)) (fun i=>l.length - (intOf i).toNat)
 case atStart=>exact ⟨0,rfl,A' _,fun j _ hj=>absurd hj (Nat.not_lt_zero _)⟩
 case round =>
  obtain ⟨k,rfl,hk,hall⟩:=hrel
  by_cases hlt:k<l.length
  ·have kQ:(k:Int)<(l.length:Int):=by omega
   obtain ⟨b,off,cap',ev,_,hc⟩:=RS.at H.o hlt;obtain ⟨rfl,_,rfl⟩:=Za ev;clear ev;have g0:=hc 0 _ rfl;rw [An] at g0;clear hc;have BC:=af (show l[k].kind=0->uX l=k from fun h=>by unfold uX;rw [LY hlt h hall.o]);have ET:=af (show l[k].kind≠0->∀ j (hj:j<l.length),j<k+1->l[j].kind≠0 from fun h j hj hjk=>by
    by_cases ej:j=k
    ·subst ej;exact h
    exact hall.o j hj (by omega))
   generalize l[k].kind=x at g0 BC ET
   by_cases hx:x=0
   ·have HF:=af (BC.o hx);subst hx;clear BC ET;go_wp2_with fail;go_ret;exact ⟨aZ HF.o.symm,rfl⟩
   have HM:=af (ET.o hx);have hxb:(x==0)=false:=by simpa using hx
   clear hx BC ET;go_wp2_with fail;go_round
   case rel=>exact ⟨k+1,by go_num,by omega,HM.o⟩
   case measure=>simp [intOf];omega
  have HF:=af (show uX l=-1 by unfold uX;rw [Jg fun j hj=>hall.o j hj (by omega)])
  go_wp2_with fail;go_ret;exact ⟨aZ HF.o.symm,rfl⟩
theorem qE (k:Kx.Kernel) (e:Nat) (g:Kx.Str) (vm vi ve vc:Value) (w:World) (h:uo w ve k.ah) (he:e<k.ah.length):Calls prog 188 #[.agg #[vm,vi,ve,vc],I_ e,.string g] w fun en w'=>en=.returned (.bool (jQ k e g))/\Below w.heap.size w w':=by
 obtain ⟨w0,hw0⟩:=XP (w.alloc (.cells #[vm,vi,ve,vc] 28));have Bw:=af (show Below w.heap.size w w0 from hw0 ▸ dm);have X0:=af (show BX w0 w.heap.size 28 [vm,vi,ve,vc] from hw0 ▸ BX.new w _ _);obtain ⟨b,off,cap1,u,rfl,hbl,g0,_,hr⟩:=(h.below Bw.o).at he;have HC:=af (mO (au k.ah e).aB g u w0 hr);have Hm:=af (show jQ k e g=Kx.may (au k.ah e).aB g from rfl);obtain ⟨a9,c9,rfl,_,_⟩:=RS.val hr;have PG:(e:Int)<(k.ah.length:Int):=by omega
 have p2:w0.cell? ⟨w.heap.size,2,none⟩=some (A0 (some ⟨b,off,none⟩) k.ah.length cap1):=X0.o.cell 2;clear h hr X0;go_enter func188,ntmps188;go_wp2_with fail;refine HC.o.mono ?_;rintro en w2 ⟨rfl,rfl⟩;go_wp2_with fail;go_ret;exact ⟨ak Hm.o.symm,Bw.o⟩
theorem DF (c:List Kx.Cached) (e:Int) (v:Value) (w:World) (h:dZ w v c):Calls prog 197 #[v,I_ e] w (yu b_ 4 51 w (fP c e)):=by
 obtain ⟨a,cap,rfl,_,_⟩:=RS.val h;have hl:=h.1;have H:=af (show dZ w _ c from h);clear h;go_enter func197,ntmps197;go_wp2_with fail;go_loopw [5,6] (fun out i wr=>∃ k:Nat,i=I_ k/\k<=c.length/\TI (OS b_ 4 51 wr w.heap.size out (fP (c.take k) e))/\TI (Below w.heap.size w wr)) (fun _ i _=>c.length - (intOf i).toNat)
 case atStart=>exact ⟨0,rfl,A' _,OS.d_ aW,fZ.alloc aW _⟩
 case round =>
  obtain ⟨k,rfl,hk,ho,hb⟩:=hrel
  by_cases hlt:k<c.length
  ·have kQ:(k:Int)<(c.length:Int):=by omega
   obtain ⟨b,off,cap',ev,hbl,hc⟩:=RS.at (RS.below H.o hb.o) (k:=k) hlt;obtain ⟨rfl,_,rfl⟩:=Za ev;clear ev;have htk:c.take (k+1)=c.take k ++ [c[k]]:=by rw [A1 hlt]
   generalize c[k]=x at hc htk;have g0:=hc 0 _ rfl;have g1:=hc 1 _ rfl;have g2:=hc 2 _ rfl;have g3:=hc 3 _ rfl;rw [An] at g0;have Ht:=af (show fP (c.take (k+1)) e=fP (c.take k) e ++ fP [x] e by rw [htk];simp [fP]);have Hlen:=af (show (fP (c.take k) e).length<=k from A9 (List.length_filter_le _ _) (List.length_take_le _ _));clear hc htk hbl
   by_cases hx:x.env=e
   ·have Hx:=af (show fP [x] e=[] by simp [fP,hx]);have hxb:(x.env != e)=false:=by simpa using hx
    clear hx;go_wp2_with fail;go_roundw
    case rel=>exact ⟨k+1,by go_num,by omega,by show OS _ _ _ _ _ _ _;rw [Ht.o,Hx.o,List.append_nil];exact ho.o,hb.o⟩
    case measure=>simp [intOf];omega
   have Hx:=af (show fP [x] e=[x] by simp [fP,hx]);have hxb:(x.env != e)=true:=by simpa using hx
   have hsz:=af hb.o.size;have hxl:=af (show (fP (c.take k) e).length+1<=1099511627776 by have:=Hlen.o;omega);clear hx;go_wp2_with (at_builtin;refine aV gB rfl _ _ rfl w.heap.size _ (fP (c.take k) e) rfl (ho.o.alloc _) _ [x] rfl (RS.one x #[I_ x.env,I_ x.page,I_ x.frame,.bool x.write] rfl _ _) hxl.o (by simp;exact Al hsz.o) ?_;intro v' w3 ho3 hg3 _;have jJ:=af ho3;have ql:=af hg3;clear ho3 hg3);go_roundw
   case rel =>
    refine ⟨k+1,by go_num,by omega,?_,?_⟩
    ·show OS _ _ _ _ _ _ _;rw [Ht.o,Hx.o];exact jJ.o
    exact Below.dN (hb.o.alloc hb.o.size _) (ho.o.alloc _) ql.o aW (by simp;exact Al hsz.o)
   case measure=>simp [intOf];omega
  have hkn:k=c.length:=by omega
  subst hkn;go_wp2_with fail;go_ret;exact ⟨_,rfl,by have:=ho.o;rw [List.take_length] at this;exact this,hb.o⟩
theorem OS.shape {α:Type} {f:α->List Value} {sz:Nat} {e:TypeId} {w:World} {base:Nat} {v:Value} {l:List α} (h:OS f sz e w base v l) (hl:0<l.length):∃ g cap,v=A0 (some ⟨g,0,none⟩) l.length cap/\base<=g/\g<w.heap.size:=by
 rcases h.1.2 with ⟨_,h0⟩ | ⟨g,cap,cur,e1,hb,hg,_⟩
 ·omega
 exact ⟨g,cap,e1,hb,(Array.getElem?_eq_some_iff.1 hg).1⟩
theorem zD {l:List aG} {f:Nat} (h:Kx.free l=some f):f<l.length/\uX l=f:=by
 refine ⟨?_,by unfold uX;rw [h]⟩;unfold Kx.free at h;rw [A5] at h;exact h.1
def yH {α:Type} (f:α->List Value) (sz:Nat) (t:TypeId) (w:World) (l:List α) (more:List Value) (e:Ending) (w':World):Prop:=∃ u,e=.returned (.tuple (u :: more).toArray)/\OS f sz t w' w.heap.size u l/\Below w.heap.size w w'
theorem xI (l:List aG) (s:Kx.Str) (f:Nat) (v:Value) (w:World) (h:bV w v l) (hs:jo l) (hv:bC l=true) (hr:bT s=true) (hss:s.size<=9223372036854775807) (hf:Kx.free l=some f) (hl12:l.length=12) :
  Calls prog 190 #[v,.string s] w (yH bH 3 53 w (l.set f ⟨1,s,0⟩) [I_ f,.bool true]):=by
 obtain ⟨hfl,hfi⟩:=zD hf;obtain ⟨a,cap,rfl,_,_⟩:=RS.val h;have H:=af h;have Zy:=af (Bq l _ w h);have HC2:=af (dX l _ w h hs);have TG:=af (fun W=>bY s W hss);have Hfi:=af hfi;have Hv:=af hv;have Hr:=af hr;have Hl:=af hl12;have zW:=af (show f<12 by omega);clear h hs hv hr hss hf hfi hfl hl12;go_enter func190,ntmps190;go_wp2_with fail;refine Zy.o.mono ?_;rintro e w1 ⟨rfl,rfl⟩;rw [Hfi.o];go_wp2_with fail;refine HC2.o.mono ?_;rintro e w2 ⟨rfl,hb⟩;rw [Hv.o];have B2:=af hb;clear hb;go_wp2_with fail;refine (TG.o w2).mono ?_;rintro e w3 ⟨rfl,rfl⟩;rw [Hr.o];have H2:=af (show RS bH 3 (w2.alloc (.cells #[] 53)) (A0 a l.length cap) l from (RS.below H.o B2.o).below (dm));have O1:=af (show OS bH 3 53 (w2.alloc (.cells #[] 53)) w2.heap.size (A0 (some ⟨w2.heap.size,0,none⟩) 0 0) [] from OS.d_ aW)
 have hx1:=af (show ([]:List aG).length+l.length<=1099511627776 by rw [Hl.o];decide);go_wp2_with (at_builtin;refine aV qH rfl _ _ rfl w2.heap.size _ [] rfl O1.o _ l rfl H2.o hx1.o (by simp) ?_;intro v' w4 iV hg4 hx4;clear hx4;have kH:=af (show OS bH 3 53 w4 w2.heap.size v' l from iV);have rU:=af (show (w2.alloc (.cells #[] 53)).grownBy w4 (some w2.heap.size) from hg4);clear iV hg4);have B4:=af (Below.dN (B2.o.alloc B2.o.size (.cells #[] 53)) O1.o rU.o B2.o.size (by simp;exact Al B2.o.size));obtain ⟨g,cap4,rfl,hg1,hg2⟩:=kH.o.shape (by rw [Hl.o];decide);have hgw:w.heap.size<=g:=A9 B2.o.size hg1;obtain ⟨hst,hgr⟩:=kH.o.jy rfl f ⟨1,s,0⟩ (by rw [Hl.o];exact zW.o);have uh:=af hst;obtain ⟨⟨z0,hz0⟩,hf0⟩:=kH.o.bP f (by rw [Hl.o];exact zW.o) 0 (by decide)
 obtain ⟨⟨z1,hz1⟩,hf1⟩:=kH.o.bP f (by rw [Hl.o];exact zW.o) 1 (by decide);obtain ⟨⟨z2,hz2⟩,hf2⟩:=kH.o.bP f (by rw [Hl.o];exact zW.o) 2 (by decide);rw [An] at hz0 hf0;have wJ:(f:Int)<(l.length:Int):=by have:=zW.o;have:=Hl.o;omega
 have Hb5:=af (iK hgw (bH ⟨1,s,0⟩) (f*3) _ B4.o);clear hst hgr H2 O1 hx1 Zy HC2 TG hg1 hg2 hgw;go_wp2_with fail;go_simp;go_wp2_with fail;go_ret3;refine ⟨_,rfl,?_,Hb5.o⟩;exact uh.o.mono B2.o.size
theorem wH (l:List aG) (f:Nat) (v:Value) (w:World) (h:bV w v l) (hs:jo l) (hv:bC l=true) (hf:f<12) (hl12:l.length=12) (hk:(Kx.inf l f).kind=1) (hr:0<(Kx.inf l f).refs) :
  Calls prog 192 #[v,I_ f] w fun e w'=>(∃ u,e=.returned (.tuple #[u,.bool false]))/\Below w.heap.size w w':=by
 have HC2:=af (dX l _ w h hs);have Hv:=af hv;have jR:=af (show Kx.bK f 0 11=true by rw [Kx.ay];omega);have hlt:f<l.length:=by omega
 have H:=af h;have wJ:(f:Int)<(l.length:Int):=by omega
 have hre:decide ((Kx.inf l f).refs > 0)=true:=by simpa using hr
 obtain ⟨b,off,cap,rfl,hbl,c0,_,c2⟩:=bV.at h hlt;have ND:=af hbl;rw [hk] at c0;generalize (Kx.inf l f).refs=r at c2 hre;clear h hs hv hf hl12 hk hr hbl;go_enter func192,ntmps192;go_wp2_with fail;refine HC2.o.mono ?_;rintro e w2 ⟨rfl,hb⟩;rw [Hv.o];have B2:=af hb;clear hb;have d0:=(B2.o.cell (p:=⟨b,off+f*3,none⟩) ND.o).trans c0;have d2:=(B2.o.cell (p:=⟨b,off+f*3+2,none⟩) ND.o).trans c2;clear c0 c2;go_wp2_with fail;refine (dI _ _).mono ?_;rintro e w3 ⟨rfl,rfl⟩;rw [jR.o];go_wp2_with fail;go_ret2;exact ⟨⟨_,rfl⟩,B2.o.alloc B2.o.size _⟩
theorem xJ (l:List aG) (f:Nat) (v:Value) (w:World) (h:bV w v l) (hs:jo l) (hv:bC l=true) (hf:f<12) (hl12:l.length=12) (hk:(Kx.inf l f).kind=1) (hr:¬ 0<(Kx.inf l f).refs) :
  Calls prog 192 #[v,I_ f] w (yH bH 3 53 w (l.set f aG.zero) [.bool true]):=by
 have HC2:=af (dX l _ w h hs);have Hv:=af hv;have jR:=af (show Kx.bK f 0 11=true by rw [Kx.ay];omega);have hlt:f<l.length:=by omega
 have H:=af h;have Hl:=af hl12;have Js:=af hlt;have wJ:(f:Int)<(l.length:Int):=by omega
 have hre:decide ((Kx.inf l f).refs > 0)=false:=by simpa using hr
 obtain ⟨b,off,cap,rfl,hbl,c0,_,c2⟩:=bV.at h hlt;have ND:=af hbl;rw [hk] at c0;generalize (Kx.inf l f).refs=r at c2 hre;clear h hs hv hf hl12 hk hr hbl hlt;go_enter func192,ntmps192;go_wp2_with fail;refine HC2.o.mono ?_;rintro e w2 ⟨rfl,hb⟩;rw [Hv.o];have B2:=af hb;clear hb;have d0:=(B2.o.cell (p:=⟨b,off+f*3,none⟩) ND.o).trans c0;have d2:=(B2.o.cell (p:=⟨b,off+f*3+2,none⟩) ND.o).trans c2;clear c0 c2;go_wp2_with fail;refine (dI _ _).mono ?_;rintro e w3 ⟨rfl,rfl⟩;rw [jR.o];have H2:=af (show RS bH 3 (w2.alloc (.cells #[] 53)) (A0 (some ⟨b,off,none⟩) l.length cap) l from (RS.below H.o B2.o).below (dm));have O1:=af (show OS bH 3 53 (w2.alloc (.cells #[] 53)) w2.heap.size (A0 (some ⟨w2.heap.size,0,none⟩) 0 0) [] from OS.d_ aW);have hx1:=af (show ([]:List aG).length+l.length<=1099511627776 by rw [Hl.o];decide)
 go_wp2_with (at_builtin;refine aV qH rfl _ _ rfl w2.heap.size _ [] rfl O1.o _ l rfl H2.o hx1.o (by simp) ?_;intro v' w4 iV hg4 hx4;clear hx4;have kH:=af (show OS bH 3 53 w4 w2.heap.size v' l from iV);have rU:=af (show (w2.alloc (.cells #[] 53)).grownBy w4 (some w2.heap.size) from hg4);clear iV hg4);have B4:=af (Below.dN (B2.o.alloc B2.o.size (.cells #[] 53)) O1.o rU.o B2.o.size (by simp;exact Al B2.o.size));obtain ⟨g,cap4,rfl,hg1,hg2⟩:=kH.o.shape (by rw [Hl.o];decide);have hgw:w.heap.size<=g:=A9 B2.o.size hg1;obtain ⟨hst,hgr⟩:=kH.o.jy rfl f aG.zero Js.o;have uh:=af hst;obtain ⟨⟨z0,hz0⟩,hf0⟩:=kH.o.bP f Js.o 0 (by decide);obtain ⟨⟨z1,hz1⟩,hf1⟩:=kH.o.bP f Js.o 1 (by decide);obtain ⟨⟨z2,hz2⟩,hf2⟩:=kH.o.bP f Js.o 2 (by decide);rw [An] at hz0 hf0
 have Hb5:=af (iK hgw (bH aG.zero) (f*3) _ B4.o);clear hst hgr H2 O1 hx1 HC2 hg1 hg2 hgw d0 d2;go_wp2_with fail;go_simp;go_wp2_with fail;go_ret2;exact ⟨_,rfl,uh.o.mono B2.o.size,Hb5.o⟩
def dW (c:Kx.Call):Value:=.agg #[I_ c.kind,I_ c.env,I_ c.a,I_ c.b,I_ c.c,.string c.name]
theorem sZ (k:Kx.Kernel) (c:Kx.Call) (e:Nat) (kind:Int) (vm vi ve vc:Value) (w:World) (h:RK w vm vi ve vc k) (h12:k.ag.length=12) (h3:k.ah.length=3) (hce:c.env=e) (he:e<3) (hk:kind=1\/kind=0) :
  Calls prog 191 #[.agg #[vm,vi,ve,vc],dW c,I_ kind] w fun en w'=>en=.returned (I_ (aO k c kind))/\Below w.heap.size w w':=by
 obtain ⟨bQ,JF,a,cb,cc,bg⟩:=c;simp only at hce;subst hce;obtain ⟨w0,hw0⟩:=XP (w.alloc (.cells #[vm,vi,ve,vc] 28));obtain ⟨w1,hw1⟩:=XP (w0.alloc (.cells #[I_ bQ,I_ (e:Int),I_ a,I_ cb,I_ cc,.string bg] 30));have B0:=af (show Below w.heap.size w w0 from hw0 ▸ dm);have B1:=af (show Below w0.heap.size w0 w1 from hw1 ▸ dm);have X0:=af (show BX w1 w.heap.size 28 [vm,vi,ve,vc] from (hw0 ▸ BX.new w _ _:BX w0 _ _ _).below B1.o);have X1:=af (show BX w1 w0.heap.size 30 [I_ bQ,I_ (e:Int),I_ a,I_ cb,I_ cc,.string bg] from (hw1 ▸ BX.new w0 _ _:BX w1 _ _ _));have Bw:=af (B0.o.trans (B1.o.mono B0.o.size));have HV:=af (show aO k ⟨bQ,e,a,cb,cc,bg⟩ kind=(if !Kx.bK a 0 11||(Kx.inf k.ag a.toNat).kind==0 then 3
  else if !jQ k (e:Int) (Kx.inf k.ag a.toNat).guard then 1
  else if 0<kind/\(Kx.inf k.ag a.toNat).kind≠kind\/kind=0/\aX (Kx.inf k.ag a.toNat).kind=false then 3
  else 0) from rfl)
 have HM:=af (fun W (hW:Below w.heap.size w W) g=>qE k e g vm vi ve vc W (h.e.below hW) (by omega))
 have H:=af h;obtain ⟨ai,ci,rfl,_,_⟩:=RS.val h.i;have fJ:=af h12;unfold dW;have p1:w1.cell? ⟨w.heap.size,1,none⟩=some (A0 ai k.ag.length ci):=X0.o.cell 1;have p2:w1.cell? ⟨w0.heap.size,2,none⟩=some (I_ a):=X1.o.cell 2;have p3:w1.cell? ⟨w0.heap.size,1,none⟩=some (I_ (e:Int)):=X1.o.cell 1;clear h12 h3 he B0 B1
 cases hin:Kx.bK a 0 11 with
 | false =>
  have HF:=af (show aO k ⟨bQ,e,a,cb,cc,bg⟩ kind=3 by rw [HV.o,hin];rfl);have jR:=af hin;clear hin HV hk h;go_enter func191,ntmps191;go_wp2_with fail;refine (dI _ _).mono ?_;rintro en w2 ⟨rfl,rfl⟩;rw [jR.o];go_wp2_with fail;go_ret;exact ⟨aZ HF.o.symm,Bw.o⟩
 | true =>
  obtain ⟨a0,a11⟩:=Kx.ay.1 hin;obtain ⟨f,rfl⟩:=Int.eq_ofNat_of_zero_le a0;have hfl:f<k.ag.length:=by have:=fJ.o;omega
  have wJ:(f:Int)<(k.ag.length:Int):=by omega
  obtain ⟨bi,oi,ci',ev,hbl,d0,d1,_⟩:=bV.at h.i hfl;obtain ⟨rfl,_,rfl⟩:=Za ev;clear ev;have jR:=af hin;rw [show ((f:Int)).toNat=f from rfl,hin] at HV;generalize Kx.inf k.ag f=y at d0 d1 HV;have HM:=af (fun W (hW:Below w.heap.size w W)=>HM.o W hW y.guard)
  have ik:=af (show ∀ wz,Below w1.heap.size w1 wz->(wz.cell? ⟨w.heap.size,0,none⟩=some (vm)/\wz.cell? ⟨w.heap.size,1,none⟩=some (A0 (some ⟨bi,oi,none⟩) k.ag.length ci)/\wz.cell? ⟨w.heap.size,2,none⟩=some (ve)/\wz.cell? ⟨w.heap.size,3,none⟩=some (vc)/\wz.cell? ⟨w0.heap.size,1,none⟩=some (I_ e)/\wz.cell? ⟨w0.heap.size,2,none⟩=some (I_ f)/\wz.cell? ⟨bi,oi+f*3,none⟩=some (I_ y.kind)/\wz.cell? ⟨bi,oi+f*3+1,none⟩=some (.string y.guard)) from fun wz hz=>by
   have Vp:=X0.o.below hz;have Zz:=X1.o.below hz;have hz2:=Bw.o.trans (hz.mono Bw.o.size);exact ⟨Vp.cell 0,Vp.cell 1,Vp.cell 2,Vp.cell 3,Zz.cell 1,Zz.cell 2,(hz2.cell (p:=⟨bi,oi+f*3,none⟩) hbl).trans d0,(hz2.cell (p:=⟨bi,oi+f*3+1,none⟩) hbl).trans d1⟩)
  have S0:=ik.o w1 fZ;obtain ⟨s0,s1,s2,s3,s4,s5,s6,s7⟩:=S0;clear hin h a0 a11 hbl d0 d1 p1 p2 p3 X0 X1
  by_cases hk0:y.kind=0
  ·have HF:=af (show aO k ⟨bQ,e,f,cb,cc,bg⟩ kind=3 by rw [HV.o,hk0];rfl);rw [hk0] at s6;clear hk0 HV hk;go_enter func191,ntmps191;go_wp2_with fail;refine (dI _ _).mono ?_;rintro en w2 ⟨rfl,rfl⟩;rw [jR.o];go_wp2_with fail;go_ret;exact ⟨aZ HF.o.symm,Bw.o⟩
  have hkb:(y.kind==0)=false:=by simpa using hk0
  have HV:=af (show aO k ⟨bQ,e,f,cb,cc,bg⟩ kind=(if !jQ k e y.guard then 1 else if 0<kind/\y.kind≠kind\/kind=0/\aX y.kind=false then 3 else 0) by rw [HV.o,hkb];rfl);have Bd:=af (Below.bz (Below.refl w1.heap.size w1));have HC:=af (HM.o w1.drew (Bw.o.trans (Bd.o.mono Bw.o.size)));have S1:=ik.o w1 fZ;go_enter func191,ntmps191;go_wp2_with fail;refine (dI _ _).mono ?_;rintro en w2 ⟨rfl,rfl⟩;rw [jR.o];go_wp2_with fail
  refine afi ik fun hHeld=>?_
  refine afW 0 ?_;refine afU 8 ?_;refine ahk 10 fun K hK=>?_
  (go_simp;go_at_call 188;refine HC.o.mono ?_;rintro en w3 ⟨rfl,hb⟩;have hb:=Below.gG hb;have S2:=ik.o w3 hb;clear HC;go_wp2_with fail)
  refine afS hK fun hHeld=>?_
  clear hK K;refine afU 11 ?_;refine wpAnyH_done (by kernel_rfl) ?_ _;have Bz:=af (Bw.o.trans (hb.mono Bw.o.size));obtain ⟨t0,t1,t2,t3,t4,t5,t6,t7⟩:=ik.o w3 hb
  cases wR:jQ k e y.guard with
  | false =>
   have HF:=af (show aO k ⟨bQ,e,f,cb,cc,bg⟩ kind=1 by rw [HV.o,wR];rfl);clear wR HV hk S1;go_wp2_with fail;go_ret;exact ⟨aZ HF.o.symm,Bz.o⟩
  | true =>
   rw [wR] at HV;clear wR;rcases hk with rfl | rfl
   ·by_cases h1:y.kind=1
    ·have HF:=af (show aO k ⟨bQ,e,f,cb,cc,bg⟩ 1=0 by rw [HV.o,h1];rfl);have h1b:(y.kind != 1)=false:=by simpa using h1
     clear h1 HV hk0 hkb;go_wp2_with fail;go_ret;exact ⟨aZ HF.o.symm,Bz.o⟩
    have HF:=af (show aO k ⟨bQ,e,f,cb,cc,bg⟩ 1=3 by rw [HV.o,if_neg (by simp),if_pos (.inl ⟨by decide,h1⟩)]);have h1b:(y.kind != 1)=true:=by simpa using h1
    clear h1 HV hk0 hkb;go_wp2_with fail;go_ret;exact ⟨aZ HF.o.symm,Bz.o⟩
   cases ht:aX y.kind with
   | false =>
    have HF:=af (show aO k ⟨bQ,e,f,cb,cc,bg⟩ 0=3 by rw [HV.o,ht];rfl);have Ht:=af ht;clear ht HV hk0 hkb;go_wp2_with fail;refine (gu _ _).mono ?_;rintro en w4 ⟨rfl,rfl⟩;rw [Ht.o];go_wp2_with fail;go_ret;exact ⟨aZ HF.o.symm,Bz.o⟩
   | true =>
    have HF:=af (show aO k ⟨bQ,e,f,cb,cc,bg⟩ 0=0 by rw [HV.o,ht];rfl);have Ht:=af ht;clear ht HV hk0 hkb;go_wp2_with fail;refine (gu _ _).mono ?_;rintro en w4 ⟨rfl,rfl⟩;rw [Ht.o];go_wp2_with fail;go_ret;exact ⟨aZ HF.o.symm,Bz.o⟩
end Go.Proofs.YtecnmehlbfklnaaGreatDoor
