/- Contracts: an own kernel's infos and environments are turned in place; the reference's l22Users, l22Behind, l11Drop. -/
import Derived.Test.YtliebkfligagnaaGreatDoorKC13
set_option maxHeartbeats 4000000
set_option linter.all false
namespace Go.Proofs.YtliebkfligagnaaGreatDoor
open Go.RowKit
theorem KO.aF {w:World} {base:Nat} {um ui ue uc:Value} {k:Kx.Kernel} (h:KO w base um ui ue uc k) {f:Nat} (hf:f<k.ag.length) :
  ∃ b cap,ui=.slice (some ⟨b,0,none⟩) k.ag.length cap∧base≤b∧b<w.heap.size∧(∃ cs,w.heap[b]?=some (.cells cs 108 (0,0)))∧(∃ z,w.cell? ⟨b,f*3+2,none⟩=some z)∧w.frozen? ⟨b,f*3+2,none⟩=false ∧
   w.cell? ⟨b,f*3+2,none⟩=some (.int .i64 (Kx.inf k.ag f).refs)∧∀ x,KO (w.setCell ⟨b,f*3+2,none⟩ (.int .i64 x)) base um ui ue uc { k with ag:=k.ag.set f { Kx.inf k.ag f with refs:=x } }:=by
 obtain ⟨b,cap,rfl,hb1,hb2⟩:=h.i.shape (by omega);obtain ⟨cs,hcs⟩:=h.i.kind (g:=b) rfl;obtain ⟨hz,hfz⟩:=h.i.bP f hf 2 (by decide);obtain ⟨b2,off,cap2,ev,_,_,_,q⟩:=bV.at h.i.rs hf;simp only [Value.slice.injEq,Option.some.injEq,Addr.mk.injEq] at ev;obtain ⟨⟨rfl,rfl,_⟩,_,rfl⟩:=ev;rw [Nat.zero_add] at q;refine ⟨b,cap,rfl,hb1,hb2,⟨cs,hcs⟩,hz,hfz,q,fun x=>?_⟩
 have hg:=aK w b (f*3+2) (.int .i64 x);have hs:(w.setCell ⟨b,f*3+2,none⟩ (.int .i64 x)).heap.size=w.heap.size:=by simp [World.setCell]
 refine ⟨?_,h.i.aF rfl f x hf,?_,h.c.dh hg hcs (by decide)⟩
 ·rw [hs];exact h.m.dh hg hcs (by decide) (by decide)
 rw [hs];exact h.e.dh hg hcs (by decide) (by decide)
theorem nO {l:List Kx.Env} {e:Nat} (he:e<l.length):l[e]=Kx.au l e:=by simp [Kx.au,he]
theorem OE.dE {w:World} {base hi:Nat} {u:Value} {es:List Kx.Env} (h:OE w base hi u es) {e:Nat} (he:e<es.length) :
  ∃ b cap,u=.slice (some ⟨b,0,none⟩) es.length cap∧base≤b∧b<w.heap.size∧(∃ cs,w.heap[b]?=some (.cells cs 64 (0,0)))∧(∃ z,w.cell? ⟨b,e*2+1,none⟩=some z)∧w.frozen? ⟨b,e*2+1,none⟩=false ∧
   ∀ x,OE (w.setCell ⟨b,e*2+1,none⟩ (.int .i64 x)) base hi u (Kx.dE es e x):=by
 obtain ⟨ss,hl,ho,hr,hs⟩:=h;have hes:e<ss.length:=by omega
 obtain ⟨b,cap,rfl,hb1,hb2⟩:=ho.1.shape (by omega);obtain ⟨cs,hcs⟩:=ho.1.kind (g:=b) rfl;obtain ⟨hz,hfz⟩:=ho.1.bP e hes 1 (by decide);refine ⟨b,cap,by rw [hl],hb1,hb2,⟨cs,hcs⟩,hz,hfz,fun x=>?_⟩
 have hg:=aK w b (e*2+1) (.int .i64 x);have hst:=(ho.1.1.stored (e*2+1) (.int .i64 x)).1;have e0:=flat_get (f:=jG) (sz:=2) (fun _=>rfl) ss e 0 hes (by decide);have e2:flat jG (ss.set e (ss[e].1,x))=(flat jG ss).set (e*2+1) (.int .i64 x):=by
  rw [oz (sz:=2) (fun _=>rfl) ss e _ hes];show (((flat jG ss).set (e*2) (dM ss[e].1)).set (e*2+1) (.int .i64 x))=_;rw [lM (show (flat jG ss)[e*2]?=some (dM ss[e].1) from e0)]
 refine ⟨ss.set e (ss[e].1,x),by simp [Kx.dE,hl],⟨⟨?_,by simpa using ho.1.2⟩,ho.2⟩,fun i hi1 hi2=>?_,fun i j hi1 hj1 hij=>?_⟩
 ·rw [e2,List.length_set];exact hst
 ·have hi0:i<ss.length:=by simpa using hi1
  have hi3:i<es.length:=by omega
  obtain ⟨q1,q2,q3,q4⟩:=hr i hi0 hi3
  by_cases ei:i=e
  ·subst ei;have e3:(Kx.dE es i x)[i]={ Kx.au es i with root:=x }:=by simp [Kx.dE]
   rw [e3,List.getElem_set_self];rw [nO hi3] at q2;exact ⟨rfl,q2.dh hg hcs (by decide),q3,q4⟩
  have e3:(Kx.dE es e x)[i]=es[i]:=by simp [Kx.dE,List.getElem_set_ne (Ne.symm ei)]
  rw [e3,List.getElem_set_ne (Ne.symm ei)];exact ⟨q1,q2.dh hg hcs (by decide),q3,q4⟩
 have hi0:i<ss.length:=by simpa using hi1
 have hj0:j<ss.length:=by simpa using hj1
 have q:∀ m (hm:m<(ss.set e (ss[e].1,x)).length),(ss.set e (ss[e].1,x))[m].1=(ss[m]'(by simpa using hm)).1:=by
  intro m hm
  by_cases em:m=e
  ·subst em;rw [List.getElem_set_self]
  rw [List.getElem_set_ne (Ne.symm em)]
 rw [q i hi1,q j hj1];exact hs i j hi0 hj0 hij
theorem OE.aY {w:World} {base hi:Nat} {u:Value} {es:List Kx.Env} (h:OE w base hi u es) (Dt:base≤hi) (hhi:hi≤w.heap.size) {e:Nat} (he:e<es.length) (s:qj) (xs:List Kx.Str) (hn:OS df 1 9 w hi (dM s) xs) :
  ∃ b cap,u=.slice (some ⟨b,0,none⟩) es.length cap∧base≤b∧b<w.heap.size∧(∃ cs,w.heap[b]?=some (.cells cs 64 (0,0)))∧(∃ z,w.cell? ⟨b,e*2,none⟩=some z)∧w.frozen? ⟨b,e*2,none⟩=false ∧
   OE (w.setCell ⟨b,e*2,none⟩ (dM s)) base w.heap.size u (Kx.aY es e xs):=by
 obtain ⟨ss,hl,ho,hr,hs⟩:=h;have hes:e<ss.length:=by omega
 obtain ⟨b,cap,rfl,hb1,hb2⟩:=ho.1.shape (by omega);obtain ⟨cs,hcs⟩:=ho.1.kind (g:=b) rfl;obtain ⟨hz,hfz⟩:=ho.1.bP e hes 0 (by decide);rw [Nat.add_zero] at hz hfz;have hg:=aK w b (e*2) (dM s);have hst:=(ho.1.1.stored (e*2) (dM s)).1;have e1:=flat_get (f:=jG) (sz:=2) (fun _=>rfl) ss e 1 hes (by decide);have e2:flat jG (ss.set e (s,ss[e].2))=(flat jG ss).set (e*2) (dM s):=by
  rw [oz (sz:=2) (fun _=>rfl) ss e _ hes];show (((flat jG ss).set (e*2) (dM s)).set (e*2+1) (.int .i64 ss[e].2))=_;rw [lM (show ((flat jG ss).set (e*2) (dM s))[e*2+1]?=some (.int .i64 ss[e].2) by rw [List.getElem?_set_ne (by omega)];exact e1)]
 have hub:=hn.ub;refine ⟨b,cap,by rw [hl],hb1,hb2,⟨cs,hcs⟩,hz,hfz,ss.set e (s,ss[e].2),by simp [Kx.aY,hl],⟨⟨?_,by simpa using ho.1.2⟩,ho.2.mono hhi⟩,fun i hi1 hi2=>?_,fun i j hi1 hj1 hij=>?_⟩
 ·rw [e2,List.length_set];exact hst
 ·have hi0:i<ss.length:=by simpa using hi1
  have hi3:i<es.length:=by omega
  obtain ⟨q1,q2,q3,q4⟩:=hr i hi0 hi3
  by_cases ei:i=e
  ·subst ei;have e3:(Kx.aY es i xs)[i]={ Kx.au es i with aB:=xs }:=by simp [Kx.aY]
   rw [e3,List.getElem_set_self];rw [nO hi3] at q1;exact ⟨q1,(hn.dh hg hcs (by decide)).mono Dt,hub,qy hn ho.2⟩
  have e3:(Kx.aY es e xs)[i]=es[i]:=by simp [Kx.aY,List.getElem_set_ne (Ne.symm ei)]
  rw [e3,List.getElem_set_ne (Ne.symm ei)];exact ⟨q1,q2.dh hg hcs (by decide),q3.mono hhi,q4⟩
 have hi0:i<ss.length:=by simpa using hi1
 have hj0:j<ss.length:=by simpa using hj1
 by_cases ei:i=e
 ·subst ei;rw [List.getElem_set_self,List.getElem_set_ne (by omega)];exact Jz hn (hr j hj0 (by omega)).2.2.1
 by_cases ej:j=e
 ·subst ej;rw [List.getElem_set_self,List.getElem_set_ne (by omega)];exact qy hn (hr i hi0 (by omega)).2.2.1
 rw [List.getElem_set_ne (by omega),List.getElem_set_ne (by omega)];exact hs i j hi0 hj0 hij
theorem KO.dE {w:World} {base:Nat} {um ui ue uc:Value} {k:Kx.Kernel} (h:KO w base um ui ue uc k) {e:Nat} (he:e<k.ah.length) :
  ∃ b cap,ue=.slice (some ⟨b,0,none⟩) k.ah.length cap∧base≤b∧b<w.heap.size∧(∃ cs,w.heap[b]?=some (.cells cs 64 (0,0)))∧(∃ z,w.cell? ⟨b,e*2+1,none⟩=some z)∧w.frozen? ⟨b,e*2+1,none⟩=false ∧
   ∀ x,KO (w.setCell ⟨b,e*2+1,none⟩ (.int .i64 x)) base um ui ue uc { k with ah:=Kx.dE k.ah e x }:=by
 obtain ⟨b,cap,h1,h2,h2b,⟨cs,h3⟩,h4,h5,h6⟩:=h.e.dE he;refine ⟨b,cap,h1,h2,h2b,⟨cs,h3⟩,h4,h5,fun x=>?_⟩
 have hg:=aK w b (e*2+1) (.int .i64 x);have hs:(w.setCell ⟨b,e*2+1,none⟩ (.int .i64 x)).heap.size=w.heap.size:=by simp [World.setCell]
 refine ⟨?_,h.i.dh hg h3 (by decide),?_,h.c.dh hg h3 (by decide)⟩
 ·rw [hs];exact h.m.dh hg h3 (by decide) (by decide)
 rw [hs];exact h6 x
theorem KO.aY {w:World} {base hi:Nat} {um ui ue uc:Value} {k:Kx.Kernel} (h:KO w base um ui ue uc k) (hE:OE w base hi ue k.ah) (Dt:base≤hi) (hhi:hi≤w.heap.size) {e:Nat} (he:e<k.ah.length) (s:qj) (xs:List Kx.Str) (hn:OS df 1 9 w hi (dM s) xs) :
  ∃ b cap,ue=.slice (some ⟨b,0,none⟩) k.ah.length cap∧base≤b∧b<w.heap.size∧(∃ cs,w.heap[b]?=some (.cells cs 64 (0,0)))∧(∃ z,w.cell? ⟨b,e*2,none⟩=some z)∧w.frozen? ⟨b,e*2,none⟩=false ∧
   KO (w.setCell ⟨b,e*2,none⟩ (dM s)) base um ui ue uc { k with ah:=Kx.aY k.ah e xs }:=by
 obtain ⟨b,cap,h1,h2,h2b,⟨cs,h3⟩,h4,h5,h6⟩:=hE.aY Dt hhi he s xs hn;have hg:=aK w b (e*2) (dM s);have hs:(w.setCell ⟨b,e*2,none⟩ (dM s)).heap.size=w.heap.size:=by simp [World.setCell]
 refine ⟨b,cap,h1,h2,h2b,⟨cs,h3⟩,h4,h5,?_,h.i.dh hg h3 (by decide),?_,h.c.dh hg h3 (by decide)⟩
 ·rw [hs];exact h.m.dh hg h3 (by decide) (by decide)
 rw [hs];exact h6
theorem G6 (c:List Kx.Str) (s:Kx.Str) (v:Value) (w:World) (h:dK w v c):Calls Tryz.prog 217 #[v,.string s] w (yu df 1 9 w (Kx.jm c s)):=by
 obtain ⟨a,cap,rfl,_,_⟩:=RS.val h;have hl:=h.1;have H:=af (show dK w _ c from h);clear h;go_enter Tryz.func217,Tryz.ntmps217;go_wp2_with fail;go_loopw [5,6] (fun out i wr=>∃ k:Nat,i=.int .i64 k∧k≤c.length∧Hid (OS df 1 9 wr w.heap.size out (Kx.jm (c.take k) s))∧Hid (Below w.heap.size w wr)) (fun _ i _=>c.length - (intOf i).toNat)
 case atStart=>exact ⟨0,rfl,Nat.zero_le _,OS.d_ aW,fZ.alloc aW _⟩
 case round =>
  obtain ⟨k,rfl,hk,ho,hb⟩:=hrel
  by_cases hlt:k<c.length
  ·have kQ:(k:Int)<(c.length:Int):=by omega
   obtain ⟨b,off,cap',ev,hbl,g0⟩:=dK.at (RS.below H.out hb.out) (k:=k) hlt;simp only [Value.slice.injEq] at ev;obtain ⟨rfl,_,rfl⟩:=ev;have htk:c.take (k+1)=c.take k ++ [c[k]]:=by rw [List.take_succ_eq_append_getElem hlt]
   generalize c[k]=x at g0 htk;have Ht:=af (show Kx.jm (c.take (k+1)) s=Kx.jm (c.take k) s ++ Kx.jm [x] s by rw [htk];simp [Kx.jm]);have Hlen:=af (show (Kx.jm (c.take k) s).length≤k from Nat.le_trans (List.length_filter_le _ _) (List.length_take_le _ _));clear htk hbl
   cases hx:Kx.pre s x with
   | true =>
    have Hx:=af (show Kx.jm [x] s=[] by simp [Kx.jm,hx]);have Hp:=af hx;clear hx;go_wp2_with fail;refine (mY s x _).mono ?_;rintro e w2 ⟨rfl,rfl⟩;rw [Hp.out];go_wp2_with fail;go_roundw
    case rel=>exact ⟨k+1,by go_num,by omega,by show OS _ _ _ _ _ _ _;rw [Ht.out,Hx.out,List.append_nil];exact ho.out,hb.out⟩
    case measure=>simp [intOf];omega
   | false =>
    have Hx:=af (show Kx.jm [x] s=[x] by simp [Kx.jm,hx]);have Hp:=af hx;clear hx;have hsz:=af hb.out.size;have hxl:=af (show (Kx.jm (c.take k) s).length+1≤1099511627776 by have:=Hlen.out;omega);go_wp2_with fail;refine (mY s x _).mono ?_;rintro e w2 ⟨rfl,rfl⟩;rw [Hp.out];go_wp2_with (at_builtin;refine aV gX rfl _ _ rfl w.heap.size _ (Kx.jm (c.take k) s) rfl (ho.out.alloc _) _ [x] rfl (RS.one x #[.string x] rfl _ _) hxl.out (by simp;exact Nat.le_succ_of_le hsz.out) ?_;intro v' w3 ho3 hg3 _;have jJ:=af ho3;have ql:=af hg3;clear ho3 hg3);go_roundw
    case rel =>
     refine ⟨k+1,by go_num,by omega,?_,?_⟩
     ·show OS _ _ _ _ _ _ _;rw [Ht.out,Hx.out];exact jJ.out
     exact Below.dN (hb.out.alloc hb.out.size _) (ho.out.alloc _) ql.out aW (by simp;exact Nat.le_succ_of_le hsz.out)
    case measure=>simp [intOf];omega
  have hkn:k=c.length:=by omega
  subst hkn;go_wp2_with fail;go_ret;exact ⟨_,rfl,by have:=ho.out;rw [List.take_length] at this;exact this,hb.out⟩
def iU (k:Kx.Kernel) (t:Int) (j:Nat):List Nat:=(List.range j).filter fun i=>Kx.iy k.mem (Kx.au k.ah i) t
theorem BG (k:Kx.Kernel) (t:Int) (j:Nat) (b:Bool) (hb:Kx.iy k.mem (Kx.au k.ah j) t=b):iU k t (j+1)=iU k t j ++ if b then [j] else []:=by
 subst hb;exact qA _ j
theorem Du (k:Kx.Kernel) (t:Int) (j:Nat):(iU k t j).length≤j:=Nat.le_trans (List.length_filter_le _ _) (by simp)
theorem E8 (k:Kx.Kernel) (t:Nat) (vm vi ve vc:Value) (w:World) (h:RK w vm vi ve vc k) (hmo:Kx.bW k.mem=true) (hro:∀ e,e<3→(Kx.au k.ah e).root≤11) (h3:k.ah.length=3) :
  Calls Tryz.prog 215 #[.agg #[vm,vi,ve,vc],.int .i64 t] w (mZ w (fU (Kx.kw k t))):=by
 obtain ⟨_,am,cm,rfl,_,_⟩:=h.m.len;obtain ⟨_,ae,ce,rfl,_,_⟩:=h.e.len;obtain ⟨w0,hw0⟩:∃ w0,w.alloc (.cells #[.slice am k.mem.length cm,vi,.slice ae k.ah.length ce,vc] 36)=w0:=⟨_,rfl⟩;have B0:=af (show Below w.heap.size w w0 from hw0 ▸ dm);have X0:=af (show BX w0 w.heap.size 36 [.slice am k.mem.length cm,vi,.slice ae k.ah.length ce,vc] from hw0 ▸ BX.new w _ _);have HM:=af (h.m.below B0.out);have HE:=af (h.e.below B0.out);have kG:=af hmo;have mW:=af hro;have H3:=af h3;have HF:=af (show Kx.kw k t=iU k t k.ah.length from rfl);have hel:k.ah.length≤3:=by omega
 clear h hmo hro h3;go_enter Tryz.func215,Tryz.ntmps215;go_wp2_with fail;go_loopw [5,6,7] (fun out i _ wr=>∃ j:Nat,i=.int .i64 j∧j≤k.ah.length∧Hid (OI wr w0.heap.size out (fU (iU k t j)))∧Hid (Below w0.heap.size w0 wr)) (fun _ i _ _=>k.ah.length - (intOf i).toNat)
 case atStart=>exact ⟨0,rfl,Nat.zero_le _,OI.d_ aW,fZ.alloc aW _⟩
 case round =>
  obtain ⟨j,rfl,hj,ho,hb⟩:=hrel;have X:=X0.out.below hb.out;have p0:=X.cell 0;have p2:=X.cell 2;simp only [List.getElem?_cons_zero,List.getElem?_cons_succ] at p0 p2;clear X
  by_cases hlt:j<k.ah.length
  ·have kQ:(j:Int)<(k.ah.length:Int):=by omega
   obtain ⟨b,off,cap',u,ev,hbl,_,g1,_⟩:=(HE.out.below hb.out).at hlt;simp only [Value.slice.injEq] at ev;obtain ⟨rfl,_,rfl⟩:=ev;have lL:=mW.out j (by omega);have yw:=af (BG k t j);have Hlen:=af (Du k t j);have HU:=af (show Kx.iy k.mem (Kx.au k.ah j) t=((Kx.au k.ah j).root==(t:Int)||(!decide ((Kx.au k.ah j).root<0)&&(Kx.tables k.mem (Kx.au k.ah j).root.toNat).contains t)) from rfl);have hsz:=af hb.out.size;generalize Kx.iy k.mem (Kx.au k.ah j) t=us at yw HU;generalize (Kx.au k.ah j).root=r at g1 lL HU;have hxl:=af (show (fU (iU k t j)).length+1≤1099511627776 by rw [aQ];have:=Hlen.out;omega)
   by_cases hrt:r=t
   ·have Hs:=af (show iU k t (j+1)=iU k t j ++ [j] by rw [yw.out us rfl,HU.out,hrt];simp);subst hrt;clear yw HU lL;go_wp2_with (at_builtin;refine kW rfl _ _ rfl w0.heap.size _ (fU (iU k t j)) rfl (ho.out.alloc _) _ 1 1 [(j:Int)] rfl rfl (cell_one_new _ _ _) hxl.out (by simp;exact Nat.le_succ_of_le hsz.out) ?_;intro v' w3 ho3 hg3;have jJ:=af ho3;have ql:=af hg3;clear ho3 hg3);go_roundw
    case rel =>
     refine ⟨j+1,by go_num,by omega,?_,?_⟩
     ·show OI _ _ _ _;rw [Hs.out,jv];exact jJ.out
     exact Below.app (hb.out.alloc hb.out.size _) (ho.out.alloc _) ql.out aW (by simp;exact Nat.le_succ_of_le hsz.out)
    case measure=>simp [intOf];omega
   have RN:(r==(t:Int))=false:=by simpa using hrt
   by_cases hr0:r<0
   ·have Hs:=af (show iU k t (j+1)=iU k t j by rw [yw.out us rfl,HU.out,RN,decide_eq_true hr0];simp);clear yw HU hrt;go_wp2_with fail;go_roundw
    case rel=>exact ⟨j+1,by go_num,by omega,by show OI _ _ _ _;rw [Hs.out];exact ho.out,hb.out⟩
    case measure=>simp [intOf];omega
   obtain ⟨q,rfl⟩:=Int.eq_ofNat_of_zero_le (show 0≤r by omega);have HT:=af (sF k.mem q _ wr (HM.out.below hb.out) kG.out (by omega));have Yf:=af (show us=(Kx.tables k.mem q).contains t by rw [HU.out,RN,decide_eq_false hr0];simp);clear hrt;go_wp2_with fail;refine HT.out.mono ?_;rintro e w2 ⟨u2,rfl,ho2,hb2⟩;obtain ⟨a2,c2,rfl⟩:=ho2.ri.val;have HH:=af (BH _ (t:Int) _ w2 ho2.ri);have Ho:=af (ho.out.below hb2);have Hb:=af (hb.out.trans (hb2.mono hb.out.size));clear ho hb ho2 hb2 HT;go_wp2_with fail;refine HH.out.mono ?_;rintro e w3 ⟨rfl,rfl⟩;rw [yx,←Yf.out];clear HH HU Yf p0 p2 g1;have hsz:=af Hb.out.size
   cases us with
   | false =>
    have Hs:=af (show iU k t (j+1)=iU k t j by rw [yw.out false rfl];simp);go_wp2_with fail;go_roundw
    case rel=>exact ⟨j+1,by go_num,by omega,by show OI _ _ _ _;rw [Hs.out];exact Ho.out,Hb.out⟩
    case measure=>simp [intOf];omega
   | true =>
    have Hs:=af (show iU k t (j+1)=iU k t j ++ [j] by rw [yw.out true rfl];simp);go_wp2_with (at_builtin;refine kW rfl _ _ rfl w0.heap.size _ (fU (iU k t j)) rfl (Ho.out.alloc _) _ 1 1 [(j:Int)] rfl rfl (cell_one_new _ _ _) hxl.out (by simp;exact Nat.le_succ_of_le hsz.out) ?_;intro v' w4 iV hg4;have kH:=af iV;have rU:=af hg4;clear iV hg4);go_roundw
    case rel =>
     refine ⟨j+1,by go_num,by omega,?_,?_⟩
     ·show OI _ _ _ _;rw [Hs.out,jv];exact kH.out
     exact Below.app (Hb.out.alloc Hb.out.size _) (Ho.out.alloc _) rU.out aW (by simp;exact Nat.le_succ_of_le hsz.out)
    case measure=>simp [intOf];omega
  have hjn:j=k.ah.length:=by omega
  go_wp2_with fail;go_ret;exact ⟨_,rfl,by rw [HF.out,←hjn];exact ho.out.mono B0.out.size,B0.out.trans (hb.out.mono B0.out.size)⟩
theorem Dv (k:Kx.Kernel) (x:Int) (vm vi ve vc:Value) (w:World) (h:RK w vm vi ve vc k) (hmo:Kx.bW k.mem=true) (h12:k.ag.length=12) :
  Calls Tryz.prog 214 #[.agg #[vm,vi,ve,vc],.int .i64 x] w (mZ w (fU (Kx.behind k x))):=by
 obtain ⟨w0,hw0⟩:∃ w0,w.alloc (.cells #[vm,vi,ve,vc] 36)=w0:=⟨_,rfl⟩;have B0:=af (show Below w.heap.size w w0 from hw0 ▸ dm)
 cases hen:Kx.entry x with
 | none =>
  have HF:=af (show Kx.behind k x=[] by unfold Kx.behind;rw [hen]);have He:=af hen;clear hen h;go_enter Tryz.func214,Tryz.ntmps214;go_wp2_with fail;refine (bM _ _).mono ?_;rintro e w' ⟨rfl,rfl⟩;rw [G7 He.out];go_wp2_with fail;go_ret;exact ⟨_,rfl,by rw [HF.out];exact OI.d_ B0.out.size,Below.alloc B0.out B0.out.size _⟩
 | some pr =>
  obtain ⟨f,bw⟩:=pr;have hf:=dU hen;have HF:=af (show Kx.behind k x=if (Kx.inf k.ag f).kind≠2 then [f] else f :: Kx.ax (Kx.row k.mem f) by unfold Kx.behind;rw [hen]);have He:=af hen;clear hen;have X0:=af (show BX w0 w.heap.size 36 [vm,vi,ve,vc] from hw0 ▸ BX.new w _ _);have HI:=af (RS.below h.i B0.out);obtain ⟨bi,oi,ci,rfl,zN,g0,_,_⟩:=bV.at HI.out (k:=f) (by omega);obtain ⟨bm,om,cm,um,rfl,hcm,m_⟩:=(h.m.below B0.out).row hmo hf;obtain ⟨uk,hr4,_⟩:=mem_row hmo hf;have wJ:(f:Int)<(k.ag.length:Int):=by omega
  have ZO:(f:Int)<12:=by omega
  obtain ⟨p0,p1,_,_⟩:=X0.out.c4;clear h h12 uk
  by_cases hk2:(Kx.inf k.ag f).kind=2
  ·have HF:=af (show Kx.behind k x=f :: Kx.ax (Kx.row k.mem f) by rw [HF.out,if_neg (by rw [hk2];simp)]);rw [hk2] at g0;have HL:=af (show [(f:Int)].length+(fU (Kx.ax (Kx.row k.mem f))).length≤1099511627776 by
    rw [aQ];have:(Kx.ax (Kx.row k.mem f)).length≤4:=by rw [←hr4];unfold Kx.ax;exact List.length_filterMap_le _ _
    simp;omega)
   have hbm:=af (World.block_lt_of_cell? w0 _ hcm);have Jo:=af m_;obtain ⟨ar,cr,rfl⟩:=m_.val;clear hk2 m_ hr4;generalize Kx.row k.mem f=row at *;go_enter Tryz.func214,Tryz.ntmps214;go_wp2_with fail;refine (bM _ _).mono ?_;rintro e w' ⟨rfl,rfl⟩;rw [C_ He.out];obtain ⟨w1,hw1⟩:∃ w1,w0.alloc (.cells #[.int .i64 (f:Int)] 3)=w1:=⟨_,rfl⟩;have B1:Below w0.heap.size w0 w1:=hw1 ▸ dm;have H1:=af (show OS iR 1 3 w1 w0.heap.size (.slice (some ⟨w0.heap.size,0,none⟩) 1 1) [(f:Int)] from hw1 ▸ OS.lit (l:=[(f:Int)]) aW _ rfl rfl (by simp));have p0:=((X0.out.below B1).cell 0);have p1:=((X0.out.below B1).cell 1);simp only [List.getElem?_cons_zero,List.getElem?_cons_succ] at p0 p1;have hcm:=(B1.cell hbm.out).trans hcm;have g0:=(B1.cell (p:=⟨bi,oi+f*3,none⟩) zN).trans g0;have HN:=af (oC row _ w1 (Jo.out.below B1));have B2:=af (B0.out.trans (B1.mono B0.out.size));clear B1
   go_wp2_with fail;refine HN.out.mono ?_;rintro e w2 ⟨u2,rfl,ho2,hb2⟩;have l7:=af ho2;have H2:=af (H1.out.below hb2);have B3:=af (B2.out.trans (hb2.mono B2.out.size));have hz2:=af (Nat.le_trans (show w0.heap.size≤w1.heap.size by rw [←hw1];simp) hb2.size);clear ho2 hb2 hw1;have hz0:=af B0.out.size;go_wp2_with (at_builtin;refine aV wK rfl _ _ rfl w0.heap.size _ [(f:Int)] rfl H2.out _ (fU (Kx.ax row)) rfl l7.out.os.rs HL.out hz2.out ?_;intro v' w3 ho3 hg3 hn3;have jJ:=af ho3;have Hb3:=af (Below.dN B3.out H2.out hg3 hz0.out B3.out.size);clear ho3 hg3 hn3);go_ret;exact ⟨_,rfl,by rw [HF.out];exact (OS.mono jJ.out hz0.out).oi,Hb3.out⟩
  have HF:=af (show Kx.behind k x=[f] by rw [HF.out,if_pos hk2]);have hkb:((Kx.inf k.ag f).kind != 2)=true:=by simpa using hk2
  generalize (Kx.inf k.ag f).kind=kd at g0 hkb;clear hk2;go_enter Tryz.func214,Tryz.ntmps214;go_wp2_with fail;refine (bM _ _).mono ?_;rintro e w' ⟨rfl,rfl⟩;rw [C_ He.out];go_wp2_with fail;go_ret;exact ⟨_,rfl,by rw [HF.out];exact (OS.lit (l:=[(f:Int)]) (f:=iR) (sz:=1) (e:=3) B0.out.size _ rfl rfl (by simp)).oi,Below.alloc B0.out B0.out.size _⟩
end Go.Proofs.YtliebkfligagnaaGreatDoor
