/- What the laws of this kind share. (joined by joinh.py) -/
import Derived.Test.YthcmmoibpgcgaaaGreatDoorLKXh
set_option linter.all false
set_option maxHeartbeats 8000000
set_option maxRecDepth 100000
open Go.Proofs.Tryz
namespace Go.Proofs.YthcmmoibpgcgaaaGreatDoor
open Go.RowKit Kx

def tCalls (l:List Kx.Call):Nat:=l.length+(l.map fun x=>x.name.size).sum
theorem szCalls_c (l:List Kx.Call) (lf:Nat) (v:Value) (w:World) (h:RW Lc 6 w v l) (hs:∀ x ∈ l,x.name.size<=9223372036854775807) (hl:lf<=1048576):Calls prog 37 #[v,I_ lf] w (Sz lf (tCalls l) w):=by
 obtain ⟨a,cap,rfl,hm⟩:=h.val;have Rt:=lG hm;have HT:=af (show tCalls l=l.length+(l.map (fun x=>x.name.size)).sum from rfl)
 by_cases hlt:lf<l.length
 ·have HR:=af (gQ (show lf<tCalls l by rw [HT.o];omega));have hI:(lf:Int)<(l.length:Int):=by omega
  clear hm;go_enter func37,ntmps37;go_wp2_with fail;go_ret;exact ⟨aZ HR.o.symm,Below.refl _ _⟩
 obtain ⟨c0,hc0⟩:=Nat.exists_eq_add_of_le (Nat.not_lt.1 hlt);have hI:¬ (lf:Int)<(l.length:Int):=by omega
 have hsub:(lf:Int) - (l.length:Int)=(c0:Int):=by omega
 have hln:l.length<=1048576:=by omega
 have QP:=af hc0;have zB:c0<=1048576:=by omega
 have H1:=af (show Zj w _ l from h.rs (by omega));have Hs:=af hs;clear h hs hm hc0 hlt;go_enter func37,ntmps37;go_wp2_with fail;clear hsub hI;go_loopw [1,5] (fun L i wr=>∃ k c:Nat,i=I_ k/\k<=l.length/\L=I_ c/\c<=1048576/\TI (lf=l.length+sumT (fun x=>x.name.size) l k+c)/\TI (Below w.heap.size w wr)) (fun _ i _=>l.length - (intOf i).toNat)
 case atStart=>exact ⟨0,c0,rfl,Nat.zero_le _,rfl,zB,(by show lf=_;rw [rG];exact QP.o),Below.refl _ _⟩
 case round =>
  clear zB;obtain ⟨k,c,rfl,hk,rfl,hc,hsum,hb⟩:=hrel
  by_cases hlt:k<l.length
  ·have kQ:(k:Int)<(l.length:Int):=by omega
   obtain ⟨b,off,cap1,e,hbl,hcc⟩:=RS.at (RS.below H1.o hb.o) (k:=k) hlt;have g0:=hcc 0 _ rfl;have g1:=hcc 1 _ rfl;have g2:=hcc 2 _ rfl;have g3:=hcc 3 _ rfl;have g4:=hcc 4 _ rfl;have g5:=hcc 5 _ rfl;rw [Nat.add_zero] at g0;clear hcc hbl;have uf:=af (Hs.o _ (List.getElem_mem hlt));obtain ⟨rfl,_,rfl⟩:=Za e;clear e;have jU:=af (rJ (fun x=>x.name.size) l k hlt);have MN:=af (xY (fun x=>x.name.size) l (k+1));have LU:=af (show (fun x=>x.name.size) l[k]=l[k].name.size from rfl)
   by_cases hx:c<l[k].name.size
   ·have HR:=af (gQ (show lf<tCalls l by have:=hsum.o;have:=jU.o;have:=MN.o;have:=LU.o;rw [HT.o];omega));have Hx:=af (gQ hx);have HC:=af (fun W=>szCall_c l[k] c W uf.o hc);unfold dW at HC;clear hx;go_wp2_with fail;refine (HC.o _).mono ?_;rintro e w2 ⟨rfl,hb2⟩;have B2:=af (hb.o.trans (hb2.mono hb.o.size));clear hb2;rw [Hx.o];go_wp2_with fail;go_ret;exact ⟨aZ HR.o.symm,B2.o⟩
   obtain ⟨c2,hc2⟩:=Nat.exists_eq_add_of_le (Nat.not_lt.1 hx);have Hx:=af (show Df c (l[k].name.size)=(c2:Int) by rw [iJ (by omega)];omega);have Gl:=af (show lf=l.length+sumT (fun x=>x.name.size) l (k+1)+c2 by have:=hsum.o;have:=jU.o;have:=LU.o;omega);have Gm:c2<=1048576:=by omega
   have HC:=af (fun W=>szCall_c l[k] c W uf.o hc);unfold dW at HC;clear hx hc2;go_wp2_with fail;refine (HC.o _).mono ?_;rintro e w2 ⟨rfl,hb2⟩;have B2:=af (hb.o.trans (hb2.mono hb.o.size));clear hb2;rw [Hx.o];go_wp2_with fail;go_roundw
   case rel=>exact ⟨k+1,c2,by go_num,by omega,rfl,Gm,Gl.o,B2.o⟩
   case measure=>simp [intOf];omega
  have hkn:k=l.length:=by omega
  have HR:=af (show Df lf (tCalls l)=(c:Int) by
   have h1:=hsum.o;rw [hkn,uU] at h1;rw [HT.o,iJ (by omega)];omega)
  clear hkn;go_wp2_with fail;go_ret;exact ⟨aZ HR.o.symm,hb.o⟩
theorem eqCall_c (x:Kx.Call) (w:World):Calls prog 119 #[dW x,dW x] w (Yes w):=by
 have Hb:=af (show ∀ a b,Below w.heap.size w ((w.alloc (.cells a 59)).alloc (.cells b 59)) from fun a b=>((Below.refl w.heap.size w).alloc aW _).alloc (by simp) _)
 unfold dW;go_enter func119,ntmps119;go_wp2_with fail;go_ret;exact ⟨rfl,Hb.o _ _⟩

theorem info_call:(prog.info? 59).map (fun i=>(i.zero,i.size,i.bytes))=some (some (.agg #[I_ 0,I_ 0,I_ 0,I_ 0,I_ 0,.string ⟨#[]⟩]),6,56):=by kernel_rfl
def zeroC:Kx.Call:=⟨0,0,0,0,0,⟨#[]⟩⟩
theorem toCalls_c (l:List Kx.Call) (v:Value) (w:World) (h:Zj w v l) (Jd:l.length<=1048576):Calls prog 38 #[v] w (yu Lc 6 59 w l):=by
 obtain ⟨a,cap,rfl,_,_⟩:=RS.val h;have H:=af (show Zj w _ l from h);clear h;obtain ⟨i0,hi,hz0,hz1,hz2⟩:=info_parts info_call;have hc1:i0.bytes*l.length<=281474976710656:=by rw [hz2];omega
 have hc2:l.length<=maxLen:=by unfold maxLen;omega
 go_enter func38,ntmps38;go_wp2_with (at_make;refine wpList_make_full _ rfl _ _ 49 rfl w.heap.size 59 i0 (.agg #[I_ 0,I_ 0,I_ 0,I_ 0,I_ 0,.string ⟨#[]⟩]) 6 underlying49 hi hz0 hz1 .i64 .i64 _ _ l.length rfl rfl rfl rfl hc1 hc2 aW ?_;intro w1 hown hgrow);have B1:=af (Below.lC hgrow);have O1:=af (show OS Lc 6 59 w1 w.heap.size (.slice (some ⟨w.heap.size,0,none⟩) l.length l.length) (List.replicate l.length zeroC) from ⟨by rw [<-jM (f:=Lc) (sz:=6) (fun _=>rfl) (by decide) zeroC _ rfl l.length,List.length_replicate];exact hown,by simp;omega⟩);clear hi hz0 hz1 hz2 hgrow hown
 go_loopw [4] (fun i wr=>∃ k:Nat,i=I_ k/\k<=l.length/\TI (OS Lc 6 59 wr w.heap.size (.slice (some ⟨w.heap.size,0,none⟩) l.length l.length) (l.take k ++ List.replicate (l.length - k) zeroC))/\TI (Below w.heap.size w wr)) (fun i _=>l.length - (intOf i).toNat)
 case atStart=>exact ⟨0,rfl,Nat.zero_le _,by simpa [TI] using O1.o,B1.o⟩
 case round =>
  clear O1 B1;obtain ⟨k,rfl,hk,ho,hb⟩:=hrel
  by_cases hlt:k<l.length
  ·obtain ⟨b,off,cap1,e,hbl,hcc⟩:=RS.at (RS.below H.o hb.o) (k:=k) hlt;have g0:=hcc 0 _ rfl;have g1:=hcc 1 _ rfl;have g2:=hcc 2 _ rfl;have g3:=hcc 3 _ rfl;have g4:=hcc 4 _ rfl;have g5:=hcc 5 _ rfl;rw [Nat.add_zero] at g0;clear hcc hbl;obtain ⟨rfl,_,rfl⟩:=Za e;clear e;have kQ:(k:Int)<(l.length:Int):=by omega
   have HC:=af (fun W=>toCall_c l[k] W);unfold dW at HC;go_wp2_with fail;refine (HC.o _).mono ?_;rintro e w2 ⟨rfl,hb2⟩;have l7:=af (ho.o.below hb2);have B2:=af (hb.o.trans (hb2.mono hb.o.size));clear hb2;obtain ⟨hst,hgr⟩:=l7.o.jy (by simp;omega) k l[k] (by simp;omega);rw [wG l _ k hlt] at hst;have uh:=af hst;obtain ⟨⟨z0,hz0⟩,hf0⟩:=l7.o.bP k (by simp;omega) 0 (by decide);obtain ⟨⟨z1,hz1⟩,hf1⟩:=l7.o.bP k (by simp;omega) 1 (by decide);obtain ⟨⟨z2,hz2⟩,hf2⟩:=l7.o.bP k (by simp;omega) 2 (by decide);obtain ⟨⟨z3,hz3⟩,hf3⟩:=l7.o.bP k (by simp;omega) 3 (by decide);obtain ⟨⟨z4,YJ⟩,hf4⟩:=l7.o.bP k (by simp;omega) 4 (by decide);obtain ⟨⟨z5,hz5⟩,hf5⟩:=l7.o.bP k (by simp;omega) 5 (by decide);clear hst hgr
   try rw [Nat.add_zero] at hz0 hf0
   generalize l[k]=x at g0 g1 g2 g3 g4 g5 uh;go_wp2_with fail;go_roundw
   case rel=>exact ⟨k+1,by go_num,by omega,uh.o,iK aW (Lc x) (k*6) _ B2.o⟩
   case measure=>simp [intOf];omega
  have hkn:k=l.length:=by omega
  have HF:=af (show OS Lc 6 59 wr w.heap.size (.slice (some ⟨w.heap.size,0,none⟩) l.length l.length) l by
   have h9:=ho.o;rw [hkn,List.take_length,Nat.sub_self,List.replicate_zero,List.append_nil] at h9;exact h9)
  clear hkn;go_wp2_with fail;go_ret;exact ⟨_,rfl,HF.o,hb.o⟩
theorem eqCalls_c (l:List Kx.Call) (v u:Value) (w:World) (h1:Zj w v l) (h2:Zj w u l):Calls prog 40 #[v,u] w (Yes w):=by
 have hl:=h1.1;obtain ⟨a,cap,rfl,_,_⟩:=RS.val h1;obtain ⟨a',cap',rfl,_,_⟩:=RS.val h2;have H1:=af h1;have H2:=af h2;clear h1 h2;go_enter func40,ntmps40;go_wp2_with fail;go_loopw [5] (fun i wr=>∃ k:Nat,i=I_ k/\k<=l.length/\TI (Below w.heap.size w wr)) (fun i _=>l.length - (intOf i).toNat)
 case atStart=>exact ⟨0,rfl,Nat.zero_le _,Below.refl _ _⟩
 case round =>
  obtain ⟨k,rfl,hk,hb⟩:=hrel
  by_cases hlt:k<l.length
  ·have kQ:(k:Int)<(l.length:Int):=by omega
   obtain ⟨b,off,cap1,e,hbl,hc⟩:=RS.at (RS.below H1.o hb.o) (k:=k) hlt;obtain ⟨rfl,_,rfl⟩:=Za e;clear e;obtain ⟨b',off',cap1,e,aag,hc'⟩:=RS.at (RS.below H2.o hb.o) (k:=k) hlt;obtain ⟨rfl,_,rfl⟩:=Za e;clear e;generalize l[k]=x at hc hc';have g0:=hc 0 _ rfl;have q0:=hc' 0 _ rfl;have g1:=hc 1 _ rfl;have q1:=hc' 1 _ rfl;have g2:=hc 2 _ rfl;have q2:=hc' 2 _ rfl;have g3:=hc 3 _ rfl;have q3:=hc' 3 _ rfl;have g4:=hc 4 _ rfl;have q4:=hc' 4 _ rfl;have g5:=hc 5 _ rfl;have q5:=hc' 5 _ rfl;rw [Nat.add_zero] at g0 q0;clear hc hc'
   have IK_:=af (show ∀ wz,Below wr.heap.size wr wz->(wz.cell? ⟨b,off+k*6,none⟩=some (I_ x.kind)/\wz.cell? ⟨b,off+k*6+1,none⟩=some (I_ x.env)/\wz.cell? ⟨b,off+k*6+2,none⟩=some (I_ x.a)/\wz.cell? ⟨b,off+k*6+3,none⟩=some (I_ x.b)/\wz.cell? ⟨b,off+k*6+4,none⟩=some (I_ x.c)/\wz.cell? ⟨b,off+k*6+5,none⟩=some (.string x.name)/\wz.cell? ⟨b',off'+k*6,none⟩=some (I_ x.kind)/\wz.cell? ⟨b',off'+k*6+1,none⟩=some (I_ x.env)/\wz.cell? ⟨b',off'+k*6+2,none⟩=some (I_ x.a)/\wz.cell? ⟨b',off'+k*6+3,none⟩=some (I_ x.b)/\wz.cell? ⟨b',off'+k*6+4,none⟩=some (I_ x.c)/\wz.cell? ⟨b',off'+k*6+5,none⟩=some (.string x.name)) from fun wz hw=>⟨(hw.cell (p:=⟨b,off+k*6,none⟩) hbl).trans g0,(hw.cell (p:=⟨b,off+k*6+1,none⟩) hbl).trans g1,(hw.cell (p:=⟨b,off+k*6+2,none⟩) hbl).trans g2,(hw.cell (p:=⟨b,off+k*6+3,none⟩) hbl).trans g3,(hw.cell (p:=⟨b,off+k*6+4,none⟩) hbl).trans g4,(hw.cell (p:=⟨b,off+k*6+5,none⟩) hbl).trans g5,(hw.cell (p:=⟨b',off'+k*6,none⟩) aag).trans q0,(hw.cell (p:=⟨b',off'+k*6+1,none⟩) aag).trans q1,(hw.cell (p:=⟨b',off'+k*6+2,none⟩) aag).trans q2,(hw.cell (p:=⟨b',off'+k*6+3,none⟩) aag).trans q3,(hw.cell (p:=⟨b',off'+k*6+4,none⟩) aag).trans q4,(hw.cell (p:=⟨b',off'+k*6+5,none⟩) aag).trans q5⟩)
   clear g0 g1 g2 g3 g4 g5 q0 q1 q2 q3 q4 q5 hbl aag;have HQ:=af (fun W=>eqCall_c x W);unfold dW at HQ;have hb0:=Below.refl wr.heap.size wr;have hS0:=IK_.o _ (Below.bz hb0);go_wp2_with fail;refine afi IK_ fun hHeld=>?_
   clear hS0;obtain ⟨d,hd⟩:=XP wr.drew;rw [hd] at hHeld ⊢;replace hb0:Below wr.heap.size wr d:=hd ▸ Below.bz hb0;clear hd;refine afW 0 ?_;refine ahk 8 fun K hK=>?_
   (go_simp;go_at_call 119;refine (HQ.o _).mono ?_;rintro en v1 ⟨rfl,hb2⟩;have hb1:=hb0.trans ((hb2).mono hb0.size);clear hb2;have hS1:=IK_.o v1 hb1;go_wp2_with fail)
   refine afS hK fun hHeld=>?_
   clear hK K;refine ac' 9 ?_;refine wpAnyH_done (by kernel_rfl) ?_ _;have X5:=af (hb.o.trans (hb1.mono hb.o.size));clear hS1;go_wp2_with fail;go_roundw
   case rel=>exact ⟨k+1,by go_num,by omega,X5.o⟩
   case measure=>simp [intOf];omega
  go_wp2_with fail;go_ret;exact ⟨rfl,hb.o⟩

theorem markCalls_c (xs:List Kx.Call) (k0:Int) (base:Nat) (v:Value) (w:World) (h:OS Lc 6 59 w base v xs) (h0:0<=k0) (h1:k0+6*xs.length<1099511627776) :
  Calls prog 41 #[v,I_ k0] w fun e w'=>e=.returned (I_ (k0+6*xs.length))/\w.grownBy w' v.ownBlock:=by
 obtain ⟨a,cap,rfl,_,_⟩:=h.rs.val;have hl:=h.2;have H:=af h;clear h;go_enter func41,ntmps41;go_wp2_with fail;go_loopw [1,5] (fun k i wr=>∃ (j:Nat) (L0:List Kx.Call),i=I_ j/\j<=xs.length/\k=I_ (k0+6*(j:Int))/\TI (L0.length=xs.length)/\TI (OS Lc 6 59 wr base (.slice a xs.length cap) L0)/\TI (w.grownBy wr (Value.slice a xs.length cap).ownBlock))
  (fun _ i _=>xs.length - (intOf i).toNat)
 case atStart=>exact ⟨0,xs,rfl,Nat.zero_le _,by simp,rfl,H.o,World.grownBy.refl _ _⟩
 case round =>
  obtain ⟨j,L0,rfl,hj,rfl,hlen,ho,hg⟩:=hrel
  by_cases hlt:j<xs.length
  ·obtain ⟨g,cap',e,_,_⟩:=ho.o.shape (by rw [hlen.o];omega);obtain ⟨rfl,he,rfl⟩:=Za e;clear e he;have kQ:(j:Int)<(xs.length:Int):=by omega
   have hK1:k0+6*(j:Int)+6<=1099511627776:=by omega
   obtain ⟨q,hq⟩:∃ x,k0+6*(j:Int)=x:=⟨_,rfl⟩;rw [hq] at hK1 ⊢;have Hq:=af hq;have hq0:0<=q:=by omega
   clear hq;have hjl:=af (show j<L0.length by rw [hlen.o];exact hlt);have Ho0:=ho;clear ho;obtain ⟨x0,hx0⟩:∃ x,L0[j]'hjl.o=x:=⟨_,rfl⟩;obtain ⟨z0,hz0,hf0⟩:=Ho0.o.spot hjl.o 0 (by decide);rw [Nat.add_zero] at hz0 hf0;have O_:=af (Ho0.o.put hlen.o j 0 ⟨q,x0.env,x0.a,x0.b,x0.c,x0.name⟩ (I_ q) hjl.o (by decide) (by rw [hx0];rfl));rw [Nat.add_zero] at O_;obtain ⟨z1,hz1,hf1⟩:=O_.o.spot (i:=j) (by rw [List.length_set];exact hjl.o) 1 (by decide);have l7:=af (O_.o.put (by rw [List.length_set];exact hlen.o) j 1 ⟨q,q+1,x0.a,x0.b,x0.c,x0.name⟩ (I_ (q+1)) (by rw [List.length_set];exact hjl.o) (by decide) (by simp [Lc]));rw [List.set_set] at l7;obtain ⟨z2,hz2,hf2⟩:=l7.o.spot (i:=j) (by rw [List.length_set];exact hjl.o) 2 (by decide)
   have jJ:=af (l7.o.put (by rw [List.length_set];exact hlen.o) j 2 ⟨q,q+1,q+1+1,x0.b,x0.c,x0.name⟩ (I_ (q+1+1)) (by rw [List.length_set];exact hjl.o) (by decide) (by simp [Lc]));rw [List.set_set] at jJ;obtain ⟨z3,hz3,hf3⟩:=jJ.o.spot (i:=j) (by rw [List.length_set];exact hjl.o) 3 (by decide);have kH:=af (jJ.o.put (by rw [List.length_set];exact hlen.o) j 3 ⟨q,q+1,q+1+1,q+1+1+1,x0.c,x0.name⟩ (I_ (q+1+1+1)) (by rw [List.length_set];exact hjl.o) (by decide) (by simp [Lc]));rw [List.set_set] at kH;obtain ⟨z4,YJ,hf4⟩:=kH.o.spot (i:=j) (by rw [List.length_set];exact hjl.o) 4 (by decide);have OY:=af (kH.o.put (by rw [List.length_set];exact hlen.o) j 4 ⟨q,q+1,q+1+1,q+1+1+1,q+1+1+1+1,x0.name⟩ (I_ (q+1+1+1+1)) (by rw [List.length_set];exact hjl.o) (by decide) (by simp [Lc]));rw [List.set_set] at OY
   have TR:=af (grownBy_trans (grownBy_trans (grownBy_trans (grownBy_trans (grownBy_trans hg.o (aK _ g (j*6) (I_ (q)))) (aK _ g (j*6+1) (I_ (q+1)))) (aK _ g (j*6+2) (I_ (q+1+1)))) (aK _ g (j*6+3) (I_ (q+1+1+1)))) (aK _ g (j*6+4) (I_ (q+1+1+1+1))));clear Ho0 O_ l7 jJ kH hx0 hg;go_wp2_with fail;refine (markText_i (q+1+1+1+1+1) _ (by omega) (by omega)).mono ?_;rintro en w2 ⟨rfl,hb⟩;have Hp:=af (OY.o.below hb);have Hg6:=af (grownBy_trans TR.o (IG hb _));clear hb OY TR hz0 hf0 hz1 hf1 hz2 hf2 hz3 hf3 YJ hf4;obtain ⟨z5,hz5,hf5⟩:=Hp.o.spot (i:=j) (by rw [List.length_set];exact hjl.o) 5 (by decide)
   have Hp2:=af (Hp.o.put (by rw [List.length_set];exact hlen.o) j 5 ⟨q,q+1,q+1+1,q+1+1+1,q+1+1+1+1,Kx.mt (q+1+1+1+1+1)⟩ (.string (Kx.mt (q+1+1+1+1+1))) (by rw [List.length_set];exact hjl.o) (by decide) (by simp [Lc]));rw [List.set_set] at Hp2;have Hg7:=af (grownBy_trans Hg6.o (aK _ g (j*6+5) (.string (Kx.mt (q+1+1+1+1+1)))));clear Hp Hg6;go_wp2_with fail;go_roundw
   case rel=>exact ⟨j+1,_,by go_num,by omega,by have:=Hq.o;congr 1;omega,(by rw [List.length_set];exact hlen.o),Hp2.o,Hg7.o⟩
   case measure=>simp [intOf];omega
  have:j=xs.length:=by omega
  subst this;go_wp2_with fail;go_ret;exact ⟨rfl,hg.o⟩

end Go.Proofs.YthcmmoibpgcgaaaGreatDoor
namespace Kx
def stepC (k:Kernel) (c:Call):Kernel×Int:=if bK c.env 0 2 then ((cO k c).1,(cO k c).2.2) else (k,5)
theorem playStep_eq (s:Kernel×List Int) (c:Call):uK s c=((stepC s.1 c).1,s.2 ++ [(stepC s.1 c).2]):=by
 unfold uK stepC;split <;> rfl
theorem play_succ (cs:List Call) (k:Kernel) {i:Nat} (hi:i<cs.length):(cs.take (i+1)).foldl uK (k,[])=uK ((cs.take i).foldl uK (k,[])) cs[i]:=by
 rw [List.take_succ_eq_append_getElem hi,List.foldl_append];rfl
theorem play_len:∀ (cs:List Call) (k:Kernel) (l:List Int),(cs.foldl uK (k,l)).2.length=l.length+cs.length
 | [],_,_=>rfl
 | c :: cs,k,l=>by
  rw [List.foldl_cons,playStep_eq,play_len cs];simp only [List.length_append,List.length_cons,List.length_nil];omega
end Kx
namespace Go.Proofs.YthcmmoibpgcgaaaGreatDoor
open Go.RowKit Kx

def RKq (w:World) (base hi:Nat) (um ui ue uc:Value) (k:Kx.Kernel):Prop:=∀ V:World,w.heap.size<=V.heap.size->(∀ j,base<=j->j<hi->V.heap[j]?=w.heap[j]?)->RK V um ui ue uc k
theorem sets_blk (g:Nat) (l:List Value) {j:Nat} (hj:j≠g):∀ (i:Nat) (w:World),(sets w g i l).heap[j]?=w.heap[j]?:=by
 induction l with
 | nil=>intro i w;rfl
 | cons v l ih=>intro i w;exact (ih (i+1) _).trans (Below.heap_setCell _ _ _ _ hj)
section
variable {w W V:World} {base hi g g4 g6:Nat} {um ui ue uc u0 u1 u2 u3 z0 z1 z2 z3 v v':Value} {k k':Kx.Kernel} {l:List Int}
theorem RKq.to (h:RKq w base hi um ui ue uc k) (hs:w.heap.size<=V.heap.size) (hk:∀ j,base<=j->j<hi->V.heap[j]?=w.heap[j]?):RKq V base hi um ui ue uc k:=
 fun U h1 h2=>h U (Nat.le_trans hs h1) (fun j a b=>(h2 j a b).trans (hk j a b))
theorem KO.rkq (h:KO w base um ui ue uc k):RKq w base w.heap.size um ui ue uc k:=fun _ hs hk=>(h.up ⟨hs,hk⟩).rk
structure PL_ (w W:World) (g4 g6:Nat) (k:Kx.Kernel) (u0 u1 u2 u3 v:Value) (l:List Int):Prop where
 b:Below w.heap.size w W
 x4:BX W g4 28 [.slice none 0 0,.slice none 0 0,.slice none 0 0,.slice none 0 0]
 x6:BX W g6 28 [u0,u1,u2,u3]
 f:∃ base hi,g4<base/\(g6<base\/hi<=g6)/\hi<=W.heap.size/\(∀ b,v.ownBlock=some b->b<base\/hi<=b)/\RKq W base hi u0 u1 u2 u3 k
 o:OI W w.heap.size v l
 ok:az k=true
 sl:Sl u0/\Sl u1/\Sl u2/\Sl u3
 h:w.heap.size<=g4/\g4<g6
theorem PL_.below (h:PL_ w W g4 g6 k u0 u1 u2 u3 v l) (hb:Below W.heap.size W V):PL_ w V g4 g6 k u0 u1 u2 u3 v l:=by
 obtain ⟨base,hi,h0,h1,h2,h3,hk⟩:=h.f;exact ⟨h.b.trans (hb.mono h.b.size),h.x4.below hb,h.x6.below hb,⟨base,hi,h0,h1,Nat.le_trans h2 hb.size,h3,hk.to hb.size (fun j _ b=>hb.block j (by omega))⟩,h.o.below hb,h.ok,h.sl,h.h⟩
theorem PL_.rk (h:PL_ w W g4 g6 k u0 u1 u2 u3 v l):RK W u0 u1 u2 u3 k:=by
 obtain ⟨base,hi,h0,h1,h2,h3,hk⟩:=h.f;exact hk W aW (fun _ _ _=>rfl)
theorem PL_.call (h:PL_ w W g4 g6 k u0 u1 u2 u3 v l) (hb:Below W.heap.size W V) (hko:KO V W.heap.size z0 z1 z2 z3 k') (hok:az k'=true):PL_ w (sets V g6 0 [z0,z1,z2,z3]) g4 g6 k' z0 z1 z2 z3 v l:=by
 have h':=h.below hb;have hh:=h.h;have hl:=h.x6.lt;exact ⟨dP (by omega) _ 0 h'.b,BX.iq (by omega) _ 0 h'.x4,h'.x6.sets _ rfl,
  ⟨W.heap.size,V.heap.size,h.x4.lt,.inl hl,by rw [kD];exact Nat.le_refl _,fun b hb'=>.inl (h.o.lt b hb').2,hko.rkq.to (by rw [kD];exact Nat.le_refl _) (fun j a _=>sets_blk g6 _ (by omega) _ _)⟩,
  (OS.sets (by decide) _ 0 h'.x6 h'.o.os).oi,hok,hko.sl,hh⟩
theorem PL_.app {x:Int} (h:PL_ w W g4 g6 k u0 u1 u2 u3 v l) (ho:OS iR 1 3 V w.heap.size v' (l ++ [x])) (hg:W.grownBy V v.ownBlock) (hv:v'.ownBlock=v.ownBlock\/v'.ownBlock=some W.heap.size):PL_ w V g4 g6 k u0 u1 u2 u3 v' (l ++ [x]):=by
 obtain ⟨base,hi,h0,h1,h2,h3,hk⟩:=h.f;exact ⟨Below.app h.b h.o hg aW h.b.size,h.x4.dw h.o.os hg (by decide),h.x6.dw h.o.os hg (by decide),
  ⟨base,hi,h0,h1,Nat.le_trans h2 hg.size,fun b hb=>by
   rcases hv with hv | hv
   ·exact h3 b (hv ▸ hb)
   rw [hv] at hb;simp only [Option.some.injEq] at hb;exact .inr (by omega),hk.to hg.size (fun j a b=>hg.block j (by omega) (fun e=>by have:=h3 j e.symm;omega))⟩,ho.oi,h.ok,h.sl,h.h⟩
end
def PlayedK (w:World) (r:Kx.Kernel×List Int) (en:Ending) (w':World):Prop:=
 ∃ um ui ue uc v,en=.returned (.tuple #[.agg #[um,ui,ue,uc],v])/\RK w' um ui ue uc r.1/\RI w' v r.2/\Below w.heap.size w w'
def PlaysK (w:World) (r:Kx.Kernel×List Int) (en:Ending) (w':World):Prop:=
 ∃ um ui ue uc v mid,en=.returned (.tuple #[.agg #[um,ui,ue,uc],v])/\w.heap.size<=mid/\KO w' mid um ui ue uc r.1/\OI w' w.heap.size v r.2/\(∀ b,v.ownBlock=some b->b<mid)/\Below w.heap.size w w'
theorem specKernelPlay_c (k:Kx.Kernel) (cs:List Kx.Call) (vm vi ve vc vl:Value) (w:World) (h:RK w vm vi ve vc k) (hs:iQ k) (hl:Zj w vl cs) (hcs:∀ c ∈ cs,c.name.size<=9223372036854775807/\c.c<=9223372036854775807) :
  Calls prog 24 #[.agg #[vm,vi,ve,vc],vl] w (PlayedK w (QI k cs)):=by
 obtain ⟨al,cl,rfl,_,_⟩:=RS.val hl;obtain ⟨⟨am,nm,cm,rfl⟩,⟨ai,ni,ci,rfl⟩,⟨ae,ne,ce,rfl⟩,⟨ac,nc,cq,rfl⟩⟩:=h.slc;obtain ⟨w0,hw0⟩:=XP (w.alloc (.cells #[.slice am nm cm,.slice ai ni ci,.slice ae ne ce,.slice ac nc cq] 28));obtain ⟨w1,hw1⟩:=XP (w0.alloc (.cells #[.slice none 0 0,.slice none 0 0,.slice none 0 0,.slice none 0 0] 28));have B0:Below w.heap.size w w0:=hw0 ▸ dm;have B1:Below w0.heap.size w0 w1:=hw1 ▸ dm;have s0:w.heap.size<w0.heap.size:=by rw [<-hw0];simp
 have s1:w0.heap.size<w1.heap.size:=by rw [<-hw1];simp
 obtain ⟨w2,hw2⟩:=XP (w1.alloc (.cells #[] 3));have B2:Below w1.heap.size w1 w2:=hw2 ▸ dm;have Bw:=af (show Below w.heap.size w w2 from B0.trans ((B1.trans (B2.mono B1.size)).mono B0.size));have X0:=af (show BX w2 w.heap.size 28 [.slice am nm cm,.slice ai ni ci,.slice ae ne ce,.slice ac nc cq] from ((hw0 ▸ BX.new w _ _:BX w0 _ _ _).below B1).below B2);have X2:=af (show BX w2 w0.heap.size 28 [.slice none 0 0,.slice none 0 0,.slice none 0 0,.slice none 0 0] from (hw1 ▸ BX.new w0 _ _:BX w1 _ _ _).below B2);have HC0:=af (show OI w2 w.heap.size (.slice (some ⟨w1.heap.size,0,none⟩) 0 0) [] from hw2 ▸ OI.d_ (by omega));have s2:w1.heap.size<w2.heap.size:=by rw [<-hw2];simp
 clear B2;have HR:=af (show RK w _ _ _ _ k from h);have HL:=af hl;have HS:=af hs;have Hcs:=af hcs;have HV:=af (kJ k _ _ _ _ w2 (HR.o.below Bw.o) hs);have HK:=af (show QI k cs=if !az k then (Kx.Kernel.zero,[]) else cs.foldl Kx.uK (k,[]) from rfl);clear h hs hl hcs B0 B1;go_enter func24,ntmps24;have p0:=X0.o.c4;go_wp2_with fail;clear hw0 hw1 hw2;refine HV.o.mono ?_;rintro en w3 ⟨rfl,hb⟩;clear HV p0;replace X0:=af (X0.o.below hb);replace X2:=af (X2.o.below hb);replace HC0:=af (HC0.o.below hb);have Hz3:=af (show w2.heap.size<=w3.heap.size from hb.size);replace Bw:=af (Bw.o.trans (hb.mono Bw.o.size));have p0:=X0.o.c4;clear hb
 cases hok:az k with
 | false =>
  have HF:=af (show QI k cs=(Kx.Kernel.zero,[]) by rw [HK.o,hok];rfl);clear hok;obtain ⟨r0,r1,r2,r3⟩:=X2.o.c4;obtain ⟨jh,ji,jk,jl⟩:=X2.o.f4;go_wp2_with fail;obtain ⟨F,hF⟩:=XP (sets w3 w0.heap.size 0 [.slice none 0 0,.slice none 0 0,.slice none 0 0,.slice none 0 0]);rw [afA w3,hF];have BF:Below w.heap.size w F:=hF ▸ dP (by omega) _ 0 Bw.o;have XF_:BX F w0.heap.size 28 [.slice none 0 0,.slice none 0 0,.slice none 0 0,.slice none 0 0]:=hF ▸ X2.o.sets _ rfl;obtain ⟨e0,e1,e2,e3⟩:=XF_.c4
  refine af7 (by simp [results,results24,go_sem,e0,e1,e2,e3]<;>rfl) ?_;rw [HF.o];exact ⟨_,_,_,_,_,rfl,(KO.zero F 0).rk,(hF ▸ (OS.sets (by decide) _ 0 X2.o HC0.o.os):OS iR 1 3 F _ _ _).oi.ri,BF⟩
 | true =>
  have HF:=af (show QI k cs=cs.foldl Kx.uK (k,[]) by rw [HK.o,hok];rfl);have HCp:=af (show Calls prog 85 #[.agg #[.slice am nm cm,.slice ai ni ci,.slice ae ne ce,.slice ac nc cq]] w3 _ from by obtain ⟨hl1,hl2,hl3,hl4,hl5⟩:=nR hok;exact vg k _ _ _ _ w3 (HR.o.below Bw.o) hl1 hl2 hl3 hl4 hl5);go_wp2_with fail;refine HCp.o.mono ?_;rintro en w4 ⟨um,ui,ue,uc,rfl,hko,hb⟩;clear HCp p0 HK;obtain ⟨⟨a0,n0,m0,rfl⟩,⟨a1,n1,m1,rfl⟩,⟨a2,n2,m2,rfl⟩,⟨a3,n3,m3,rfl⟩⟩:=hko.sl;obtain ⟨w5,hw5⟩:∃ V,w4.alloc (.cells #[.slice a0 n0 m0,.slice a1 n1 m1,.slice a2 n2 m2,.slice a3 n3 m3] 28)=V:=⟨_,rfl⟩;have B5:Below w4.heap.size w4 w5:=hw5 ▸ dm;have B35:=hb.trans (B5.mono hb.size);have YJ:=hb.size
  have H:=af (show PL_ w w5 w0.heap.size w4.heap.size k (.slice a0 n0 m0) (.slice a1 n1 m1) (.slice a2 n2 m2) (.slice a3 n3 m3) (.slice (some ⟨w1.heap.size,0,none⟩) 0 0) [] from
   ⟨Bw.o.trans (B35.mono Bw.o.size),X2.o.below B35,hw5 ▸ BX.new w4 _ _,
    ⟨w3.heap.size,w4.heap.size,by have:=Hz3.o;omega,.inr aW,B5.size,fun b hb'=>.inl (HC0.o.lt b hb').2,hko.rkq.to B5.size (fun j _ h2=>B5.block j h2)⟩,HC0.o.below B35,hok,hko.sl,by have:=Hz3.o;omega⟩)
  obtain ⟨g6,OT⟩:∃ g,w4.heap.size=g:=⟨_,rfl⟩;rw [OT] at H;clear hko hb B5 B35 X0 X2 HC0 hok YJ Hz3 Bw;go_wp2_with fail
  try rw [hw5]
  try rw [OT]
  clear hw5 OT;obtain ⟨g4,hg4⟩:∃ g,w0.heap.size=g:=⟨_,rfl⟩
  try rw [hg4] at H ⊢
  clear hg4 s0 s1 s2;go_loopw [6,8] (fun v i wr=>∃ (j:Nat) (q:Kx.Kernel×List Int) (u0 u1 u2 u3:Value),i=I_ j/\j<=cs.length/\TI ((cs.take j).foldl Kx.uK (k,[])=q)/\TI (PL_ w wr g4 g6 q.1 u0 u1 u2 u3 v q.2)) (fun _ i _=>cs.length - (intOf i).toNat)
  case atStart=>exact ⟨0,(k,[]),_,_,_,_,rfl,Nat.zero_le _,rfl,H⟩
  case round =>
   clear H;obtain ⟨j,q,u0,u1,u2,u3,rfl,hj,Hq,H⟩:=hrel;have ik:=af (show q.2.length=j by have:=Kx.play_len (cs.take j) k [];rw [Hq.o] at this;simp at this;omega);have hnl:cs.length<=1099511627776:=HL.o.1;obtain ⟨⟨b0,q0,z0,rfl⟩,⟨b1,q1,z1,rfl⟩,⟨b2,q2,z2,rfl⟩,⟨b3,q3,z3,rfl⟩⟩:=H.o.sl
   by_cases hlt:j<cs.length
   ·obtain ⟨bl,ol,xl,el,hbl,hq⟩:=RS.at (RS.below HL.o H.o.b) hlt;obtain ⟨rfl,_,rfl⟩:=Za el;clear el;have kQ:(j:Int)<(cs.length:Int):=by omega
    have Hcj:=af (Hcs.o cs[j] (List.getElem_mem hlt));have HT:=af (show (cs.take (j+1)).foldl Kx.uK (k,[])=Kx.uK q cs[j] by rw [Kx.play_succ cs k hlt,Hq.o]);generalize cs[j]=c at hq HT Hcj;obtain ⟨bQ,JF,ca,cb,cc,bg⟩:=c;have q0:wr.cell? ⟨bl,ol+j*6,none⟩=some (I_ bQ):=hq 0 _ rfl;have q1:wr.cell? ⟨bl,ol+j*6+1,none⟩=some (I_ JF):=hq 1 _ rfl;have q2:wr.cell? ⟨bl,ol+j*6+2,none⟩=some (I_ ca):=hq 2 _ rfl;have q3:wr.cell? ⟨bl,ol+j*6+3,none⟩=some (I_ cb):=hq 3 _ rfl;have q4:wr.cell? ⟨bl,ol+j*6+4,none⟩=some (I_ cc):=hq 4 _ rfl;have q5:wr.cell? ⟨bl,ol+j*6+5,none⟩=some (.string bg):=hq 5 _ rfl;clear hq;have ND:=af hbl;have Q0:=af q0;have Q1:=af q1;have Q2:=af q2;have Q3:=af q3;have Q4_:=af q4;have Q5_:=af q5;clear hbl q0 q2 q3 q4 q5;go_wp2_with fail;refine (qZ _ _).mono ?_;rintro en w9 ⟨rfl,rfl⟩;clear q1
    cases hin:Kx.bK JF 0 2 with
    | false =>
     have Hq1:=af (show (cs.take (j+1)).foldl Kx.uK (k,[])=(q.1,q.2 ++ [5]) by rw [HT.o];unfold Kx.uK;simp only [hin];rfl);clear hin HT Q0 Q1 Q2 Q3 Q4_ Q5_;have uf:=af (show w.heap.size<=wr.heap.size from H.o.b.size);have HA:=af (H.o.below ((Below.refl wr.heap.size wr).alloc aW (.cells #[I_ 5] 3)));have hxl:=af (show q.2.length+1<=1099511627776 by have:=ik.o;omega);go_wp2_with (at_builtin;refine aV wK rfl _ _ rfl w.heap.size _ q.2 rfl (H.o.o.os.alloc _) _ [(5:Int)] rfl (RS.one (f:=iR) (5:Int) #[I_ 5] rfl _ _) hxl.o (by simp;exact Nat.le_succ_of_le uf.o) ?_;intro v7 w8 xE J5 hv8;have H8:=af (HA.o.app xE J5 hv8);clear xE J5 hv8);go_roundw
     case rel=>exact ⟨j+1,_,_,_,_,_,by go_num,by omega,Hq1,H8⟩
     case measure=>simp [intOf];omega
    | true =>
     obtain ⟨he0,he2⟩:=Kx.ay.1 hin;obtain ⟨e,rfl⟩:=Int.eq_ofNat_of_zero_le he0;obtain ⟨r,hr⟩:=XP (Kx.cO q.1 ⟨bQ,(e:Int),ca,cb,cc,bg⟩);have Hq1:=af (show (cs.take (j+1)).foldl Kx.uK (k,[])=(r.1,q.2 ++ [r.2.2]) by rw [HT.o];unfold Kx.uK;simp only [hin,hr];rfl);have Ky:=af (show az r.1=true from hr ▸ nN.2 ((nN.1 H.o.ok).cO _ hin));have HC:=af (fun W (hb:Below wr.heap.size wr W)=>hr ▸ Ap q.1 ⟨bQ,(e:Int),ca,cb,cc,bg⟩ e _ _ _ _ W (H.o.below hb).rk H.o.ok (jX H.o.ok) rfl (by omega) Hcj.o.1)
     unfold dW at HC;clear hin hr he0 he2 HT;go_wp2_with fail
     have IK_:=af (show ∀ W,Below wr.heap.size wr W->(W.cell? ⟨g6,0,none⟩=some (.slice b0 q0 z0)/\W.cell? ⟨g6,1,none⟩=some (.slice b1 q1 z1)/\W.cell? ⟨g6,2,none⟩=some (.slice b2 q2 z2)/\W.cell? ⟨g6,3,none⟩=some (.slice b3 q3 z3)/\W.cell? ⟨bl,ol+j*6,none⟩=some (I_ bQ)/\W.cell? ⟨bl,ol+j*6+1,none⟩=some (I_ (e:Int))/\W.cell? ⟨bl,ol+j*6+2,none⟩=some (I_ ca)/\W.cell? ⟨bl,ol+j*6+3,none⟩=some (I_ cb)/\W.cell? ⟨bl,ol+j*6+4,none⟩=some (I_ cc)/\W.cell? ⟨bl,ol+j*6+5,none⟩=some (.string bg)) from fun W h=>⟨(H.o.x6.below h).cell 0,(H.o.x6.below h).cell 1,(H.o.x6.below h).cell 2,(H.o.x6.below h).cell 3,(h.cell (p:=⟨bl,ol+j*6,none⟩) ND.o).trans Q0.o,(h.cell (p:=⟨bl,ol+j*6+1,none⟩) ND.o).trans Q1.o,(h.cell (p:=⟨bl,ol+j*6+2,none⟩) ND.o).trans Q2.o,(h.cell (p:=⟨bl,ol+j*6+3,none⟩) ND.o).trans Q3.o,(h.cell (p:=⟨bl,ol+j*6+4,none⟩) ND.o).trans Q4_.o,(h.cell (p:=⟨bl,ol+j*6+5,none⟩) ND.o).trans Q5_.o⟩)
     have hb0:=Below.refl wr.heap.size wr;have hS0:=IK_.o _ (Below.bz hb0);refine afi IK_ fun hHeld=>?_
     clear hS0;obtain ⟨d,hd⟩:=XP wr.drew;rw [hd] at hHeld ⊢;replace hb0:Below wr.heap.size wr d:=hd ▸ Below.bz hb0;clear hd;refine afV 0 ?_;refine ac' 4 ?_;refine ae' 5 10 (fun K hK=>?_) (fun K hK=>?_)
     case' refine_1 =>
      (go_simp;go_at_call 87;refine (HC.o _ hb0).mono ?_;rintro en V1 ⟨_,_,_,_,rfl,hko,hb⟩;obtain ⟨⟨d0,WR,WS,rfl⟩,⟨d1,WT,WU,rfl⟩,⟨d2,WV,WW,rfl⟩,⟨d3,WX,WY,rfl⟩⟩:=hko.sl;have hb1:=hb0.trans (hb.mono hb0.size);have HKO:=af (hko.mono (show wr.heap.size<=_ from hb0.size));clear hko hb;have hS1:=IK_.o V1 hb1;go_wp2_with fail)
      refine afS hK fun hHeld=>?_
      clear hK K;refine afV 6 ?_;refine ahk 10 fun K hK=>?_
      (go_simp;obtain ⟨UU_,hU⟩:∃ V,V1.alloc (.cells #[.slice none 0 0,.slice none 0 0,.slice none 0 0,.slice none 0 0] 28)=V:=⟨_,rfl⟩;have XB_:=af (show BX UU_ V1.heap.size 28 [.slice none 0 0,.slice none 0 0,.slice none 0 0,.slice none 0 0] from hU ▸ BX.new V1 _ _);obtain ⟨g7,Fh⟩:∃ g,V1.heap.size=g:=⟨_,rfl⟩;have hgd:wr.heap.size<=g7:=Fh ▸ hb1.size;have hbU:=(show Below V1.heap.size V1 UU_ from hU ▸ dm);replace HKO:=af (HKO.o.below hbU);have hb2:=hb1.trans (hbU.mono hb1.size);have hS2:=IK_.o UU_ hb2;rw [Fh] at XB_ ⊢;try rw [hU];clear hU Fh hbU)
      refine afS hK fun hHeld=>?_
      clear hK K
     case' refine_2 =>
      (go_simp;obtain ⟨U,hU⟩:∃ V,d.alloc (.cells #[.slice none 0 0,.slice none 0 0,.slice none 0 0,.slice none 0 0] 28)=V:=⟨_,rfl⟩;have XB_:=af (show BX U d.heap.size 28 [.slice none 0 0,.slice none 0 0,.slice none 0 0,.slice none 0 0] from hU ▸ BX.new d _ _);obtain ⟨g7,Fh⟩:∃ g,d.heap.size=g:=⟨_,rfl⟩;have hgd:wr.heap.size<=g7:=Fh ▸ hb0.size;have hbU:=(show Below d.heap.size d U from hU ▸ dm);have hb1:=hb0.trans (hbU.mono hb0.size);have hS1:=IK_.o U hb1;rw [Fh] at XB_ ⊢;try rw [hU];clear hU Fh hbU)
      refine afS hK fun hHeld=>?_
      clear hK K;refine ahk 5 fun K hK=>?_
      (go_simp;go_at_call 87;refine (HC.o _ hb1).mono ?_;rintro en UU_ ⟨_,_,_,_,rfl,hko,hb⟩;obtain ⟨⟨d0,WR,WS,rfl⟩,⟨d1,WT,WU,rfl⟩,⟨d2,WV,WW,rfl⟩,⟨d3,WX,WY,rfl⟩⟩:=hko.sl;have hb2:=hb1.trans (hb.mono hb1.size);have HKO:=af (hko.mono (show wr.heap.size<=_ from hb1.size));replace XB_:=af (XB_.o.below hb);clear hko hb;have hS2:=IK_.o UU_ hb2;go_wp2_with fail)
      refine afS hK fun hHeld=>?_
      clear hK K;refine afV 6 ?_
     all_goals
      have p0:=XB_.o.c4;have y0:=XB_.o.f4;refine ahk 11 fun K hK=>?_
      (go_simp;obtain ⟨V,hV⟩:=XP (sets UU_ g7 0 [.slice d0 WR WS,.slice d1 WT WU,.slice d2 WV WW,.slice d3 WX WY]);have hb3:Below wr.heap.size wr V:=hV ▸ dP hgd _ 0 hb2;have XV_:=af (show BX V g7 28 [.slice d0 WR WS,.slice d1 WT WU,.slice d2 WV WW,.slice d3 WX WY] from hV ▸ XB_.o.sets _ rfl);replace HKO:=af (show KO V wr.heap.size (.slice d0 WR WS) (.slice d1 WT WU) (.slice d2 WV WW) (.slice d3 WX WY) r.1 from hV ▸ KO.sets aJ _ 0 XB_.o HKO.o);rw [afA UU_,hV];have hS3:=IK_.o V hb3)
      refine afS hK fun hHeld=>?_
      clear hK K;refine afU 12 ?_;refine wpAnyH_done (by kernel_rfl) ?_ _;have H7:=af (H.o.call hb3 HKO.o Ky.o);have x0:=XV_.o.c4;obtain ⟨r0,r1,r2,r3⟩:=(H.o.x6.below hb3).c4;obtain ⟨jh,ji,jk,jl⟩:=(H.o.x6.below hb3).f4;obtain ⟨V7,hV7⟩:∃ U,sets V g6 0 [.slice d0 WR WS,.slice d1 WT WU,.slice d2 WV WW,.slice d3 WX WY]=U:=⟨_,rfl⟩;rw [hV7] at H7;clear hV p0 y0 hHeld hgd hb2 hb1 hS1 hS2 hS3 HKO XB_ hb0 hb3 IK_ HC XV_;go_upto_region 13 with fail;rw [afA V,hV7];clear r0 r1 r2 r3 jh ji jk jl x0 hV7 H Q0 Q1 Q2 Q3 Q4_ Q5_;have uf:=af (show w.heap.size<=V7.heap.size from H7.o.b.size)
      have HA:=af (H7.o.below ((Below.refl V7.heap.size V7).alloc aW (.cells #[I_ r.2.2] 3)));have hxl:=af (show q.2.length+1<=1099511627776 by have:=ik.o;omega);go_wp2_with (at_builtin;refine aV wK rfl _ _ rfl w.heap.size _ q.2 rfl (H7.o.o.os.alloc _) _ [(r.2.2:Int)] rfl (RS.one (f:=iR) (r.2.2:Int) #[I_ r.2.2] rfl _ _) hxl.o (by simp;exact Nat.le_succ_of_le uf.o) ?_;intro v7 w8 xE J5 hv8;have H8:=af (HA.o.app xE J5 hv8);clear xE J5 hv8);go_roundw
      case rel=>exact ⟨j+1,_,_,_,_,_,by go_num,by omega,Hq1,H8⟩
      case measure=>simp [intOf];omega
   obtain rfl:j=cs.length:=by omega
   rw [List.take_length] at Hq;have HRK:=af H.o.f;have p0:=H.o.x6.c4;obtain ⟨r0,r1,r2,r3⟩:=H.o.x4.c4;obtain ⟨jh,ji,jk,jl⟩:=H.o.x4.f4;go_wp2_with fail;obtain ⟨F,hF⟩:=XP (sets wr g4 0 [.slice b0 q0 z0,.slice b1 q1 z1,.slice b2 q2 z2,.slice b3 q3 z3]);rw [afA wr,hF];have BF:Below w.heap.size w F:=hF ▸ dP H.o.h.1 _ 0 H.o.b;have XF_:BX F g4 28 [.slice b0 q0 z0,.slice b1 q1 z1,.slice b2 q2 z2,.slice b3 q3 z3]:=hF ▸ H.o.x4.sets _ rfl;have KF_:RK F (.slice b0 q0 z0) (.slice b1 q1 z1) (.slice b2 q2 z2) (.slice b3 q3 z3) q.1:=by
    obtain ⟨base,hi,h0,h1,h2,h3,hk⟩:=HRK.o;exact hk F (by rw [<-hF,kD];exact Nat.le_refl _) (fun j a _=>hF ▸ sets_blk g4 _ (by omega) _ _)
   have CF:OI F w.heap.size u6 q.2:=(hF ▸ OS.sets (by decide) _ 0 H.o.x4 H.o.o.os:OS iR 1 3 F w.heap.size u6 q.2).oi;obtain ⟨e0,e1,e2,e3⟩:=XF_.c4;refine af7 (by simp [results,results24,go_sem,e0,e1,e2,e3]<;>rfl) ?_;rw [HF.o,Hq.o];exact ⟨_,_,_,_,_,rfl,KF_,CF.ri,BF⟩

theorem implKernelPlay_c (k:Kx.Kernel) (cs:List Kx.Call) (vm vi ve vc vl:Value) (w:World) (h:RK w vm vi ve vc k) (hs:iQ k) (hl:Zj w vl cs) (hcs:∀ c ∈ cs,c.name.size<=9223372036854775807/\c.c<=9223372036854775807) :
  Calls prog 23 #[.agg #[vm,vi,ve,vc],vl] w (PlaysK w (QI k cs)):=by
 obtain ⟨al,cl,rfl,_,_⟩:=RS.val hl;obtain ⟨⟨am,nm,cm,rfl⟩,⟨ai,ni,ci,rfl⟩,⟨ae,ne,ce,rfl⟩,⟨ac,nc,cq,rfl⟩⟩:=h.slc;obtain ⟨w0,hw0⟩:=XP (w.alloc (.cells #[.slice am nm cm,.slice ai ni ci,.slice ae ne ce,.slice ac nc cq] 28));obtain ⟨w1,hw1⟩:=XP (w0.alloc (.cells #[.slice none 0 0,.slice none 0 0,.slice none 0 0,.slice none 0 0] 28));have B0:Below w.heap.size w w0:=hw0 ▸ dm;have B1:Below w0.heap.size w0 w1:=hw1 ▸ dm;have s0:w.heap.size<w0.heap.size:=by rw [<-hw0];simp
 have s1:w0.heap.size<w1.heap.size:=by rw [<-hw1];simp
 have Bw:=af (show Below w.heap.size w w1 from B0.trans (B1.mono B0.size));have X0:=af (show BX w1 w.heap.size 28 [.slice am nm cm,.slice ai ni ci,.slice ae ne ce,.slice ac nc cq] from (hw0 ▸ BX.new w _ _:BX w0 _ _ _).below B1);have X2:=af (show BX w1 w0.heap.size 28 [.slice none 0 0,.slice none 0 0,.slice none 0 0,.slice none 0 0] from (hw1 ▸ BX.new w0 _ _:BX w1 _ _ _));have HC0:=af (show OI w1 w.heap.size (.slice none 0 0) [] from OI.nil _ _);have HR:=af (show RK w _ _ _ _ k from h);have HL:=af hl;have HS:=af hs;have Hcs:=af hcs;have HV:=af (mX k _ _ _ _ w1 (HR.o.below Bw.o) hs);have HK:=af (show QI k cs=if !az k then (Kx.Kernel.zero,[]) else cs.foldl Kx.uK (k,[]) from rfl);clear h hs hl hcs B0 B1;go_enter func23,ntmps23;have p0:=X0.o.c4;go_wp2_with fail;clear hw0 hw1
 refine HV.o.mono ?_;rintro en w3 ⟨rfl,hb⟩;clear HV p0;replace X0:=af (X0.o.below hb);replace X2:=af (X2.o.below hb);replace HC0:=af (HC0.o.below hb);have Hz3:=af (show w1.heap.size<=w3.heap.size from hb.size);replace Bw:=af (Bw.o.trans (hb.mono Bw.o.size));have p0:=X0.o.c4;clear hb
 cases hok:az k with
 | false =>
  have HF:=af (show QI k cs=(Kx.Kernel.zero,[]) by rw [HK.o,hok];rfl);clear hok;obtain ⟨r0,r1,r2,r3⟩:=X2.o.c4;obtain ⟨jh,ji,jk,jl⟩:=X2.o.f4;go_wp2_with fail;obtain ⟨F,hF⟩:=XP (sets w3 w0.heap.size 0 [.slice none 0 0,.slice none 0 0,.slice none 0 0,.slice none 0 0]);rw [afA w3,hF];have BF:Below w.heap.size w F:=hF ▸ dP (by omega) _ 0 Bw.o;have XF_:BX F w0.heap.size 28 [.slice none 0 0,.slice none 0 0,.slice none 0 0,.slice none 0 0]:=hF ▸ X2.o.sets _ rfl;obtain ⟨e0,e1,e2,e3⟩:=XF_.c4
  refine af7 (by simp [results,results23,go_sem,e0,e1,e2,e3]<;>rfl) ?_;rw [HF.o];exact ⟨_,_,_,_,_,_,rfl,Nat.le_refl _,KO.zero _ _,OI.nil _ _,fun b hb=>by simp [Value.ownBlock] at hb,BF⟩
 | true =>
  have HF:=af (show QI k cs=cs.foldl Kx.uK (k,[]) by rw [HK.o,hok];rfl);have HCp:=af (ad2 k _ _ _ _ w3 (HR.o.below Bw.o));go_wp2_with fail;refine HCp.o.mono ?_;rintro en w4 ⟨um,ui,ue,uc,rfl,hko,hb⟩;clear HCp p0 HK;obtain ⟨⟨a0,n0,m0,rfl⟩,⟨a1,n1,m1,rfl⟩,⟨a2,n2,m2,rfl⟩,⟨a3,n3,m3,rfl⟩⟩:=hko.sl;obtain ⟨w5,hw5⟩:∃ V,w4.alloc (.cells #[.slice a0 n0 m0,.slice a1 n1 m1,.slice a2 n2 m2,.slice a3 n3 m3] 28)=V:=⟨_,rfl⟩;have B5:Below w4.heap.size w4 w5:=hw5 ▸ dm;have B35:=hb.trans (B5.mono hb.size);have YJ:=hb.size;have H:=af (show PL_ w w5 w0.heap.size w4.heap.size k (.slice a0 n0 m0) (.slice a1 n1 m1) (.slice a2 n2 m2) (.slice a3 n3 m3) (.slice none 0 0) [] from
   ⟨Bw.o.trans (B35.mono Bw.o.size),X2.o.below B35,hw5 ▸ BX.new w4 _ _,
    ⟨w3.heap.size,w4.heap.size,by have:=Hz3.o;omega,.inr aW,B5.size,fun b hb'=>.inl (HC0.o.lt b hb').2,hko.rkq.to B5.size (fun j _ h2=>B5.block j h2)⟩,HC0.o.below B35,hok,hko.sl,by have:=Hz3.o;omega⟩)
  obtain ⟨g6,OT⟩:∃ g,w4.heap.size=g:=⟨_,rfl⟩;rw [OT] at H;clear hko hb B5 B35 X0 X2 HC0 hok YJ Hz3 Bw;go_wp2_with fail
  try rw [hw5]
  try rw [OT]
  clear hw5 OT;obtain ⟨g4,hg4⟩:∃ g,w0.heap.size=g:=⟨_,rfl⟩
  try rw [hg4] at H ⊢
  clear hg4 s0 s1;go_loopw [7,19] (fun v i wr=>∃ (j:Nat) (q:Kx.Kernel×List Int) (u0 u1 u2 u3:Value),i=I_ j/\j<=cs.length/\TI ((cs.take j).foldl Kx.uK (k,[])=q)/\TI (PL_ w wr g4 g6 q.1 u0 u1 u2 u3 v q.2)) (fun _ i _=>cs.length - (intOf i).toNat)
  case atStart=>exact ⟨0,(k,[]),_,_,_,_,rfl,Nat.zero_le _,rfl,H⟩
  case round =>
   clear H;obtain ⟨j,q,u0,u1,u2,u3,rfl,hj,Hq,H⟩:=hrel;have ik:=af (show q.2.length=j by have:=Kx.play_len (cs.take j) k [];rw [Hq.o] at this;simp at this;omega);have hnl:cs.length<=1099511627776:=HL.o.1;obtain ⟨⟨b0,q0,z0,rfl⟩,⟨b1,q1,z1,rfl⟩,⟨b2,q2,z2,rfl⟩,⟨b3,q3,z3,rfl⟩⟩:=H.o.sl
   by_cases hlt:j<cs.length
   ·obtain ⟨bl,ol,xl,el,hbl,hq⟩:=RS.at (RS.below HL.o H.o.b) hlt;obtain ⟨rfl,_,rfl⟩:=Za el;clear el;have kQ:(j:Int)<(cs.length:Int):=by omega
    have Hcj:=af (Hcs.o cs[j] (List.getElem_mem hlt));have HT:=af (show (cs.take (j+1)).foldl Kx.uK (k,[])=Kx.uK q cs[j] by rw [Kx.play_succ cs k hlt,Hq.o]);generalize cs[j]=c at hq HT Hcj;obtain ⟨bQ,JF,ca,cb,cc,bg⟩:=c;have q0:wr.cell? ⟨bl,ol+j*6,none⟩=some (I_ bQ):=hq 0 _ rfl;have q1:wr.cell? ⟨bl,ol+j*6+1,none⟩=some (I_ JF):=hq 1 _ rfl;have q2:wr.cell? ⟨bl,ol+j*6+2,none⟩=some (I_ ca):=hq 2 _ rfl;have q3:wr.cell? ⟨bl,ol+j*6+3,none⟩=some (I_ cb):=hq 3 _ rfl;have q4:wr.cell? ⟨bl,ol+j*6+4,none⟩=some (I_ cc):=hq 4 _ rfl;have q5:wr.cell? ⟨bl,ol+j*6+5,none⟩=some (.string bg):=hq 5 _ rfl;clear hq;obtain ⟨w6,hw6⟩:∃ V,wr.alloc (.cells #[I_ bQ,I_ JF,I_ ca,I_ cb,I_ cc,.string bg] 59)=V:=⟨_,rfl⟩;have B6:Below wr.heap.size wr w6:=hw6 ▸ dm
    have X9:=af (show BX w6 wr.heap.size 59 [I_ bQ,I_ JF,I_ ca,I_ cb,I_ cc,.string bg] from hw6 ▸ BX.new wr _ _);have H6:=af (H.o.below B6);have c0:=X9.o.c6;clear B6;go_wp2_with fail
    try rw [hw6]
    refine (BR _ _).mono ?_;rintro en w9 ⟨rfl,rfl⟩;clear hw6 H q0 q1 q2 q3 q4 q5
    cases hin:Kx.bK JF 0 2 with
    | false =>
     have Hq1:=af (show (cs.take (j+1)).foldl Kx.uK (k,[])=(q.1,q.2 ++ [5]) by rw [HT.o];unfold Kx.uK;simp only [hin];rfl);clear hin HT c0;have uf:=af (show w.heap.size<=w6.heap.size from H6.o.b.size);have HA:=af (H6.o.below ((Below.refl w6.heap.size w6).alloc aW (.cells #[I_ 5] 3)));have hxl:=af (show q.2.length+1<=1099511627776 by have:=ik.o;omega);go_wp2_with (at_builtin;refine aV wK rfl _ _ rfl w.heap.size _ q.2 rfl (H6.o.o.os.alloc _) _ [(5:Int)] rfl (RS.one (f:=iR) (5:Int) #[I_ 5] rfl _ _) hxl.o (by simp;exact Nat.le_succ_of_le uf.o) ?_;intro v7 w8 xE J5 hv8;have H8:=af (HA.o.app xE J5 hv8);clear xE J5 hv8);go_roundw
     case rel=>exact ⟨j+1,_,_,_,_,_,by go_num,by omega,Hq1,H8⟩
     case measure=>simp [intOf];omega
    | true =>
     obtain ⟨he0,he2⟩:=Kx.ay.1 hin;obtain ⟨e,rfl⟩:=Int.eq_ofNat_of_zero_le he0;obtain ⟨r,hr⟩:=XP (Kx.cO q.1 ⟨bQ,(e:Int),ca,cb,cc,bg⟩);have Hq1:=af (show (cs.take (j+1)).foldl Kx.uK (k,[])=(r.1,q.2 ++ [r.2.2]) by rw [HT.o];unfold Kx.uK;simp only [hin,hr];rfl);have Ky:=af (show az r.1=true from hr ▸ nN.2 ((nN.1 H6.o.ok).cO _ hin));have HC:=af (hr ▸ ado q.1 ⟨bQ,(e:Int),ca,cb,cc,bg⟩ e _ _ _ _ w6 H6.o.rk H6.o.ok (jX H6.o.ok) rfl (by omega) Hcj.o.1 Hcj.o.2);unfold dW at HC;clear hin hr he0 he2 HT;have p0:=H6.o.x6.c4;go_wp2_with fail;refine HC.o.mono ?_;rintro en w7 ⟨_,_,_,_,rfl,hko,hb⟩;clear HC p0 c0;obtain ⟨⟨d0,WR,WS,rfl⟩,⟨d1,WT,WU,rfl⟩,⟨d2,WV,WW,rfl⟩,⟨d3,WX,WY,rfl⟩⟩:=hko.sl;have H7:=af (H6.o.call hb hko Ky.o)
     obtain ⟨r0,r1,r2,r3⟩:=(H6.o.x6.below hb).c4;obtain ⟨jh,ji,jk,jl⟩:=(H6.o.x6.below hb).f4;obtain ⟨V7,hV7⟩:=XP (sets w7 g6 0 [.slice d0 WR WS,.slice d1 WT WU,.slice d2 WV WW,.slice d3 WX WY]);rw [hV7] at H7;clear hko hb H6 X9;go_upto_region 11 with fail;rw [afA w7,hV7];clear r0 r1 r2 r3 jh ji jk jl hV7;have uf:=af (show w.heap.size<=V7.heap.size from H7.o.b.size);have HA:=af (H7.o.below ((Below.refl V7.heap.size V7).alloc aW (.cells #[I_ r.2.2] 3)));have hxl:=af (show q.2.length+1<=1099511627776 by have:=ik.o;omega)
     go_wp2_with (at_builtin;refine aV wK rfl _ _ rfl w.heap.size _ q.2 rfl (H7.o.o.os.alloc _) _ [(r.2.2:Int)] rfl (RS.one (f:=iR) (r.2.2:Int) #[I_ r.2.2] rfl _ _) hxl.o (by simp;exact Nat.le_succ_of_le uf.o) ?_;intro v7 w8 xE J5 hv8;have H8:=af (HA.o.app xE J5 hv8);clear xE J5 hv8);go_roundw
     case rel=>exact ⟨j+1,_,_,_,_,_,by go_num,by omega,Hq1,H8⟩
     case measure=>simp [intOf];omega
   obtain rfl:j=cs.length:=by omega
   rw [List.take_length] at Hq;have HO:=af (ad2 q.1 _ _ _ _ wr H.o.rk);have p0:=H.o.x6.c4;go_wp2_with fail;refine HO.o.mono ?_;rintro en w7 ⟨_,_,_,_,rfl,hko,hb⟩;obtain ⟨⟨d0,WR,WS,rfl⟩,⟨d1,WT,WU,rfl⟩,⟨d2,WV,WW,rfl⟩,⟨d3,WX,WY,rfl⟩⟩:=hko.sl;have H7:=af (H.o.below hb);have HKO:=af hko;have uf:=af H.o.b.size;have Js:=af (fun b hb=>(H.o.o.lt b hb).2)
   clear hko hb HO p0 H;obtain ⟨r0,r1,r2,r3⟩:=H7.o.x4.c4;obtain ⟨jh,ji,jk,jl⟩:=H7.o.x4.f4;go_wp2_with fail;obtain ⟨F,hF⟩:=XP (sets w7 g4 0 [.slice d0 WR WS,.slice d1 WT WU,.slice d2 WV WW,.slice d3 WX WY]);rw [afA w7,hF];have BF:Below w.heap.size w F:=hF ▸ dP H7.o.h.1 _ 0 H7.o.b;have XF_:BX F g4 28 [.slice d0 WR WS,.slice d1 WT WU,.slice d2 WV WW,.slice d3 WX WY]:=hF ▸ H7.o.x4.sets _ rfl;have KF_:KO F wr.heap.size (.slice d0 WR WS) (.slice d1 WT WU) (.slice d2 WV WW) (.slice d3 WX WY) q.1:=hF ▸ KO.sets aJ _ 0 H7.o.x4 HKO.o;have CF:OI F w.heap.size u7 q.2:=(hF ▸ OS.sets (by decide) _ 0 H7.o.x4 H7.o.o.os:OS iR 1 3 F w.heap.size u7 q.2).oi
   obtain ⟨e0,e1,e2,e3⟩:=XF_.c4;refine af7 (by simp [results,results23,go_sem,e0,e1,e2,e3]<;>rfl) ?_;rw [HF.o,Hq.o];exact ⟨_,_,_,_,_,_,rfl,uf.o,KF_,CF,Js.o,BF⟩

structure Few2 (k:Kx.Kernel):Prop where
 h:(Kx.markK 1 k).2<16777216
theorem few2_small {k:Kx.Kernel} (h:nK k<=1048576):Few2 k:=by
 constructor
 unfold nK at h;have h1:Kx.memN k.mem<=r_ k.mem:=by unfold Kx.memN r_;omega
 have h2:k.ag.length<=pR k.ag:=by unfold pR;omega
 have h3:Kx.envN k.ah<=uV k.ah:=by
  unfold Kx.envN uV;rw [Kx.sumL_add1];have:=Kx.sumL_mono (fun e:Kx.Env=>e.aB.length) (fun x=>lW x.aB) k.ah (fun x=>by unfold lW;omega);omega
 show 1+Kx.memN k.mem+3*(k.ag.length:Int)+Kx.envN k.ah+4*(k.cache.length:Int) < _
 omega
theorem few_play (k:Kx.Kernel) (cs:List Kx.Call):Few (QI k cs).1:=by
 constructor
 unfold QI;split
 ·decide
 rename_i h
 have h1:az k=true:=by simpa using h
 have key:∀ (cs:List Kx.Call) (s:Kx.Kernel×List Int),Kx.Ok s.1->Kx.Ok (cs.foldl Kx.uK s).1:=by
  intro cs
  induction cs with
  | nil=>intro s h;exact h
  | cons c cs ih =>
   intro s h;refine ih _ ?_;unfold Kx.uK;split
   ·rename_i he;exact Kx.Ok.cO h c he
   exact h
 exact marks_ok (nN.2 (key cs (k,[]) (nN.1 h1)))
theorem nMkC:¬ Mk 59:=by unfold Mk;decide
theorem few_nn (k:Kx.Kernel):0<=(Kx.markK 1 k).2:=by
 have:=few_pos k
 omega
theorem OI.off {T:TypeId->Prop} {lo hi:Nat} {w w':World} {base:Nat} {v:Value} {l:List Int} (h:OI w base v l) (hb:Btw T lo hi w w') (hh:¬ T 3):OI w' base v l:=(h.os.off hb hh).oi
theorem OI.low {T:TypeId->Prop} {lo hi:Nat} {w w':World} {base:Nat} {v:Value} {l:List Int} (h:OI w base v l) (hb:Btw T lo hi w w') (hh:∀ b,v.ownBlock=some b->b<lo):OI w' base v l:=(h.os.same fun g hg=>hb.b.block g (hh g hg)).oi
theorem KH_.btw {T:TypeId->Prop} {lo hi:Nat} {w w':World} {base top:Nat} {um ui ue uc:Value} {k:Kx.Kernel} (h:KH_ w base top um ui ue uc k) (hb:Btw T lo hi w w') (hh:hi<=base):KH_ w' base top um ui ue uc k:=
 ⟨h.m.btw hb hh,h.i.btw hb hh,h.iu,h.e.btw hb hh,h.c.btw hb hh,h.cu⟩
theorem KO.off {T:TypeId->Prop} {lo hi:Nat} {w w':World} {base:Nat} {um ui ue uc:Value} {k:Kx.Kernel} (h:KO w base um ui ue uc k) (hb:Btw T lo hi w w') (h1:¬ T 29) (h2:¬ T 3) (h3:¬ T 98) (h4:¬ T 86) (h5:¬ T 9) (h6:¬ T 103):KO w' base um ui ue uc k:=
 ⟨(h.m.off hb h1 h2).mono aW hb.b.size,h.i.off hb h3,(h.e.off hb h4 h5).mono aW hb.b.size,h.c.off hb h6⟩
end Go.Proofs.YthcmmoibpgcgaaaGreatDoor
namespace Go.Proofs.YthcmmoibpgcgaaaGreatDoor
open Go.RowKit Go.ChangeShapes Go.WideShapes Go.Deep Kx

theorem rd_calls {H:Type} {enc:TypeId×Value->H} {w:World} {base:Nat} {spare:Nat->Bool} {held:Bool} {fuel:Nat} {v:Value} {y:DataW H×List MemPlace} (h:DataW.trod enc prog w base spare held fuel 73 [v]=some y) :
  ∃ l:List Kx.Call,RW Lc 6 w v l/\∀ x ∈ l,x.name.size<=9223372036854775807/\x.c<=9223372036854775807:=
 oQ (f:=Lc) (sz:=6) (fun x=>x.name.size<=9223372036854775807/\x.c<=9223372036854775807) underlying73 (by kernel_rfl) (fun _=>rfl) (by decide) (fun n cs z hz hl=>rd_call hz) h
end Go.Proofs.YthcmmoibpgcgaaaGreatDoor
