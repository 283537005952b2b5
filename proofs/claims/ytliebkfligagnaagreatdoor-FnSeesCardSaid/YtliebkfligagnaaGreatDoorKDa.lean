/- KD1, KD2, KD3, KD4, joined. -/
import Derived.Test.YtliebkfligagnaaGreatDoorKC25
set_option maxHeartbeats 8000000
set_option maxRecDepth 100000
set_option linter.all false
namespace Go.Proofs.YtliebkfligagnaaGreatDoor
open Go.RowKit
theorem pJ {s:Kx.Str} (h:Kx.bT s=true):s.size≤4:=by
 unfold Kx.bT at h;simp only [Bool.and_eq_true,decide_eq_true_eq] at h;exact h.2
theorem jX {k:Kx.Kernel} (h:Kx.az k=true):iQ k:=by
 obtain ⟨_,h2,h12,_,h3,_⟩:=aI h;refine ⟨fun x hx=>?_,fun e he s hs=>?_⟩
 ·obtain ⟨f,hf,rfl⟩:=Kx.BZ hx;rcases Kx.gZ.1 ((Kx.kz.1 h2).2 f (by omega)) with h0 | h0
  ·rw [h0];decide
  have:=pJ h0.2.2.1;omega
 have:=pJ ((Kx.gJ.1 (jW h e (by omega))).1 s hs)
 omega
def OC (w:World) (m:List (List Int)) (e:Ending) (w':World):Prop:=∃ u,e=.returned u∧OM w' w.heap.size w'.heap.size u m∧Below w.heap.size w w'
theorem Nr (w:World):Calls Tryz.prog 230 #[] w (OC w (List.replicate 12 [0,0,0,0])):=by
 have hmk:=Yx;go_enter Tryz.func230,Tryz.ntmps230;go_wp2_with fail;go_loopw [1,2] (fun out i wr=>∃ k:Nat,i=.int .i64 k∧k≤12∧Hid (OM wr w.heap.size wr.heap.size out (List.replicate k [0,0,0,0]))∧Hid (Below w.heap.size w wr)) (fun _ i _=>12 - (intOf i).toNat)
 case atStart=>exact ⟨0,rfl,Nat.zero_le _,(OM.d_ aW).mono aW (by simp),fZ.alloc aW _⟩
 case round =>
  obtain ⟨k,rfl,hk,ho,hb⟩:=hrel
  by_cases hlt:k<12
  ·have kQ:(k:Int)<12:=by omega
   have Dc:=af (show List.replicate (k+1) [(0:Int),0,0,0]=List.replicate k [0,0,0,0] ++ [[0,0,0,0]] from List.replicate_succ');have B1:Below wr.heap.size wr (wr.alloc (.cells #[.int .i64 0,.int .i64 0,.int .i64 0,.int .i64 0] 3)):=dm;have B2:Below wr.heap.size wr ((wr.alloc (.cells #[.int .i64 0,.int .i64 0,.int .i64 0,.int .i64 0] 3)).alloc (.cells #[.slice (some ⟨wr.heap.size,0,none⟩) 4 4] 47)):=Below.lit B1 _;have hN:OI ((wr.alloc (.cells #[.int .i64 0,.int .i64 0,.int .i64 0,.int .i64 0] 3)).alloc (.cells #[.slice (some ⟨wr.heap.size,0,none⟩) 4 4] 47)) wr.heap.size (dM ⟨some ⟨wr.heap.size,0,none⟩,4,4⟩) [0,0,0,0]:=
    ((OS.lit (l:=[0,0,0,0]) (f:=iR) (sz:=1) (e:=3) (w:=wr) (base:=wr.heap.size) aW _ rfl rfl (by simp)).below (dm)).oi
   obtain ⟨ss,hsl,hos,hpush⟩:=(ho.out.below B2).push hb.out.size ⟨some ⟨wr.heap.size,0,none⟩,4,4⟩ [0,0,0,0] hN;have zL:=af hos;have Hp:=af hpush;have hyl:=af (show ss.length+1≤1099511627776 by rw [List.length_replicate] at hsl;omega);have Bw:=af (hb.out.trans (B2.mono hb.out.size));have hz3:=af (show w.heap.size≤((wr.alloc (.cells #[.int .i64 0,.int .i64 0,.int .i64 0,.int .i64 0] 3)).alloc (.cells #[.slice (some ⟨wr.heap.size,0,none⟩) 4 4] 47)).heap.size from Nat.le_trans hb.out.size B2.size);clear hos hpush hsl hN B1 B2;have hR:=af (show RS rO 1 ((wr.alloc (.cells #[.int .i64 0,.int .i64 0,.int .i64 0,.int .i64 0] 3)).alloc (.cells #[.slice (some ⟨wr.heap.size,0,none⟩) 4 4] 47)) (.slice (some ⟨wr.heap.size+1,0,none⟩) 1 1) [(⟨some ⟨wr.heap.size,0,none⟩,4,4⟩:qj)] from by
    have h:=RS.one (f:=rO) (sz:=1) ⟨some ⟨wr.heap.size,0,none⟩,4,4⟩ #[.slice (some ⟨wr.heap.size,0,none⟩) 4 4] rfl (wr.alloc (.cells #[.int .i64 0,.int .i64 0,.int .i64 0,.int .i64 0] 3)) 47;rw [World.size_alloc] at h;exact h)
   go_wp2_with (at_builtin;refine aV Kt rfl _ _ rfl w.heap.size _ ss rfl zL.out _ [(⟨some ⟨wr.heap.size,0,none⟩,4,4⟩:qj)] rfl (hR.out) hyl.out hz3.out ?_;intro v3 w4 iV hg4 _;have kH:=af iV;have rU:=af hg4;clear iV hg4);go_roundw
   case rel =>
    refine ⟨k+1,by go_num,by omega,?_,?_⟩
    ·show OM _ _ _ _ _;rw [Dc.out];exact Hp.out _ _ kH.out rU.out
    exact Below.dN Bw.out zL.out rU.out aW hz3.out
   case measure=>simp [intOf];omega
  obtain rfl:k=12:=by omega
  go_wp2_with fail;go_ret;exact ⟨_,rfl,ho.out,hb.out⟩
theorem Ku (w:World):Calls Tryz.prog 231 #[] w (OC w (List.replicate 16 [])):=by
 go_enter Tryz.func231,Tryz.ntmps231;go_wp2_with fail;go_loopw [1,2] (fun out i wr=>∃ k:Nat,i=.int .i64 k∧k≤16∧Hid (OM wr w.heap.size wr.heap.size out (List.replicate k []))∧Hid (Below w.heap.size w wr)) (fun _ i _=>16 - (intOf i).toNat)
 case atStart=>exact ⟨0,rfl,Nat.zero_le _,(OM.d_ aW).mono aW (by simp),fZ.alloc aW _⟩
 case round =>
  obtain ⟨k,rfl,hk,ho,hb⟩:=hrel
  by_cases hlt:k<16
  ·have kQ:(k:Int)<16:=by omega
   have Dc:=af (show List.replicate (k+1) ([]:List Int)=List.replicate k [] ++ [[]] from List.replicate_succ');have B1:Below wr.heap.size wr (wr.alloc (.cells #[] 3)):=dm;have B2:Below wr.heap.size wr ((wr.alloc (.cells #[] 3)).alloc (.cells #[.slice (some ⟨wr.heap.size,0,none⟩) 0 0] 47)):=Below.lit B1 _;have hN:OI ((wr.alloc (.cells #[] 3)).alloc (.cells #[.slice (some ⟨wr.heap.size,0,none⟩) 0 0] 47)) wr.heap.size (dM ⟨some ⟨wr.heap.size,0,none⟩,0,0⟩) []:=
    (OI.d_ aW).below (dm)
   obtain ⟨ss,hsl,hos,hpush⟩:=(ho.out.below B2).push hb.out.size ⟨some ⟨wr.heap.size,0,none⟩,0,0⟩ [] hN;have zL:=af hos;have Hp:=af hpush;have hyl:=af (show ss.length+1≤1099511627776 by rw [List.length_replicate] at hsl;omega);have Bw:=af (hb.out.trans (B2.mono hb.out.size));have hz3:=af (show w.heap.size≤((wr.alloc (.cells #[] 3)).alloc (.cells #[.slice (some ⟨wr.heap.size,0,none⟩) 0 0] 47)).heap.size from Nat.le_trans hb.out.size B2.size);clear hos hpush hsl hN B1 B2;have hR:=af (show RS rO 1 ((wr.alloc (.cells #[] 3)).alloc (.cells #[.slice (some ⟨wr.heap.size,0,none⟩) 0 0] 47)) (.slice (some ⟨wr.heap.size+1,0,none⟩) 1 1) [(⟨some ⟨wr.heap.size,0,none⟩,0,0⟩:qj)] from by
    have h:=RS.one (f:=rO) (sz:=1) ⟨some ⟨wr.heap.size,0,none⟩,0,0⟩ #[.slice (some ⟨wr.heap.size,0,none⟩) 0 0] rfl (wr.alloc (.cells #[] 3)) 47;rw [World.size_alloc] at h;exact h)
   go_wp2_with (at_builtin;refine aV Kt rfl _ _ rfl w.heap.size _ ss rfl zL.out _ [(⟨some ⟨wr.heap.size,0,none⟩,0,0⟩:qj)] rfl (hR.out) hyl.out hz3.out ?_;intro v3 w4 iV hg4 _;have kH:=af iV;have rU:=af hg4;clear iV hg4);go_roundw
   case rel =>
    refine ⟨k+1,by go_num,by omega,?_,?_⟩
    ·show OM _ _ _ _ _;rw [Dc.out];exact Hp.out _ _ kH.out rU.out
    exact Below.dN Bw.out zL.out rU.out aW hz3.out
   case measure=>simp [intOf];omega
  obtain rfl:k=16:=by omega
  go_wp2_with fail;go_ret;exact ⟨_,rfl,ho.out,hb.out⟩
def OD (w:World) (v:Value) (m:List (List Kx.Str)):Prop:=∃ vs:List Value,vs.length=m.length∧RS yL 1 w v vs∧∀ i (h:i<vs.length) (h':i<m.length),dK w vs[i] m[i]
theorem OD.at {w:World} {v:Value} {m:List (List Kx.Str)} (h:OD w v m) {k:Nat} (hk:k<m.length) :
  ∃ b off cap u,v=.slice (some ⟨b,off,none⟩) m.length cap∧b<w.heap.size∧w.cell? ⟨b,off+k,none⟩=some u∧dK w u m[k]:=by
 obtain ⟨vs,hl,hs,hr⟩:=h;have hk':k<vs.length:=by omega
 obtain ⟨b,off,cap,e,hb,hc⟩:=hs.at hk';rw [hl] at e;have:=hc 0 _ rfl;rw [Nat.mul_one,Nat.add_zero] at this;exact ⟨b,off,cap,_,e,hb,this,hr k hk' hk⟩
theorem OD.below {w w':World} {v:Value} {m:List (List Kx.Str)} (h:OD w v m) (hb:Below w.heap.size w w'):OD w' v m:=by
 obtain ⟨vs,hl,hs,hr⟩:=h;exact ⟨vs,hl,RS.below hs hb,fun i h h'=>RS.below (hr i h h') hb⟩
theorem WA (w:World):(Instr.makeSlice 32 (.int .i64 12) (.int .i64 12)).run Tryz.prog w=.ok (.slice (some ⟨w.heap.size,0,none⟩) 12 12) (w.alloc (.cells (flat bH (List.replicate 12 Kx.aG.zero)).toArray 108)):=by kernel_rfl
def Kr (w:World) (k:Kx.Kernel) (more:List Value) (en:Ending) (w':World):Prop:=
 ∃ um ui ue uc,en=.returned (.tuple (.agg #[um,ui,ue,uc] :: more).toArray)∧KO w' w.heap.size um ui ue uc k∧Below w.heap.size w w'
theorem wU (rs:List (List Kx.Str)) (v:Value) (w:World) (h:OD w v rs) (h3:rs.length=3) (hok:∀ r ∈ rs,Kx.aS r=true) :
  Calls Tryz.prog 179 #[v] w (Kr w (Kx.jd rs) [.bool true]):=by
 obtain ⟨bv,fv,cv,ev0⟩:∃ bv fv cv,v=.slice (some ⟨bv,fv,none⟩) rs.length cv:=by obtain ⟨bv,fv,cv,_,ev0,_⟩:=h.at (k:=0) (by omega);exact ⟨bv,fv,cv,ev0⟩
 rw [h3] at ev0;subst ev0;obtain ⟨w1,hw1⟩:∃ w1,w.alloc (.cells #[.slice none 0 0,.slice none 0 0,.slice none 0 0,.slice none 0 0] 36)=w1:=⟨_,rfl⟩;have Bw:=af (show Below w.heap.size w w1 from hw1 ▸ dm);have X1:=af (show BX w1 w.heap.size 36 [.slice none 0 0,.slice none 0 0,.slice none 0 0,.slice none 0 0] from (hw1 ▸ BX.new w _ _:BX w1 _ _ _));have s1:w.heap.size<w1.heap.size:=by rw [←hw1];simp
 have HR:=af h;have bF:=af hok;have H3:=af h3;obtain ⟨d,hd1⟩:∃ d,w1.drew=d:=⟨_,rfl⟩;have Bd:Below w1.heap.size w1 d:=hd1 ▸ Below.bz fZ;have Hd:=af hd1;clear hd1;have wO:=af (Bw.out.trans (Bd.mono Bw.out.size));have lX:=af Bd;have hmk:=WA;clear h hok Bd h3;go_enter Tryz.func179,Tryz.ntmps179;go_wp2_with fail;refine uu (S:=(fun _:World=>True)) (xs:=[6]) (by kernel_rfl) (by exact trivial) (fun hHeld=>?_);rw [Hd.out]
 refine qC (J:=fun a0 l a W=>∃ (b0 b1 b2 b3 b4 b5:Bool) (v6 v7 v8 v9 v10 v4:Value),l=#[b0,b1,b2,b3,b4,b5,false]∧a=aT a0 [(6,v6),(7,v7),(8,v8),(9,v9),(10,v10),(4,v4)]∧Hid (Below d.heap.size d W)∧Hid (b0=true→OM W d.heap.size W.heap.size v6 (List.replicate 12 [0,0,0,0]))∧Hid (b1=true→OS bH 3 108 W d.heap.size v7 (List.replicate 12 Kx.aG.zero))∧Hid (b2=true→OE W d.heap.size W.heap.size v8 [])∧Hid (b3=true→OS b_ 4 112 W d.heap.size v9 [])∧Hid (b4=true→(b0=true∧b1=true∧b2=true∧b3=true)∧v10=.agg #[v6,v7,v8,v9])∧Hid (b5=true→∃ g,v4=.pointer (some ⟨g,0,none⟩)∧d.heap.size≤g∧BX W g 36 [.slice none 0 0,.slice none 0 0,.slice none 0 0,.slice none 0 0]))
  (rs:=[0,1,2,3,4,5]) (ts:=[]) (xs:=[6]) (by kernel_rfl) (by kernel_rfl) (by kernel_rfl) ?hts ?hS ?hend ?hs _ _ _ (by kernel_rfl) ?h0
 case hts=>rintro l a W ⟨b0,b1,b2,b3,b4,b5,v6,v7,v8,v9,v10,v4,rfl,rfl,f0,g0,g1,g2,g3,g4,g5⟩;exact ⟨rfl,rfl⟩
 case hS=>rintro l a W ⟨b0,b1,b2,b3,b4,b5,v6,v7,v8,v9,v10,v4,rfl,rfl,f0,g0,g1,g2,g3,g4,g5⟩;exact trivial
 case h0=>exact ⟨false,false,false,false,false,false,undef,undef,undef,undef,undef,undef,rfl,(by simp only [aT,List.foldl,Act.put,List.getElem_toArray,List.getElem_cons_zero,List.getElem_cons_succ,List.setIfInBounds_toArray,List.set_cons_zero,List.set_cons_succ]),af fZ,af nofun,af nofun,af nofun,af nofun,af nofun,af nofun⟩
 case hs =>
  refine .cons rfl ?o0 (.cons rfl ?o1 (.cons rfl ?o2 (.cons rfl ?o3 (.cons rfl ?o4 (.cons rfl ?o5 (.nil))))))
  case o0 =>
   rintro l a W ⟨b0,b1,b2,b3,b4,b5,v6,v7,v8,v9,v10,v4,rfl,rfl,f0,g0,g1,g2,g3,g4,g5⟩ h0 hd K hK;obtain rfl:b0=false:=h0;clear hd;rw [if_pos (by rfl)];simp only [aT,List.foldl,Act.put,List.getElem_toArray,List.getElem_cons_zero,List.getElem_cons_succ,List.setIfInBounds_toArray,List.set_cons_zero,List.set_cons_succ];go_simp;go_at_call 230;refine (Nr W).mono ?_;rintro en W2 ⟨u,rfl,ho,hb⟩
   exact hK.out _ _ ⟨true,b1,b2,b3,b4,b5,u,v7,v8,v9,v10,v4,rfl,(by simp only [aT,List.foldl,Act.put,List.getElem_toArray,List.getElem_cons_zero,List.getElem_cons_succ,List.setIfInBounds_toArray,List.set_cons_zero,List.set_cons_succ]),af (f0.out.trans (hb.mono f0.out.size)),af (fun _=>ho.mono f0.out.size aW),af (fun h=>(g1.out h).below hb),af (fun h=>((g2.out h).below hb).mono aW hb.size),af (fun h=>(g3.out h).below hb),af (fun h=>absurd (g4.out h).1.1 (by decide)),af (fun h=>by obtain ⟨g,e,h1,h2⟩:=g5.out h;exact ⟨g,e,h1,h2.below hb⟩)⟩
  case o1 =>
   rintro l a W ⟨b0,b1,b2,b3,b4,b5,v6,v7,v8,v9,v10,v4,rfl,rfl,f0,g0,g1,g2,g3,g4,g5⟩ h0 hd K hK;obtain rfl:b1=false:=h0;clear hd;rw [if_pos (by rfl)];simp only [aT,List.foldl,Act.put,List.getElem_toArray,List.getElem_cons_zero,List.getElem_cons_succ,List.setIfInBounds_toArray,List.set_cons_zero,List.set_cons_succ];go_simp;have hb:Below W.heap.size W (W.alloc (.cells (flat bH (List.replicate 12 Kx.aG.zero)).toArray 108)):=dm
   exact hK.out _ _ ⟨b0,true,b2,b3,b4,b5,v6,.slice (some ⟨W.heap.size,0,none⟩) 12 12,v8,v9,v10,v4,rfl,(by simp only [aT,List.foldl,Act.put,List.getElem_toArray,List.getElem_cons_zero,List.getElem_cons_succ,List.setIfInBounds_toArray,List.set_cons_zero,List.set_cons_succ]),af (f0.out.trans (hb.mono f0.out.size)),af (fun h=>(g0.out h).go hb),af (fun _=>OS.lit f0.out.size _ rfl rfl (by simp)),af (fun h=>((g2.out h).below hb).mono aW hb.size),af (fun h=>(g3.out h).below hb),af (fun h=>absurd (g4.out h).1.2.1 (by decide)),af (fun h=>by obtain ⟨g,e,h1,h2⟩:=g5.out h;exact ⟨g,e,h1,h2.below hb⟩)⟩
  case o2 =>
   rintro l a W ⟨b0,b1,b2,b3,b4,b5,v6,v7,v8,v9,v10,v4,rfl,rfl,f0,g0,g1,g2,g3,g4,g5⟩ h0 hd K hK;obtain rfl:b2=false:=h0;clear hd;rw [if_pos (by rfl)];simp only [aT,List.foldl,Act.put,List.getElem_toArray,List.getElem_cons_zero,List.getElem_cons_succ,List.setIfInBounds_toArray,List.set_cons_zero,List.set_cons_succ];go_simp;have hb:Below W.heap.size W (W.alloc (.cells #[] 64)):=dm
   exact hK.out _ _ ⟨b0,b1,true,b3,b4,b5,v6,v7,.slice (some ⟨W.heap.size,0,none⟩) 0 0,v9,v10,v4,rfl,(by simp only [aT,List.foldl,Act.put,List.getElem_toArray,List.getElem_cons_zero,List.getElem_cons_succ,List.setIfInBounds_toArray,List.set_cons_zero,List.set_cons_succ]),af (f0.out.trans (hb.mono f0.out.size)),af (fun h=>(g0.out h).go hb),af (fun h=>(g1.out h).below hb),af (fun _=>(OE.d_ f0.out.size).mono aW (by simp)),af (fun h=>(g3.out h).below hb),af (fun h=>absurd (g4.out h).1.2.2.1 (by decide)),af (fun h=>by obtain ⟨g,e,h1,h2⟩:=g5.out h;exact ⟨g,e,h1,h2.below hb⟩)⟩
  case o3 =>
   rintro l a W ⟨b0,b1,b2,b3,b4,b5,v6,v7,v8,v9,v10,v4,rfl,rfl,f0,g0,g1,g2,g3,g4,g5⟩ h0 hd K hK;obtain rfl:b3=false:=h0;clear hd;rw [if_pos (by rfl)];simp only [aT,List.foldl,Act.put,List.getElem_toArray,List.getElem_cons_zero,List.getElem_cons_succ,List.setIfInBounds_toArray,List.set_cons_zero,List.set_cons_succ];go_simp;have hb:Below W.heap.size W (W.alloc (.cells #[] 112)):=dm
   exact hK.out _ _ ⟨b0,b1,b2,true,b4,b5,v6,v7,v8,.slice (some ⟨W.heap.size,0,none⟩) 0 0,v10,v4,rfl,(by simp only [aT,List.foldl,Act.put,List.getElem_toArray,List.getElem_cons_zero,List.getElem_cons_succ,List.setIfInBounds_toArray,List.set_cons_zero,List.set_cons_succ]),af (f0.out.trans (hb.mono f0.out.size)),af (fun h=>(g0.out h).go hb),af (fun h=>(g1.out h).below hb),af (fun h=>((g2.out h).below hb).mono aW hb.size),af (fun _=>OS.d_ f0.out.size),af (fun h=>absurd (g4.out h).1.2.2.2 (by decide)),af (fun h=>by obtain ⟨g,e,h1,h2⟩:=g5.out h;exact ⟨g,e,h1,h2.below hb⟩)⟩
  case o4 =>
   rintro l a W ⟨b0,b1,b2,b3,b4,b5,v6,v7,v8,v9,v10,v4,rfl,rfl,f0,g0,g1,g2,g3,g4,g5⟩ h0 hd K hK;obtain rfl:b4=false:=h0;obtain rfl:b0=true:=hd 0 (by kernel_rfl);obtain rfl:b1=true:=hd 1 (by kernel_rfl);obtain rfl:b2=true:=hd 2 (by kernel_rfl);obtain rfl:b3=true:=hd 3 (by kernel_rfl);clear hd;rw [if_pos (by rfl)];simp only [aT,List.foldl,Act.put,List.getElem_toArray,List.getElem_cons_zero,List.getElem_cons_succ,List.setIfInBounds_toArray,List.set_cons_zero,List.set_cons_succ];obtain ⟨_,a6,c6,e6,_,_⟩:=(g0.out rfl).rm.len;obtain rfl:v6=.slice a6 12 c6:=e6;obtain ⟨a7,c7,e7,_,_⟩:=RS.val (g1.out rfl).rs;obtain rfl:v7=.slice a7 12 c7:=e7;obtain ⟨_,a8,c8,e8,_,_⟩:=(g2.out rfl).re.len;obtain rfl:v8=.slice a8 0 c8:=e8;obtain ⟨a9,c9,e9,_,_⟩:=RS.val (g3.out rfl).rs;obtain rfl:v9=.slice a9 0 c9:=e9;go_simp
   exact hK.out _ _ ⟨true,true,true,true,true,b5,_,_,_,_,.agg #[.slice a6 12 c6,.slice a7 12 c7,.slice a8 0 c8,.slice a9 0 c9],v4,rfl,(by simp only [aT,List.foldl,Act.put,List.getElem_toArray,List.getElem_cons_zero,List.getElem_cons_succ,List.setIfInBounds_toArray,List.set_cons_zero,List.set_cons_succ]),f0,g0,g1,g2,g3,af (fun _=>⟨⟨rfl,rfl,rfl,rfl⟩,rfl⟩),g5⟩
  case o5 =>
   rintro l a W ⟨b0,b1,b2,b3,b4,b5,v6,v7,v8,v9,v10,v4,rfl,rfl,f0,g0,g1,g2,g3,g4,g5⟩ h0 hd K hK;obtain rfl:b5=false:=h0;clear hd;rw [if_pos (by rfl)];simp only [aT,List.foldl,Act.put,List.getElem_toArray,List.getElem_cons_zero,List.getElem_cons_succ,List.setIfInBounds_toArray,List.set_cons_zero,List.set_cons_succ];go_simp;have hb:Below W.heap.size W (W.alloc (.cells #[.slice none 0 0,.slice none 0 0,.slice none 0 0,.slice none 0 0] 36)):=dm
   exact hK.out _ _ ⟨b0,b1,b2,b3,b4,true,v6,v7,v8,v9,v10,.pointer (some ⟨W.heap.size,0,none⟩),rfl,(by simp only [aT,List.foldl,Act.put,List.getElem_toArray,List.getElem_cons_zero,List.getElem_cons_succ,List.setIfInBounds_toArray,List.set_cons_zero,List.set_cons_succ]),af (f0.out.trans (hb.mono f0.out.size)),af (fun h=>(g0.out h).go hb),af (fun h=>(g1.out h).below hb),af (fun h=>((g2.out h).below hb).mono aW hb.size),af (fun h=>(g3.out h).below hb),g4,af (fun _=>⟨_,rfl,f0.out.size,BX.new W _ _⟩)⟩
 case hend =>
  rintro l a W ⟨b0,b1,b2,b3,b4,b5,v6,v7,v8,v9,v10,v4,rfl,rfl,f0,g0,g1,g2,g3,g4,g5⟩ hall hHeld;obtain rfl:b0=true:=hall 0 (by rfl);obtain rfl:b1=true:=hall 1 (by rfl);obtain rfl:b2=true:=hall 2 (by rfl);obtain rfl:b3=true:=hall 3 (by rfl);obtain rfl:b4=true:=hall 4 (by rfl);obtain rfl:b5=true:=hall 5 (by rfl);clear hall;obtain ⟨g,rfl,hg,hx⟩:=g5.out rfl;obtain ⟨_,rfl⟩:=g4.out rfl;have hBs:=wO.out.size;have hgB:w.heap.size≤g:=Nat.le_trans hBs hg;have hO:=af (show KO W w.heap.size v6 v7 v8 v9 ⟨List.replicate 12 [0,0,0,0],List.replicate 12 Kx.aG.zero,[],[]⟩ from ⟨(g0.out rfl).mono hBs aW,(g1.out rfl).mono hBs,(g2.out rfl).mono hBs aW,(g3.out rfl).mono hBs⟩);obtain ⟨_,a6,c6,e6,_,_⟩:=(g0.out rfl).rm.len;obtain rfl:v6=.slice a6 12 c6:=e6;obtain ⟨a7,c7,e7,_,_⟩:=RS.val (g1.out rfl).rs;obtain rfl:v7=.slice a7 12 c7:=e7;obtain ⟨_,a8,c8,e8,_,_⟩:=(g2.out rfl).re.len
  obtain rfl:v8=.slice a8 0 c8:=e8;obtain ⟨a9,c9,e9,_,_⟩:=RS.val (g3.out rfl).rs;obtain rfl:v9=.slice a9 0 c9:=e9;have hB:=af (((((wO.out.trans (f0.out.mono hBs)).setCell (p:=⟨g,0,none⟩) hgB (.slice a6 12 c6)).setCell (p:=⟨g,1,none⟩) hgB (.slice a7 12 c7)).setCell (p:=⟨g,2,none⟩) hgB (.slice a8 0 c8)).setCell (p:=⟨g,3,none⟩) hgB (.slice a9 0 c9));have hsz1:w1.heap.size≤d.heap.size:=lX.out.size;have hb1:Below w1.heap.size w1 W:=lX.out.trans (f0.out.mono hsz1);have hn1:w.heap.size≠g:=by omega
  replace X1:=af (show BX ((((W.setCell ⟨g,0,none⟩ (.slice a6 12 c6)).setCell ⟨g,1,none⟩ (.slice a7 12 c7)).setCell ⟨g,2,none⟩ (.slice a8 0 c8)).setCell ⟨g,3,none⟩ (.slice a9 0 c9)) w.heap.size 36 _ from ((((X1.out.below hb1).other hn1 0 _).other hn1 1 _).other hn1 2 _).other hn1 3 _);have hZ:=af (show BX ((((W.setCell ⟨g,0,none⟩ (.slice a6 12 c6)).setCell ⟨g,1,none⟩ (.slice a7 12 c7)).setCell ⟨g,2,none⟩ (.slice a8 0 c8)).setCell ⟨g,3,none⟩ (.slice a9 0 c9)) g 36 [.slice a6 12 c6,.slice a7 12 c7,.slice a8 0 c8,.slice a9 0 c9] from (((hx.set 0 _).set 1 _).set 2 _).set 3 _);replace hO:=af (KO.box (KO.box (KO.box (KO.box hO.out hx aJ 0 (.slice a6 12 c6)) (hx.set 0 _) aJ 1 (.slice a7 12 c7)) ((hx.set 0 _).set 1 _) aJ 2 (.slice a8 0 c8)) (((hx.set 0 _).set 1 _).set 2 _) aJ 3 (.slice a9 0 c9));obtain ⟨r0,r1,r2,r3⟩:=hx.c4;obtain ⟨jh,ji,jk,jl⟩:=hx.f4
  clear f0 g0 g1 g2 g3 g4 g5 hx lX hb1 hHeld Bw;change wpAnyL _ _ _ _ _ _ 1 _ _ _;simp only [aT,List.foldl,Act.put,List.getElem_toArray,List.getElem_cons_zero,List.getElem_cons_succ,List.setIfInBounds_toArray,List.set_cons_zero,List.set_cons_succ];refine lN 6 (by rfl) (by kernel_rfl) rfl (fun K hK=>?_);rw [if_pos (by rfl)];go_simp;refine hK.out _ _ ?_;clear hK K;refine nL ?_;refine gY (by kernel_rfl) ?_ _;obtain ⟨V,hV⟩:∃ V,((((W.setCell ⟨g,0,none⟩ (.slice a6 12 c6)).setCell ⟨g,1,none⟩ (.slice a7 12 c7)).setCell ⟨g,2,none⟩ (.slice a8 0 c8)).setCell ⟨g,3,none⟩ (.slice a9 0 c9))=V:=⟨_,rfl⟩;rw [hV] at hB hZ X1 hO ⊢;have OG:=af hn1;have WB:=af hgB;clear hV r0 r1 r2 r3 jh ji jk jl hn1 hgB hg hsz1 hBs Hd hmk;go_wp2_with fail
  go_loopw [5] (fun i wr=>∃ (j:Nat) (ue:Value),i=.int .i64 j∧j≤3∧Hid (KO wr w.heap.size (.slice a6 12 c6) (.slice a7 12 c7) ue (.slice a9 0 c9) ⟨List.replicate 12 [0,0,0,0],List.replicate 12 Kx.aG.zero,(rs.take j).map fun r=>⟨r,-1⟩,[]⟩)∧Hid (BX wr g 36 [.slice a6 12 c6,.slice a7 12 c7,ue,.slice a9 0 c9])∧Hid (BX wr w.heap.size 36 [.slice none 0 0,.slice none 0 0,.slice none 0 0,.slice none 0 0])∧Hid (Below w.heap.size w wr)) (fun i _=>3 - (intOf i).toNat)
  case atStart=>exact ⟨0,_,rfl,Nat.zero_le _,hO,hZ,X1,hB⟩
  case round =>
   clear hO hZ X1 hB;obtain ⟨j,ue,rfl,hj,hO,hZ,X1,hB⟩:=hrel
   by_cases hlt:j<3
   ·have kQ:(j:Int)<3:=by omega
    have hlr:j<rs.length:=by rw [H3.out];exact hlt
    obtain ⟨b,off,cap1,u,ev,hwb,q0,m_⟩:=HR.out.at (k:=j) hlr;rw [H3.out] at ev;simp only [Value.slice.injEq,Option.some.injEq,Addr.mk.injEq] at ev;obtain ⟨⟨rfl,rfl,_⟩,_,rfl⟩:=ev;have hro:=bF.out rs[j] (List.getElem_mem hlr);have Ns:=af (di rs[j] u wr (RS.below m_ hB.out) (fun x hx=>by have:=pJ ((Kx.gJ.1 hro).1 x hx);omega))
    have Dc:=af (show ((rs.take (j+1)).map fun r=>(⟨r,-1⟩:Kx.Env))=((rs.take j).map fun r=>⟨r,-1⟩) ++ [⟨rs[j],-1⟩] by rw [List.take_succ_eq_append_getElem hlr,List.map_append];rfl)
    have hrl:=af (show ([]:List Kx.Str).length+rs[j].length≤1099511627776 by have:=(Kx.gJ.1 hro).2.2;simp;omega);rw [hro] at Ns;replace m_:=RS.below m_ hB.out;obtain ⟨a5,c5,rfl,_,_⟩:=RS.val m_;have Jo:=af m_;clear m_ hro;generalize rs[j]=ws at q0 Jo Dc hrl Ns;have y0:=(hB.out.cell (p:=⟨bv,fv+j,none⟩) hwb).trans q0;go_wp2_with fail;refine Ns.out.mono ?_;rintro en w2 ⟨rfl,n2,rfl⟩;have hb0:Below wr.heap.size wr (wr.drewN n2):=IC wr n2;clear Ns y0;obtain ⟨wq,hwq⟩:∃ wq,wr.drewN n2=wq:=⟨_,rfl⟩;rw [hwq] at hb0 ⊢;clear hwq;replace hZ:=af (hZ.out.below hb0);replace X1:=af (X1.out.below hb0);replace hO:=af (hO.out.below hb0);replace hB:=af (hB.out.trans (hb0.mono hB.out.size));replace Jo:=af (RS.below Jo.out hb0);clear hb0;obtain ⟨_,a1,c1,rfl,_,_⟩:=hO.out.e.re.len
    have hel:((rs.take j).map fun r=>(⟨r,-1⟩:Kx.Env)).length≤3:=by rw [List.length_map];exact Nat.le_trans (List.length_take_le j rs) (by omega)
    have z2:=hZ.out.cell 2;simp only [List.getElem?_cons_zero,List.getElem?_cons_succ] at z2;have hbl:bv<wq.heap.size:=Nat.lt_of_lt_of_le hwb hB.out.size;have z0:=(hB.out.cell (p:=⟨bv,fv+j,none⟩) hwb).trans q0;generalize hen:((rs.take j).map fun r=>(⟨r,-1⟩:Kx.Env)).length=en at hZ hO z2
    obtain ⟨W5,AU⟩:∃ W5,wq.drew=W5:=⟨_,rfl⟩;have B5:Below wq.heap.size wq W5:=AU ▸ Below.bz fZ;have Qe:=af AU;have hs5:wq.heap.size≤W5.heap.size:=B5.size;have Hs:=af (show ∀ W,Below wq.heap.size wq W→W.cell? ⟨bv,fv+j,none⟩=some (.slice a5 ws.length c5)∧W.cell? ⟨g,2,none⟩=some (.slice a1 en c1) from fun W hb=>⟨(hb.cell (p:=⟨bv,fv+j,none⟩) hbl).trans z0,(hb.cell (p:=⟨g,2,none⟩) hZ.out.lt).trans z2⟩)
    have B6:Below wq.heap.size wq (W5.alloc (.cells #[] 9)):=Below.lit B5 _;have hBw:=af (show w.heap.size≤wq.heap.size from hB.out.size);clear AU;go_wp2_with fail;refine uu (S:=(fun W:World=>W.cell? ⟨bv,fv+j,none⟩=some (.slice a5 ws.length c5)∧W.cell? ⟨g,2,none⟩=some (.slice a1 en c1))) (xs:=[12]) (by kernel_rfl) (by rw [Qe.out];exact Hs.out _ B5) (fun hHeld=>?_)
    rw [Qe.out];rw [Qe.out] at hHeld;refine tL 0 ?_;refine tL 1 ?_;refine tL 3 ?_;refine tL 4 ?_;refine tL 5 ?_;refine tL 6 ?_;refine lI 2 (by kernel_rfl) rfl (fun K hK=>?_);rw [if_pos (by rfl)];go_simp;refine hK.out _ _ ?_ (fun hHeld=>?_)
    ·exact Hs.out _ B6
    clear hK K;refine nL ?_;refine lI 7 (by kernel_rfl) rfl (fun K hK=>?_);refine aU gX rfl _ _ rfl W5.heap.size _ [] rfl (OS.d_ aW) _ ws rfl (RS.below Jo.out B6) hrl.out (by simp) ?_;intro v2 w2 ho2 hg2 _;have B7:Below wq.heap.size wq w2:=Below.dN B6 (OS.d_ (f:=df) (sz:=1) aW) hg2 hs5 (by simp;omega);rw [List.nil_append] at ho2;obtain ⟨a8',OH,rfl,_,_⟩:=RS.val ho2.rs;have l7:=af ho2;clear hg2 ho2;refine hK.out _ _ ?_ (fun hHeld=>?_)
    ·exact Hs.out _ B7
    clear hK K;refine nL ?_;refine tL 8 ?_;refine lI 9 (by kernel_rfl) rfl (fun K hK=>?_);rw [if_pos (by rfl)];go_simp;have B8:Below wq.heap.size wq (w2.alloc (.cells #[.slice a8' ws.length OH,.int .i64 (-1)] 64)):=Below.lit B7 _;have TL:Below w2.heap.size w2 (w2.alloc (.cells #[.slice a8' ws.length OH,.int .i64 (-1)] 64)):=dm;obtain ⟨ss,hsl,hos,hp⟩:=hO.out.Gv hBw.out B8 ⟨a8',ws.length,OH⟩ (-1) ws ((l7.out.below TL).mono hs5);have zL:=af hos;have Hp:=af hp;have hyl:=af (show ss.length+1≤1099511627776 by have h1:ss.length=((rs.take j).map fun r=>(⟨r,-1⟩:Kx.Env)).length:=hsl;omega)
    have hb8:=af (show w.heap.size≤(w2.alloc (.cells #[.slice a8' ws.length OH,.int .i64 (-1)] 64)).heap.size from Nat.le_trans hBw.out B8.size);clear hos hp hsl TL;refine hK.out _ _ ?_ (fun hHeld=>?_)
    ·exact Hs.out _ B8
    clear hK K;refine nL ?_;refine lI 10 (by kernel_rfl) rfl (fun K hK=>?_);refine aU OJ rfl _ _ rfl w.heap.size _ ss rfl zL.out _ [((⟨a8',ws.length,OH⟩:qj),-1)] rfl (RS.one (f:=jG) ((⟨a8',ws.length,OH⟩:qj),-1) #[.slice a8' ws.length OH,.int .i64 (-1)] rfl w2 _) hyl.out hb8.out ?_;intro v4 w4 iV hg4 _;replace hO:=af (Hp.out w4 v4 iV hg4);replace hZ:=af ((hZ.out.below B8).dw zL.out hg4 (by decide));replace X1:=af ((X1.out.below B8).dw zL.out hg4 (by decide));replace hB:=af (Below.dN (hB.out.trans (B8.mono hBw.out)) zL.out hg4 aW hb8.out);have hc3:=hZ.out.cell 2;have hcf:=hZ.out.frozen 2;have hw2:=(hB.out.cell (p:=⟨bv,fv+j,none⟩) hwb).trans q0;simp only [List.getElem?_cons_zero,List.getElem?_cons_succ] at hc3;obtain ⟨a4,c4,rfl,_,_⟩:=RS.val iV.rs;clear iV hg4;generalize (ss ++ [((⟨a8',ws.length,OH⟩:qj),(-1:Int))]).length=nl at *
    refine hK.out _ _ ?_ (fun hHeld=>?_)
    ·exact ⟨hw2,hc3⟩
    clear hK K;refine nL ?_;refine tL 11 ?_;refine lN 12 (by rfl) (by kernel_rfl) rfl (fun K hK=>?_);rw [if_pos (by rfl)];go_simp;refine hK.out _ _ ?_;clear hK K;refine nL ?_;refine gY (by kernel_rfl) ?_ _;have qo:=af (show KO (w4.setCell ⟨g,2,none⟩ (.slice a4 nl c4)) w.heap.size _ _ _ _ ⟨List.replicate 12 [0,0,0,0],List.replicate 12 Kx.aG.zero,(rs.take (j+1)).map fun r=>⟨r,-1⟩,[]⟩ from by rw [Dc.out];exact hO.out.box hZ.out aJ 2 _)
    have HZ:=af (hZ.out.set 2 (.slice a4 nl c4));have Q8:=af (X1.out.other OG.out 2 (.slice a4 nl c4));have HB:=af (hB.out.setCell (p:=⟨g,2,none⟩) WB.out (.slice a4 nl c4));go_wp2_with fail;go_roundw
    case rel=>exact ⟨j+1,_,by go_num,by omega,qo,HZ,Q8,HB⟩
    case measure=>simp [intOf];omega
   obtain rfl:j=3:=by omega
   have OL:=af (show KO wr w.heap.size _ _ ue _ (Kx.jd rs) from by have:=hO.out;rw [show rs.take 3=rs by rw [←H3.out];exact List.take_length] at this;exact this);obtain ⟨_,a5,c5,e5,_,_⟩:=OL.out.e.re.len;obtain rfl:ue=.slice a5 3 c5:=by rw [e5];simp [Kx.jd,H3.out]
   obtain ⟨z0,z1,z2,z3⟩:=hZ.out.c4;obtain ⟨r0,r1,r2,r3⟩:=X1.out.c4;obtain ⟨jh,ji,jk,jl⟩:=X1.out.f4;clear hO e5;go_wp2_with fail;obtain ⟨e0,e1,e2,e3,hB4,hK4⟩:=fG X1.out rfl (Kept.of hB.out aW) ⟨Nat.le_refl _,Nat.le_refl _⟩ (.slice a6 12 c6) (.slice a7 12 c7) (.slice a5 3 c5) (.slice a9 0 c9);refine bodyPost_ret (v:=.tuple #[.agg #[.slice a6 12 c6,.slice a7 12 c7,.slice a5 3 c5,.slice a9 0 c9],.bool true]) (by simp [results,Tryz.results179,go_sem,e0,e1,e2,e3]) rfl ?_;exact ⟨_,_,_,_,rfl,hK4 rfl _ _ _ _ _ OL.out,hB4.b⟩
theorem BX.WC {w:World} {g t:Nat} {cs:List Value} (h:BX w g t cs) (hl:cs.length=4) (a b c d:Value):BX ((((w.setCell ⟨g,0,none⟩ a).setCell ⟨g,1,none⟩ b).setCell ⟨g,2,none⟩ c).setCell ⟨g,3,none⟩ d) g t [a,b,c,d]:=by
 match cs,hl with
 | [x0,x1,x2,x3],_=>exact (((h.set 0 a).set 1 b).set 2 c).set 3 d
theorem BX.YH {w:World} {g g' t:Nat} {cs:List Value} (h:BX w g t cs) (hn:g≠g') (a b c d:Value):BX ((((w.setCell ⟨g',0,none⟩ a).setCell ⟨g',1,none⟩ b).setCell ⟨g',2,none⟩ c).setCell ⟨g',3,none⟩ d) g t cs:=
 (((h.other hn 0 a).other hn 1 b).other hn 2 c).other hn 3 d
theorem KO.WC {w:World} {base g t:Nat} {cs:List Value} {um ui ue uc:Value} {k:Kx.Kernel} (hO:KO w base um ui ue uc k) (h:BX w g t cs) (ht:Box? t) (a b c d:Value):KO ((((w.setCell ⟨g,0,none⟩ a).setCell ⟨g,1,none⟩ b).setCell ⟨g,2,none⟩ c).setCell ⟨g,3,none⟩ d) base um ui ue uc k:=
 KO.box (KO.box (KO.box (KO.box hO h ht 0 a) (h.set 0 a) ht 1 b) ((h.set 0 a).set 1 b) ht 2 c) (((h.set 0 a).set 1 b).set 2 c) ht 3 d
theorem Qg {B g:Nat} {a w:World} (h:Below B a w) (hg:B≤g) (x y z u:Value):Below B a ((((w.setCell ⟨g,0,none⟩ x).setCell ⟨g,1,none⟩ y).setCell ⟨g,2,none⟩ z).setCell ⟨g,3,none⟩ u):=
 (((h.setCell (p:=⟨g,0,none⟩) hg x).setCell (p:=⟨g,1,none⟩) hg y).setCell (p:=⟨g,2,none⟩) hg z).setCell (p:=⟨g,3,none⟩) hg u
theorem Nu:Kx.sA.size≤9223372036854775807:=by decide
theorem gW (k:Kx.Kernel) (kd a b c:Int) (vm vi ve vc:Value) (w:World) (h:RK w vm vi ve vc k) (hok:Kx.az k=true) :
  Calls Tryz.prog 232 #[.agg #[vm,vi,ve,vc],.int .i64 kd,.int .i64 a,.int .i64 b,.int .i64 c] w (Kr w (Kx.bJ k kd a b c).1 [.int .i64 (Kx.bJ k kd a b c).2.1,.bool ((Kx.bJ k kd a b c).2.2==0)]):=by
 obtain ⟨_,am,cm,rfl,_,_⟩:=h.m.len;obtain ⟨ai,ci,rfl,_,_⟩:=RS.val h.i;obtain ⟨_,ae,ce,rfl,_,_⟩:=h.e.len;obtain ⟨ac,cq,rfl,_,_⟩:=RS.val h.c;obtain ⟨w0,hw0⟩:∃ w0,w.alloc (.cells #[.slice am k.mem.length cm,.slice ai k.ag.length ci,.slice ae k.ah.length ce,.slice ac k.cache.length cq] 36)=w0:=⟨_,rfl⟩;obtain ⟨w1,hw1⟩:∃ w1,w0.alloc (.cells #[.slice none 0 0,.slice none 0 0,.slice none 0 0,.slice none 0 0] 36)=w1:=⟨_,rfl⟩;have B0:Below w.heap.size w w0:=hw0 ▸ dm;have B1:Below w0.heap.size w0 w1:=hw1 ▸ dm;have bw:Below w.heap.size w w1:=B0.trans (B1.mono B0.size);have Bw:=af bw;have X0:=(show BX w1 w.heap.size 36 _ from (hw0 ▸ BX.new w _ _:BX w0 _ _ _).below B1);have X1:=af (show BX w1 w0.heap.size 36 [.slice none 0 0,.slice none 0 0,.slice none 0 0,.slice none 0 0] from (hw1 ▸ BX.new w0 _ _:BX w1 _ _ _));have s0:w.heap.size<w0.heap.size:=by rw [←hw0];simp
 have s1:w0.heap.size<w1.heap.size:=by rw [←hw1];simp
 have HC:=af (show Calls Tryz.prog 42 #[.agg #[.slice am k.mem.length cm,.slice ai k.ag.length ci,.slice ae k.ah.length ce,.slice ac k.cache.length cq],.agg #[.int .i64 kd,.int .i64 0,.int .i64 a,.int .i64 b,.int .i64 c,.string ⟨#[97]⟩]] w1 (JE w1 (Kx.bJ k kd a b c)) from
  Ap k ⟨kd,0,a,b,c,Kx.sA⟩ 0 _ _ _ _ w1 ⟨h.m.below bw,RS.below h.i bw,h.e.below bw,RS.below h.c bw⟩ hok (jX hok) rfl (by decide) Nu)
 obtain ⟨p0,p1,p2,p3⟩:=BX.c4 X0;clear h hok B0 B1 bw X0;generalize Kx.bJ k kd a b c=r at HC ⊢;go_enter Tryz.func232,Tryz.ntmps232;go_wp2_with fail;refine HC.out.mono ?_;rintro en w2 ⟨um,ui,ue,uc,rfl,ho,hb⟩;replace X1:=af (X1.out.below hb);replace Bw:=af (Bw.out.trans (hb.mono Bw.out.size));obtain ⟨⟨a0,n0,m0,rfl⟩,⟨a1,n1,m1,rfl⟩,⟨a2,n2,m2,rfl⟩,⟨a3,n3,m3,rfl⟩⟩:=ho.sl;have HO:=af ho;have s2:w1.heap.size≤w2.heap.size:=hb.size;clear ho hb HC p0 p1 p2 p3;have B3:Below w2.heap.size w2 (w2.alloc (.cells #[.slice a0 n0 m0,.slice a1 n1 m1,.slice a2 n2 m2,.slice a3 n3 m3] 36)):=dm;replace X1:=af (X1.out.below B3);replace HO:=af (HO.out.below B3);replace Bw:=af (Bw.out.trans (B3.mono Bw.out.size));obtain ⟨e0,e1,e2,e3,hB4,hK4⟩:=fG X1.out rfl (Kept.of Bw.out aW) ⟨by omega,by omega⟩ (.slice a0 n0 m0) (.slice a1 n1 m1) (.slice a2 n2 m2) (.slice a3 n3 m3)
 have E:=af (And.intro e0 (And.intro e1 (And.intro e2 e3)));have HB4:=af hB4;have HK4:=af (hK4 rfl _ _ _ _ _ (HO.out.mono (show w.heap.size≤w1.heap.size by omega)));obtain ⟨r0,r1,r2,r3⟩:=X1.out.c4;obtain ⟨jh,ji,jk,jl⟩:=X1.out.f4;clear e0 e1 e2 e3 hB4 hK4 B3 hw0 hw1;go_wp2_with fail;obtain ⟨e0,e1,e2,e3⟩:=E.out;refine bodyPost_ret (v:=.tuple #[.agg #[.slice a0 n0 m0,.slice a1 n1 m1,.slice a2 n2 m2,.slice a3 n3 m3],.int .i64 r.2.1,.bool (r.2.2==0)]) (by simp [results,Tryz.results232,go_sem,e0,e1,e2,e3]) rfl ?_;exact ⟨_,_,_,_,rfl,HK4.out,HB4.out.b⟩
def sets (w:World) (g:Nat):Nat→List Value→World
 | _,[]=>w
 | i,v :: l=>sets (w.setCell ⟨g,i,none⟩ v) g (i+1) l
theorem BX.iq {g g' t:Nat} {cs:List Value} (hn:g≠g'):∀ (l:List Value) (i:Nat) {w:World},BX w g t cs→BX (sets w g' i l) g t cs
 | [],_,_,h=>h
 | v :: l,i,_,h=>BX.iq hn l (i+1) (h.other hn i v)
theorem BX.OO {g t:Nat}:∀ (l:List Value) (i:Nat) {cs:List Value} {w:World},BX w g t cs→i+l.length=cs.length→BX (sets w g i l) g t (cs.take i ++ l)
 | [],i,cs,_,h,hl=>by
  rw [List.take_of_length_le (by simp at hl;omega),List.append_nil];exact h
 | v :: l,i,cs,w,h,hl=>by
  have h2:=BX.OO l (i+1) (h.set i v) (by simp at hl ⊢;omega);have e:(cs.set i v).take (i+1)=cs.take i ++ [v]:=by
   rw [List.take_succ_eq_append_getElem (by simp at hl ⊢;omega),List.getElem_set_self,List.take_set_of_le (Nat.le_refl i)]
  rw [e,List.append_assoc] at h2;exact h2
theorem BX.sets {w:World} {g t:Nat} {cs:List Value} (h:BX w g t cs) (l:List Value) (hl:l.length=cs.length):BX (sets w g 0 l) g t l:=by
 have:=BX.OO l 0 h (by omega)
 simpa using this
theorem OS.sets {α:Type} {f:α→List Value} {sz g t:Nat} {e:TypeId} {base:Nat} {v:Value} {xs:List α} (ht:e≠t):∀ (l:List Value) (i:Nat) {cs:List Value} {w:World},BX w g t cs→OS f sz e w base v xs→OS f sz e (sets w g i l) base v xs
 | [],_,_,_,_,h=>h
 | x :: l,i,_,w,hb,h=>OS.sets ht l (i+1) (hb.set i x) (h.dh (aK w g i x) hb ht)
theorem OM.sets {g t base hi:Nat} {u:Value} {m:List (List Int)} (h1:47≠t) (h2:3≠t):∀ (l:List Value) (i:Nat) {cs:List Value} {w:World},BX w g t cs→OM w base hi u m→OM (sets w g i l) base hi u m
 | [],_,_,_,_,h=>h
 | x :: l,i,_,w,hb,h=>OM.sets h1 h2 l (i+1) (hb.set i x) (h.dh (aK w g i x) hb h1 h2)
theorem KO.sets {g t base:Nat} {um ui ue uc:Value} {k:Kx.Kernel} (ht:Box? t):∀ (l:List Value) (i:Nat) {cs:List Value} {w:World},BX w g t cs→KO w base um ui ue uc k→KO (sets w g i l) base um ui ue uc k
 | [],_,_,_,_,h=>h
 | x :: l,i,_,_,hb,h=>KO.sets ht l (i+1) (hb.set i x) (h.box hb ht i x)
theorem dP {B g:Nat} {a:World} (hg:B≤g):∀ (l:List Value) (i:Nat) {w:World},Below B a w→Below B a (sets w g i l)
 | [],_,_,h=>h
 | x :: l,i,_,h=>dP hg l (i+1) (h.setCell (p:=⟨g,i,none⟩) hg x)
theorem kD {g:Nat}:∀ (l:List Value) (i:Nat) (w:World),(sets w g i l).heap.size=w.heap.size
 | [],_,_=>rfl
 | x :: l,i,w=>by
  rw [show sets w g i (x :: l)=sets (w.setCell ⟨g,i,none⟩ x) g (i+1) l from rfl,kD l (i+1)];simp [World.setCell]
theorem iZ:Box? 168:=by decide
theorem WE (w:World):(Instr.makeSlice 166 (.int .i64 16) (.int .i64 16)).run Tryz.prog w=.ok (.slice (some ⟨w.heap.size,0,none⟩) 16 16) (w.alloc (.cells (flat jr (List.replicate 16 Kx.dV.zero)).toArray 252)):=by kernel_rfl
theorem WG {W:World} {a b c:Kx.Str} {n1 n2 n3:Nat} (h1:n1=W.heap.size+1) (h2:n2=W.heap.size+2) (h3:n3=W.heap.size+3) :
  OD ((((W.alloc (.cells #[.string a] 9)).alloc (.cells #[.string b] 9)).alloc (.cells #[.string c] 9)).alloc (.cells #[.slice (some ⟨W.heap.size,0,none⟩) 1 1,.slice (some ⟨n1,0,none⟩) 1 1,.slice (some ⟨n2,0,none⟩) 1 1] 62)) (.slice (some ⟨n3,0,none⟩) 3 3) [[a],[b],[c]]:=by
 subst h1 h2 h3;obtain ⟨W1,e1⟩:∃ W1,W.alloc (.cells #[.string a] 9)=W1:=⟨_,rfl⟩;obtain ⟨W2,e2⟩:∃ W2,W1.alloc (.cells #[.string b] 9)=W2:=⟨_,rfl⟩;obtain ⟨W3,e3⟩:∃ W3,W2.alloc (.cells #[.string c] 9)=W3:=⟨_,rfl⟩;have z1:W1.heap.size=W.heap.size+1:=by rw [←e1];simp
 have z2:W2.heap.size=W.heap.size+2:=by rw [←e2];simp;omega
 have z3:W3.heap.size=W.heap.size+3:=by rw [←e3];simp;omega
 have q1:RS df 1 W1 (.slice (some ⟨W.heap.size,0,none⟩) 1 1) [a]:=e1 ▸ RS.one (f:=df) a #[.string a] rfl W _;have q2:RS df 1 W2 (.slice (some ⟨W1.heap.size,0,none⟩) 1 1) [b]:=e2 ▸ RS.one (f:=df) b #[.string b] rfl W1 _;have q3:RS df 1 W3 (.slice (some ⟨W2.heap.size,0,none⟩) 1 1) [c]:=e3 ▸ RS.one (f:=df) c #[.string c] rfl W2 _;have b2:Below W1.heap.size W1 W2:=e2 ▸ dm;have b3:Below W2.heap.size W2 W3:=e3 ▸ dm;rw [e1,e2,e3];have b4:Below W3.heap.size W3 (W3.alloc (.cells #[.slice (some ⟨W.heap.size,0,none⟩) 1 1,.slice (some ⟨W.heap.size+1,0,none⟩) 1 1,.slice (some ⟨W.heap.size+2,0,none⟩) 1 1] 62)):=dm;rw [z1] at q2;rw [z2] at q3;have hc:=(BX.new W3 62 #[.slice (some ⟨W.heap.size,0,none⟩) 1 1,.slice (some ⟨W.heap.size+1,0,none⟩) 1 1,.slice (some ⟨W.heap.size+2,0,none⟩) 1 1]);rw [z3] at hc
 refine ⟨[.slice (some ⟨W.heap.size,0,none⟩) 1 1,.slice (some ⟨W.heap.size+1,0,none⟩) 1 1,.slice (some ⟨W.heap.size+2,0,none⟩) 1 1],rfl,⟨by simp,.inr ⟨W.heap.size+3,0,3,rfl,Nat.le_refl _,by unfold maxLen;omega,hc.lt,fun k hk j u hu=>?_⟩⟩,fun i h h'=>?_⟩
 ·have hj:j=0:=by
   cases j with
   | zero=>rfl
   | succ j=>simp [yL] at hu
  subst hj;simp only [List.length_cons,List.length_nil] at hk;have:=hc.cell k;rw [show (0:Nat)+k*1+0=k by omega];rw [this];simpa [yL,hk] using hu
 simp only [List.length_cons,List.length_nil] at h;have hi:i=0∨i=1∨i=2:=by omega
 rcases hi with rfl | rfl | rfl
 ·exact RS.below (RS.below (RS.below q1 b2) b3) b4
 ·exact RS.below (RS.below q2 b3) b4
 exact RS.below q3 b4
theorem iF {k:Kx.Kernel} (h:Kx.az k=true) (kd a b c:Int):Kx.az (Kx.bJ k kd a b c).1=true:=Kx.nN.2 ((Kx.nN.1 h).cO _ rfl)
def qK (w:World) (base:Nat) (u:Value):Prop:=∃ ss:List qj,ss.length=16∧OS rO 1 47 w base u ss∧∀ s ∈ ss,s.n=0∧(s.a=none→s.c=0)
theorem qK.of {w:World} {base hi:Nat} {u:Value} (h:OM w base hi u (List.replicate 16 [])):qK w base u:=by
 obtain ⟨ss,hl,ho,hr,_⟩:=h;rw [List.length_replicate] at hl;refine ⟨ss,hl,ho.1,fun s hs=>?_⟩
 obtain ⟨i,hi,rfl⟩:=List.getElem_of_mem hs;have h1:=(hr i hi (by simp;omega)).1.ri;rw [List.getElem_replicate] at h1;rcases h1.2 with ⟨_,a,cap,e,hn⟩ | ⟨b,off,cap,e,_,_⟩
 ·unfold dM at e;simp only [Value.slice.injEq] at e;exact ⟨e.2.1,fun h=>by rw [e.2.2];exact hn (e.1 ▸ h)⟩
 unfold dM at e;simp only [Value.slice.injEq,List.length_nil] at e;exact ⟨e.2.1,fun h=>by rw [e.1] at h;cases h⟩
theorem qK.rm {w:World} {base:Nat} {u:Value} (h:qK w base u):RM w u (List.replicate 16 []):=by
 obtain ⟨ss,hl,ho,hs⟩:=h;refine ⟨ss.map dM,by simp [hl],ho.rs.map dM (fun _=>rfl),fun i h h'=>?_⟩
 have hi:i<ss.length:=by simpa using h
 obtain ⟨h1,h2⟩:=hs _ (List.getElem_mem hi);rw [List.getElem_replicate];refine ⟨by simp,.inl ⟨rfl,ss[i].a,ss[i].c,?_,h2⟩⟩;simp only [List.getElem_map,dM,h1]
structure PB (w W:World) (g4 g6:Nat) (us ul up:Value) (low:List Int) (lim:Int) (c4:List Value):Prop where
 x2:BX W w.heap.size 168 [.slice none 0 0,.slice none 0 0,.slice none 0 0,.slice none 0 0,.slice none 0 0,.slice none 0 0,.slice none 0 0,.int .i64 0,.int .i64 0]
 x4:BX W g4 36 c4
 x6:BX W g6 168 [.slice none 0 0,.slice none 0 0,.slice none 0 0,.slice none 0 0,us,ul,up,.int .i64 0,.int .i64 lim]
 s:qK W w.heap.size us
 l:OI W w.heap.size ul low
 p:OS jr 3 252 W w.heap.size up (List.replicate 16 Kx.dV.zero)
 b:Below w.heap.size w W
 h:w.heap.size<g4∧w.heap.size<g6∧g4≠g6
section
variable {w W V:World} {g4 g6:Nat} {us ul up:Value} {low:List Int} {lim:Int} {c4:List Value}
theorem PB.below (h:PB w W g4 g6 us ul up low lim c4) (hb:Below W.heap.size W V):PB w V g4 g6 us ul up low lim c4:=
 ⟨h.x2.below hb,h.x4.below hb,h.x6.below hb,by obtain ⟨ss,h1,h2,h3⟩:=h.s;exact ⟨ss,h1,h2.below hb,h3⟩,h.l.below hb,h.p.below hb,h.b.trans (hb.mono h.b.size),h.h⟩
theorem PB.other (h:PB w W g4 g6 us ul up low lim c4) {g:Nat} {cs:List Value} (hx:BX W g 36 cs) (h4:g4≠g) (hg:w.heap.size<g) (l:List Value):PB w (sets W g 0 l) g4 g6 us ul up low lim c4:=by
 have h6:g6≠g:=fun e=>by
  have h1:W.heap[g6]?=some _:=h.x6;have h2:W.heap[g]?=some _:=hx;rw [e,h2] at h1;simp at h1
 exact ⟨h.x2.iq (by omega) l 0,h.x4.iq h4 l 0,h.x6.iq h6 l 0,by obtain ⟨ss,h1,h2,h3⟩:=h.s;exact ⟨ss,h1,OS.sets (by decide) l 0 hx h2,h3⟩,(OS.sets (by decide) l 0 hx h.l.os).oi,OS.sets (by decide) l 0 hx h.p,dP (by omega) l 0 h.b,h.h⟩
theorem PB.turn (h:PB w W g4 g6 us ul up low lim c4) (l:List Value) (hl:l.length=c4.length):PB w (sets W g4 0 l) g4 g6 us ul up low lim l:=
 ⟨h.x2.iq (by have:=h.h;omega) _ 0,h.x4.sets _ hl,h.x6.iq (Ne.symm h.h.2.2) _ 0,by obtain ⟨ss,h1,h2,h3⟩:=h.s;exact ⟨ss,h1,OS.sets (by decide) l 0 h.x4 h2,h3⟩,(OS.sets (by decide) _ 0 h.x4 h.l.os).oi,OS.sets (by decide) _ 0 h.x4 h.p,dP (by have:=h.h;omega) _ 0 h.b,h.h⟩
theorem PB.app (h:PB w W g4 g6 us ul up low lim c4) (hg:W.grownBy V ul.ownBlock) {OQ:Value} {TM:List Int} (ho:OI V w.heap.size OQ TM):PB w (V.setCell ⟨g6,5,none⟩ OQ) g4 g6 us OQ up TM lim c4:=by
 have x6:BX V g6 _ _:=h.x6.dw h.l.os hg (by decide);have x2:BX V w.heap.size _ _:=h.x2.dw h.l.os hg (by decide);have x4:BX V g4 _ _:=h.x4.dw h.l.os hg (by decide);have OT:=aK V g6 5 OQ;refine ⟨x2.other (by have:=h.h;omega) 5 OQ,x4.other h.h.2.2 5 OQ,x6.set 5 OQ,?_,(ho.os.dh OT x6 (by decide)).oi,(h.p.dw h.l.os hg (by decide)).dh OT x6 (by decide),(Below.dN h.b h.l.os hg aW h.b.size).setCell (p:=⟨g6,5,none⟩) (by have:=h.h;show w.heap.size≤g6;omega) OQ,h.h⟩;obtain ⟨ss,h1,h2,h3⟩:=h.s;exact ⟨ss,h1,(h2.dw h.l.os hg (by decide)).dh OT x6 (by decide),h3⟩
end
theorem KO.J9 {w w':World} {base:Nat} {row:Option Nat} {um ui ue uc:Value} {k:Kx.Kernel} (h:KO w base um ui ue uc k) (hg:w.grownBy w' row) (hr:∀ g,row=some g→g<base):KO w' base um ui ue uc k:=by
 have hS:∀ {α:Type} {f:α→List Value} {sz:Nat} {e:TypeId} {v:Value} {l:List α},OS f sz e w base v l→OS f sz e w' base v l:=fun {_ _ _ _ v _} h1=>h1.kept hg (by
  cases hv:v.ownBlock with
  | none=>exact .inl rfl
  | some g=>exact .inr fun e=>by have h2:=hr g e.symm;have h3:=(h1.lt g hv).1;omega)
 obtain ⟨⟨ss,hl,ho,hq,hs⟩,hi,⟨ss',hl',ho',hq',hs'⟩,hc⟩:=h;exact ⟨⟨ss,hl,⟨hS ho.1,ho.2.mono hg.size⟩,fun i a b=>⟨(hS (hq i a b).1.os).oi,(hq i a b).2.1.mono hg.size,(hq i a b).2.2⟩,hs⟩,hS hi,⟨ss',hl',⟨hS ho'.1,ho'.2.mono hg.size⟩,fun i a b=>⟨(hq' i a b).1,hS (hq' i a b).2.1,(hq' i a b).2.2.1.mono hg.size,(hq' i a b).2.2.2⟩,hs'⟩,hS hc⟩
def Up (base:Nat) (w V:World):Prop:=w.heap.size≤V.heap.size∧∀ k,base≤k→k<w.heap.size→V.heap[k]?=w.heap[k]?
theorem Up.refl (base:Nat) (w:World):Up base w w:=⟨Nat.le_refl _,fun _ _ _=>rfl⟩
theorem Up.trans {base:Nat} {a b c:World} (h:Up base a b) (h':Up base b c):Up base a c:=⟨Nat.le_trans h.1 h'.1,fun k h1 h2=>(h'.2 k h1 (Nat.lt_of_lt_of_le h2 h.1)).trans (h.2 k h1 h2)⟩
theorem Up.of {base:Nat} {a b:World} (h:Below a.heap.size a b):Up base a b:=⟨h.size,fun k _ h2=>h.block k h2⟩
theorem Up.grown {base:Nat} {a b:World} {row:Option Nat} (h:a.grownBy b row) (hr:∀ g,row=some g→g<base):Up base a b:=⟨h.size,fun k h1 h2=>h.block k h2 (fun e=>by have:=hr k e.symm;omega)⟩
theorem OS.up {α:Type} {f:α→List Value} {sz:Nat} {e:TypeId} {w V:World} {base:Nat} {v:Value} {l:List α} (h:OS f sz e w base v l) (hu:Up base w V):OS f sz e V base v l:=by
 refine ⟨⟨h.1.1,?_⟩,h.2⟩;rcases h.1.2 with hn | ⟨g,cap,cur,rfl,hbg,hg,r⟩
 ·exact .inl hn
 exact .inr ⟨g,cap,cur,rfl,hbg,by rw [hu.2 g hbg (Array.getElem?_eq_some_iff.1 hg).1];exact hg,r⟩
theorem OM.up {w V:World} {base hi:Nat} {u:Value} {m:List (List Int)} (h:OM w base hi u m) (hu:Up base w V):OM V base hi u m:=by
 obtain ⟨ss,hl,ho,hr,hs⟩:=h;exact ⟨ss,hl,⟨ho.1.up hu,ho.2⟩,fun i a b=>⟨((hr i a b).1.os.up hu).oi,(hr i a b).2⟩,hs⟩
theorem KO.up {w V:World} {base:Nat} {um ui ue uc:Value} {k:Kx.Kernel} (h:KO w base um ui ue uc k) (hu:Up base w V):KO V base um ui ue uc k:=by
 obtain ⟨hm,hi,⟨ss',hl',ho',hq',hs'⟩,hc⟩:=h;exact ⟨(hm.up hu).mono aW hu.1,hi.up hu,⟨ss',hl',⟨ho'.1.up hu,ho'.2.mono hu.1⟩,fun i a b=>⟨(hq' i a b).1,(hq' i a b).2.1.up hu,(hq' i a b).2.2.1.mono hu.1,(hq' i a b).2.2.2⟩,hs'⟩,hc.up hu⟩
theorem qK.up {w V:World} {base:Nat} {u:Value} (h:qK w base u) (hu:Up base w V):qK V base u:=by
 obtain ⟨ss,h1,h2,h3⟩:=h;exact ⟨ss,h1,h2.up hu,h3⟩
def IE (w:World) (base:Nat) (um ui ue uc us ul up:Value) (p:Kx.aH):Prop:=∀ V,Up base w V→RP V um ui ue uc us ul up p
theorem IE.rp {w:World} {base:Nat} {um ui ue uc us ul up:Value} {p:Kx.aH} (h:IE w base um ui ue uc us ul up p):RP w um ui ue uc us ul up p:=h w (Up.refl _ _)
theorem IE.up {w V:World} {base:Nat} {um ui ue uc us ul up:Value} {p:Kx.aH} (h:IE w base um ui ue uc us ul up p) (hu:Up base w V):IE V base um ui ue uc us ul up p:=fun U h'=>h U (hu.trans h')
def Gs (w:World) (p:Kx.aH) (more:List Value) (en:Ending) (w':World):Prop:=
 ∃ um ui ue uc us ul up,en=.returned (.tuple (bU um ui ue uc us ul up p.hand p.limit :: more).toArray)∧IE w' w.heap.size um ui ue uc us ul up p∧Below w.heap.size w w'
end Go.Proofs.YtliebkfligagnaaGreatDoor
