/- KD1, KD2, KD3, KD4, joined. -/
import Derived.Test.YtecnmehlbfklnaaGreatDoorKCf
set_option maxHeartbeats 8000000
set_option maxRecDepth 100000
set_option linter.all false
open List renaming getElem_toArray->A1,getElem_cons_zero->A2,getElem_cons_succ->A3,setIfInBounds_toArray->A4,set_cons_zero->A5,set_cons_succ->A6,getElem?_cons_zero->A9,getElem?_cons_succ->A',take_succ_eq_append_getElem->Ab,getElem_mem->Al,replicate->An,foldl->Ao
open Nat renaming le_trans->As,zero_le->Av,lt_of_lt_of_le->Ax,le_refl->Ay
open Go.Value renaming slice->A0
open Go.Proofs.Tryz
namespace Go.Proofs.YtecnmehlbfklnaaGreatDoor
open Go.RowKit Kx
theorem pJ {s:Kx.Str} (h:bT s=true):s.size<=4:=by
 unfold bT at h;simp only [Bool.and_eq_true,decide_eq_true_eq] at h;exact h.2
theorem jX {k:Kx.Kernel} (h:az k=true):iQ k:=by
 obtain ⟨_,h2,h12,_,h3,_⟩:=aI h;refine ⟨fun x hx=>?_,fun e he s hs=>?_⟩
 ·obtain ⟨f,hf,rfl⟩:=BZ hx;rcases gZ.1 ((kz.1 h2).2 f (by omega)) with h0 | h0
  ·rw [h0];decide
  have:=pJ h0.2.2.1;omega
 have:=pJ ((gJ.1 (jW h e (by omega))).1 s hs)
 omega
def OC (w:World) (m:List (List Int)) (e:Ending) (w':World):Prop:=∃ u,e=.returned u/\OM w' w.heap.size w'.heap.size u m/\Below w.heap.size w w'
theorem Nr (w:World):Calls prog 163 #[] w (OC w (An 12 [0,0,0,0])):=by
 have hmk:=Yx;go_enter func163,ntmps163;go_wp2_with fail;go_loopw [1,2] (fun out i wr=>∃ k:Nat,i=I_ k/\k<=12/\TI (OM wr w.heap.size wr.heap.size out (An k [0,0,0,0]))/\TI (Below w.heap.size w wr)) (fun _ i _=>12 - (intOf i).toNat)
 case atStart=>exact ⟨0,rfl,Av _,(OM.d_ aW).mono aW (by simp),fZ.alloc aW _⟩
 case round =>
  obtain ⟨k,rfl,hk,ho,hb⟩:=hrel
  by_cases hlt:k<12
  ·have kQ:(k:Int)<12:=by omega
   have Dc:=af (show An (k+1) [(0:Int),0,0,0]=An k [0,0,0,0] ++ [[0,0,0,0]] from List.replicate_succ');have B1:Below wr.heap.size wr (wr.alloc (.cells #[I_ 0,I_ 0,I_ 0,I_ 0] 3)):=dm;have B2:Below wr.heap.size wr ((wr.alloc (.cells #[I_ 0,I_ 0,I_ 0,I_ 0] 3)).alloc (.cells #[A0 (some ⟨wr.heap.size,0,none⟩) 4 4] 56)):=Below.lit B1 _;have hN:OI ((wr.alloc (.cells #[I_ 0,I_ 0,I_ 0,I_ 0] 3)).alloc (.cells #[A0 (some ⟨wr.heap.size,0,none⟩) 4 4] 56)) wr.heap.size (dM ⟨some ⟨wr.heap.size,0,none⟩,4,4⟩) [0,0,0,0]:=
    ((OS.lit (l:=[0,0,0,0]) (f:=iR) (sz:=1) (e:=3) (w:=wr) (base:=wr.heap.size) aW _ rfl rfl (by simp)).below (dm)).oi
   obtain ⟨ss,hsl,hos,hpush⟩:=(ho.o.below B2).push hb.o.size ⟨some ⟨wr.heap.size,0,none⟩,4,4⟩ [0,0,0,0] hN;have zL:=af hos;have Hp:=af hpush;have hyl:=af (show ss.length+1<=1099511627776 by rw [List.length_replicate] at hsl;omega);have Bw:=af (hb.o.trans (B2.mono hb.o.size));have hz3:=af (show w.heap.size<=((wr.alloc (.cells #[I_ 0,I_ 0,I_ 0,I_ 0] 3)).alloc (.cells #[A0 (some ⟨wr.heap.size,0,none⟩) 4 4] 56)).heap.size from As hb.o.size B2.size);clear hos hpush hsl hN B1 B2;have hR:=af (show RS rO 1 ((wr.alloc (.cells #[I_ 0,I_ 0,I_ 0,I_ 0] 3)).alloc (.cells #[A0 (some ⟨wr.heap.size,0,none⟩) 4 4] 56)) (A0 (some ⟨wr.heap.size+1,0,none⟩) 1 1) [(⟨some ⟨wr.heap.size,0,none⟩,4,4⟩:qj)] from by
    have h:=RS.one (f:=rO) (sz:=1) ⟨some ⟨wr.heap.size,0,none⟩,4,4⟩ #[A0 (some ⟨wr.heap.size,0,none⟩) 4 4] rfl (wr.alloc (.cells #[I_ 0,I_ 0,I_ 0,I_ 0] 3)) 56;rw [World.size_alloc] at h;exact h)
   go_wp2_with (at_builtin;refine aV Kt rfl _ _ rfl w.heap.size _ ss rfl zL.o _ [(⟨some ⟨wr.heap.size,0,none⟩,4,4⟩:qj)] rfl (hR.o) hyl.o hz3.o ?_;intro v3 w4 iV hg4 _;have kH:=af iV;have rU:=af hg4;clear iV hg4);go_roundw
   case rel =>
    refine ⟨k+1,by go_num,by omega,?_,?_⟩
    ·show OM _ _ _ _ _;rw [Dc.o];exact Hp.o _ _ kH.o rU.o
    exact Below.dN Bw.o zL.o rU.o aW hz3.o
   case measure=>simp [intOf];omega
  obtain rfl:k=12:=by omega
  go_wp2_with fail;go_ret;exact ⟨_,rfl,ho.o,hb.o⟩
theorem Ku (w:World):Calls prog 164 #[] w (OC w (An 16 [])):=by
 go_enter func164,ntmps164;go_wp2_with fail;go_loopw [1,2] (fun out i wr=>∃ k:Nat,i=I_ k/\k<=16/\TI (OM wr w.heap.size wr.heap.size out (An k []))/\TI (Below w.heap.size w wr)) (fun _ i _=>16 - (intOf i).toNat)
 case atStart=>exact ⟨0,rfl,Av _,(OM.d_ aW).mono aW (by simp),fZ.alloc aW _⟩
 case round =>
  obtain ⟨k,rfl,hk,ho,hb⟩:=hrel
  by_cases hlt:k<16
  ·have kQ:(k:Int)<16:=by omega
   have Dc:=af (show An (k+1) ([]:List Int)=An k [] ++ [[]] from List.replicate_succ');have B1:Below wr.heap.size wr (wr.alloc (.cells #[] 3)):=dm;have B2:Below wr.heap.size wr ((wr.alloc (.cells #[] 3)).alloc (.cells #[A0 (some ⟨wr.heap.size,0,none⟩) 0 0] 56)):=Below.lit B1 _;have hN:OI ((wr.alloc (.cells #[] 3)).alloc (.cells #[A0 (some ⟨wr.heap.size,0,none⟩) 0 0] 56)) wr.heap.size (dM ⟨some ⟨wr.heap.size,0,none⟩,0,0⟩) []:=
    (OI.d_ aW).below (dm)
   obtain ⟨ss,hsl,hos,hpush⟩:=(ho.o.below B2).push hb.o.size ⟨some ⟨wr.heap.size,0,none⟩,0,0⟩ [] hN;have zL:=af hos;have Hp:=af hpush;have hyl:=af (show ss.length+1<=1099511627776 by rw [List.length_replicate] at hsl;omega);have Bw:=af (hb.o.trans (B2.mono hb.o.size));have hz3:=af (show w.heap.size<=((wr.alloc (.cells #[] 3)).alloc (.cells #[A0 (some ⟨wr.heap.size,0,none⟩) 0 0] 56)).heap.size from As hb.o.size B2.size);clear hos hpush hsl hN B1 B2;have hR:=af (show RS rO 1 ((wr.alloc (.cells #[] 3)).alloc (.cells #[A0 (some ⟨wr.heap.size,0,none⟩) 0 0] 56)) (A0 (some ⟨wr.heap.size+1,0,none⟩) 1 1) [(⟨some ⟨wr.heap.size,0,none⟩,0,0⟩:qj)] from by
    have h:=RS.one (f:=rO) (sz:=1) ⟨some ⟨wr.heap.size,0,none⟩,0,0⟩ #[A0 (some ⟨wr.heap.size,0,none⟩) 0 0] rfl (wr.alloc (.cells #[] 3)) 56;rw [World.size_alloc] at h;exact h)
   go_wp2_with (at_builtin;refine aV Kt rfl _ _ rfl w.heap.size _ ss rfl zL.o _ [(⟨some ⟨wr.heap.size,0,none⟩,0,0⟩:qj)] rfl (hR.o) hyl.o hz3.o ?_;intro v3 w4 iV hg4 _;have kH:=af iV;have rU:=af hg4;clear iV hg4);go_roundw
   case rel =>
    refine ⟨k+1,by go_num,by omega,?_,?_⟩
    ·show OM _ _ _ _ _;rw [Dc.o];exact Hp.o _ _ kH.o rU.o
    exact Below.dN Bw.o zL.o rU.o aW hz3.o
   case measure=>simp [intOf];omega
  obtain rfl:k=16:=by omega
  go_wp2_with fail;go_ret;exact ⟨_,rfl,ho.o,hb.o⟩
def OD (w:World) (v:Value) (m:List (List Kx.Str)):Prop:=∃ vs:List Value,vs.length=m.length/\RS yL 1 w v vs/\∀ i (h:i<vs.length) (h':i<m.length),dK w vs[i] m[i]
theorem OD.at {w:World} {v:Value} {m:List (List Kx.Str)} (h:OD w v m) {k:Nat} (hk:k<m.length) :
  ∃ b off cap u,v=A0 (some ⟨b,off,none⟩) m.length cap/\b<w.heap.size/\w.cell? ⟨b,off+k,none⟩=some u/\dK w u m[k]:=by
 obtain ⟨vs,hl,hs,hr⟩:=h;have hk':k<vs.length:=by omega
 obtain ⟨b,off,cap,e,hb,hc⟩:=hs.at hk';rw [hl] at e;have:=hc 0 _ rfl;rw [Nat.mul_one,Nat.add_zero] at this;exact ⟨b,off,cap,_,e,hb,this,hr k hk' hk⟩
theorem WA (w:World):(Instr.makeSlice 24 (I_ 12) (I_ 12)).run prog w=.ok (A0 (some ⟨w.heap.size,0,none⟩) 12 12) (w.alloc (.cells (flat bH (An 12 aG.zero)).toArray 53)):=by kernel_rfl
def Kr (w:World) (k:Kx.Kernel) (more:List Value) (en:Ending) (w':World):Prop:=
 ∃ um ui ue uc,en=.returned (.tuple (.agg #[um,ui,ue,uc] :: more).toArray)/\KO w' w.heap.size um ui ue uc k/\Below w.heap.size w w'
theorem wU (rs:List (List Kx.Str)) (v:Value) (w:World) (h:OD w v rs) (h3:rs.length=3) (hok:∀ r ∈ rs,aS r=true) :
  Calls prog 106 #[v] w (Kr w (jd rs) [.bool true]):=by
 obtain ⟨bv,fv,cv,ev0⟩:∃ bv fv cv,v=A0 (some ⟨bv,fv,none⟩) rs.length cv:=by obtain ⟨bv,fv,cv,_,ev0,_⟩:=h.at (k:=0) (by omega);exact ⟨bv,fv,cv,ev0⟩
 rw [h3] at ev0;subst ev0;obtain ⟨w1,hw1⟩:=XP (w.alloc (.cells #[A0 none 0 0,A0 none 0 0,A0 none 0 0,A0 none 0 0] 28));have Bw:=af (show Below w.heap.size w w1 from hw1 ▸ dm);have X1:=af (show BX w1 w.heap.size 28 [A0 none 0 0,A0 none 0 0,A0 none 0 0,A0 none 0 0] from (hw1 ▸ BX.new w _ _:BX w1 _ _ _));have s1:w.heap.size<w1.heap.size:=by rw [<-hw1];simp
 have HR:=af h;have bF:=af hok;have H3:=af h3;obtain ⟨d,hd1⟩:=XP w1.drew;have Bd:Below w1.heap.size w1 d:=hd1 ▸ Below.bz fZ;have Hd:=af hd1;clear hd1;have wO:=af (Bw.o.trans (Bd.mono Bw.o.size));have lX:=af Bd;have hmk:=WA;clear h hok Bd h3;go_enter func106,ntmps106;go_wp2_with fail;refine uu (S:=(fun _:World=>True)) (xs:=[6]) (by kernel_rfl) (by exact trivial) (fun hHeld=>?_);rw [Hd.o]
 refine qC (J:=fun a0 l a W=>∃ (b0 b1 b2 b3 b4 b5:Bool) (v6 v7 v8 v9 v10 v4:Value),l=#[b0,b1,b2,b3,b4,b5,false]/\a=aT a0 [(6,v6),(7,v7),(8,v8),(9,v9),(10,v10),(4,v4)]/\TI (Below d.heap.size d W)/\TI (b0=true->OM W d.heap.size W.heap.size v6 (An 12 [0,0,0,0]))/\TI (b1=true->OS bH 3 53 W d.heap.size v7 (An 12 aG.zero))/\TI (b2=true->OE W d.heap.size W.heap.size v8 [])/\TI (b3=true->OS b_ 4 51 W d.heap.size v9 [])/\TI (b4=true->(b0=true/\b1=true/\b2=true/\b3=true)/\v10=.agg #[v6,v7,v8,v9])/\TI (b5=true->∃ g,v4=.pointer (some ⟨g,0,none⟩)/\d.heap.size<=g/\BX W g 28 [A0 none 0 0,A0 none 0 0,A0 none 0 0,A0 none 0 0]))
  (rs:=[0,1,2,3,4,5]) (ts:=[]) (xs:=[6]) (by kernel_rfl) (by kernel_rfl) (by kernel_rfl) ?hts ?hS ?hend ?hs _ _ _ (by kernel_rfl) ?h0
 case hts=>rintro l a W ⟨b0,b1,b2,b3,b4,b5,v6,v7,v8,v9,v10,v4,rfl,rfl,f0,g0,g1,g2,g3,g4,g5⟩;exact ⟨rfl,rfl⟩
 case hS=>rintro l a W ⟨b0,b1,b2,b3,b4,b5,v6,v7,v8,v9,v10,v4,rfl,rfl,f0,g0,g1,g2,g3,g4,g5⟩;exact trivial
 case h0=>exact ⟨false,false,false,false,false,false,undef,undef,undef,undef,undef,undef,rfl,Zh,af fZ,af nofun,af nofun,af nofun,af nofun,af nofun,af nofun⟩
 case hs =>
  refine .cons rfl ?o0 (.cons rfl ?o1 (.cons rfl ?o2 (.cons rfl ?o3 (.cons rfl ?o4 (.cons rfl ?o5 (.nil))))))
  case o0 =>
   rintro l a W ⟨b0,b1,b2,b3,b4,b5,v6,v7,v8,v9,v10,v4,rfl,rfl,f0,g0,g1,g2,g3,g4,g5⟩ h0 hd K hK;obtain rfl:b0=false:=h0;clear hd;rw [if_pos (by rfl)];simp only [aT,Ao,Act.put,A1,A2,A3,A4,A5,A6];go_simp;go_at_call 163;refine (Nr W).mono ?_;rintro en W2 ⟨u,rfl,ho,hb⟩
   exact hK.out _ _ ⟨true,b1,b2,b3,b4,b5,u,v7,v8,v9,v10,v4,rfl,Zh,af (f0.o.trans (hb.mono f0.o.size)),af (fun _=>ho.mono f0.o.size aW),af (fun h=>(g1.o h).below hb),af (fun h=>((g2.o h).below hb).mono aW hb.size),af (fun h=>(g3.o h).below hb),af (fun h=>absurd (g4.o h).1.1 (by decide)),af (fun h=>by obtain ⟨g,e,h1,h2⟩:=g5.o h;exact ⟨g,e,h1,h2.below hb⟩)⟩
  case o1 =>
   rintro l a W ⟨b0,b1,b2,b3,b4,b5,v6,v7,v8,v9,v10,v4,rfl,rfl,f0,g0,g1,g2,g3,g4,g5⟩ h0 hd K hK;obtain rfl:b1=false:=h0;clear hd;rw [if_pos (by rfl)];simp only [aT,Ao,Act.put,A1,A2,A3,A4,A5,A6];go_simp;have hb:Below W.heap.size W (W.alloc (.cells (flat bH (An 12 aG.zero)).toArray 53)):=dm
   exact hK.out _ _ ⟨b0,true,b2,b3,b4,b5,v6,A0 (some ⟨W.heap.size,0,none⟩) 12 12,v8,v9,v10,v4,rfl,Zh,af (f0.o.trans (hb.mono f0.o.size)),af (fun h=>(g0.o h).go hb),af (fun _=>OS.lit f0.o.size _ rfl rfl (by simp)),af (fun h=>((g2.o h).below hb).mono aW hb.size),af (fun h=>(g3.o h).below hb),af (fun h=>absurd (g4.o h).1.2.1 (by decide)),af (fun h=>by obtain ⟨g,e,h1,h2⟩:=g5.o h;exact ⟨g,e,h1,h2.below hb⟩)⟩
  case o2 =>
   rintro l a W ⟨b0,b1,b2,b3,b4,b5,v6,v7,v8,v9,v10,v4,rfl,rfl,f0,g0,g1,g2,g3,g4,g5⟩ h0 hd K hK;obtain rfl:b2=false:=h0;clear hd;rw [if_pos (by rfl)];simp only [aT,Ao,Act.put,A1,A2,A3,A4,A5,A6];go_simp;have hb:Below W.heap.size W (W.alloc (.cells #[] 43)):=dm
   exact hK.out _ _ ⟨b0,b1,true,b3,b4,b5,v6,v7,A0 (some ⟨W.heap.size,0,none⟩) 0 0,v9,v10,v4,rfl,Zh,af (f0.o.trans (hb.mono f0.o.size)),af (fun h=>(g0.o h).go hb),af (fun h=>(g1.o h).below hb),af (fun _=>(OE.d_ f0.o.size).mono aW (by simp)),af (fun h=>(g3.o h).below hb),af (fun h=>absurd (g4.o h).1.2.2.1 (by decide)),af (fun h=>by obtain ⟨g,e,h1,h2⟩:=g5.o h;exact ⟨g,e,h1,h2.below hb⟩)⟩
  case o3 =>
   rintro l a W ⟨b0,b1,b2,b3,b4,b5,v6,v7,v8,v9,v10,v4,rfl,rfl,f0,g0,g1,g2,g3,g4,g5⟩ h0 hd K hK;obtain rfl:b3=false:=h0;clear hd;rw [if_pos (by rfl)];simp only [aT,Ao,Act.put,A1,A2,A3,A4,A5,A6];go_simp;have hb:Below W.heap.size W (W.alloc (.cells #[] 51)):=dm
   exact hK.out _ _ ⟨b0,b1,b2,true,b4,b5,v6,v7,v8,A0 (some ⟨W.heap.size,0,none⟩) 0 0,v10,v4,rfl,Zh,af (f0.o.trans (hb.mono f0.o.size)),af (fun h=>(g0.o h).go hb),af (fun h=>(g1.o h).below hb),af (fun h=>((g2.o h).below hb).mono aW hb.size),af (fun _=>OS.d_ f0.o.size),af (fun h=>absurd (g4.o h).1.2.2.2 (by decide)),af (fun h=>by obtain ⟨g,e,h1,h2⟩:=g5.o h;exact ⟨g,e,h1,h2.below hb⟩)⟩
  case o4 =>
   rintro l a W ⟨b0,b1,b2,b3,b4,b5,v6,v7,v8,v9,v10,v4,rfl,rfl,f0,g0,g1,g2,g3,g4,g5⟩ h0 hd K hK;obtain rfl:b4=false:=h0;obtain rfl:b0=true:=hd 0 (by kernel_rfl);obtain rfl:b1=true:=hd 1 (by kernel_rfl);obtain rfl:b2=true:=hd 2 (by kernel_rfl);obtain rfl:b3=true:=hd 3 (by kernel_rfl);clear hd;rw [if_pos (by rfl)];simp only [aT,Ao,Act.put,A1,A2,A3,A4,A5,A6];obtain ⟨_,a6,c6,e6,_,_⟩:=(g0.o rfl).rm.len;obtain rfl:v6=A0 a6 12 c6:=e6;obtain ⟨a7,c7,e7,_,_⟩:=RS.val (g1.o rfl).rs;obtain rfl:v7=A0 a7 12 c7:=e7;obtain ⟨_,a8,c8,e8,_,_⟩:=(g2.o rfl).re.len;obtain rfl:v8=A0 a8 0 c8:=e8;obtain ⟨a9,c9,e9,_,_⟩:=RS.val (g3.o rfl).rs;obtain rfl:v9=A0 a9 0 c9:=e9;go_simp
   exact hK.out _ _ ⟨true,true,true,true,true,b5,_,_,_,_,.agg #[A0 a6 12 c6,A0 a7 12 c7,A0 a8 0 c8,A0 a9 0 c9],v4,rfl,Zh,f0,g0,g1,g2,g3,af (fun _=>⟨⟨rfl,rfl,rfl,rfl⟩,rfl⟩),g5⟩
  case o5 =>
   rintro l a W ⟨b0,b1,b2,b3,b4,b5,v6,v7,v8,v9,v10,v4,rfl,rfl,f0,g0,g1,g2,g3,g4,g5⟩ h0 hd K hK;obtain rfl:b5=false:=h0;clear hd;rw [if_pos (by rfl)];simp only [aT,Ao,Act.put,A1,A2,A3,A4,A5,A6];go_simp;have hb:Below W.heap.size W (W.alloc (.cells #[A0 none 0 0,A0 none 0 0,A0 none 0 0,A0 none 0 0] 28)):=dm
   exact hK.out _ _ ⟨b0,b1,b2,b3,b4,true,v6,v7,v8,v9,v10,.pointer (some ⟨W.heap.size,0,none⟩),rfl,Zh,af (f0.o.trans (hb.mono f0.o.size)),af (fun h=>(g0.o h).go hb),af (fun h=>(g1.o h).below hb),af (fun h=>((g2.o h).below hb).mono aW hb.size),af (fun h=>(g3.o h).below hb),g4,af (fun _=>⟨_,rfl,f0.o.size,BX.new W _ _⟩)⟩
 case hend =>
  rintro l a W ⟨b0,b1,b2,b3,b4,b5,v6,v7,v8,v9,v10,v4,rfl,rfl,f0,g0,g1,g2,g3,g4,g5⟩ hall hHeld;obtain rfl:b0=true:=hall 0 (by rfl);obtain rfl:b1=true:=hall 1 (by rfl);obtain rfl:b2=true:=hall 2 (by rfl);obtain rfl:b3=true:=hall 3 (by rfl);obtain rfl:b4=true:=hall 4 (by rfl);obtain rfl:b5=true:=hall 5 (by rfl);clear hall;obtain ⟨g,rfl,hg,hx⟩:=g5.o rfl;obtain ⟨_,rfl⟩:=g4.o rfl;have hBs:=wO.o.size;have hgB:w.heap.size<=g:=As hBs hg;have hO:=af (show KO W w.heap.size v6 v7 v8 v9 ⟨An 12 [0,0,0,0],An 12 aG.zero,[],[]⟩ from ⟨(g0.o rfl).mono hBs aW,(g1.o rfl).mono hBs,(g2.o rfl).mono hBs aW,(g3.o rfl).mono hBs⟩);obtain ⟨_,a6,c6,e6,_,_⟩:=(g0.o rfl).rm.len;obtain rfl:v6=A0 a6 12 c6:=e6;obtain ⟨a7,c7,e7,_,_⟩:=RS.val (g1.o rfl).rs;obtain rfl:v7=A0 a7 12 c7:=e7;obtain ⟨_,a8,c8,e8,_,_⟩:=(g2.o rfl).re.len
  obtain rfl:v8=A0 a8 0 c8:=e8;obtain ⟨a9,c9,e9,_,_⟩:=RS.val (g3.o rfl).rs;obtain rfl:v9=A0 a9 0 c9:=e9;have hB:=af (((((wO.o.trans (f0.o.mono hBs)).setCell (p:=⟨g,0,none⟩) hgB (A0 a6 12 c6)).setCell (p:=⟨g,1,none⟩) hgB (A0 a7 12 c7)).setCell (p:=⟨g,2,none⟩) hgB (A0 a8 0 c8)).setCell (p:=⟨g,3,none⟩) hgB (A0 a9 0 c9));have hsz1:w1.heap.size<=d.heap.size:=lX.o.size;have hb1:Below w1.heap.size w1 W:=lX.o.trans (f0.o.mono hsz1);have hn1:w.heap.size≠g:=by omega
  replace X1:=af (show BX ((((W.setCell ⟨g,0,none⟩ (A0 a6 12 c6)).setCell ⟨g,1,none⟩ (A0 a7 12 c7)).setCell ⟨g,2,none⟩ (A0 a8 0 c8)).setCell ⟨g,3,none⟩ (A0 a9 0 c9)) w.heap.size 28 _ from ((((X1.o.below hb1).other hn1 0 _).other hn1 1 _).other hn1 2 _).other hn1 3 _);have hZ:=af (show BX ((((W.setCell ⟨g,0,none⟩ (A0 a6 12 c6)).setCell ⟨g,1,none⟩ (A0 a7 12 c7)).setCell ⟨g,2,none⟩ (A0 a8 0 c8)).setCell ⟨g,3,none⟩ (A0 a9 0 c9)) g 28 [A0 a6 12 c6,A0 a7 12 c7,A0 a8 0 c8,A0 a9 0 c9] from (((hx.set 0 _).set 1 _).set 2 _).set 3 _);replace hO:=af (KO.box (KO.box (KO.box (KO.box hO.o hx aJ 0 (A0 a6 12 c6)) (hx.set 0 _) aJ 1 (A0 a7 12 c7)) ((hx.set 0 _).set 1 _) aJ 2 (A0 a8 0 c8)) (((hx.set 0 _).set 1 _).set 2 _) aJ 3 (A0 a9 0 c9));have r0:=hx.c4;have jh:=hx.f4
  clear f0 g0 g1 g2 g3 g4 g5 hx lX hb1 hHeld Bw;change wpAnyL _ _ _ _ _ _ 1 _ _ _;simp only [aT,Ao,Act.put,A1,A2,A3,A4,A5,A6];refine ahp 6 fun K hK=>?_;go_simp;refine hK.out _ _ ?_;clear hK K;refine nL ?_;refine gY (by kernel_rfl) ?_ _;obtain ⟨V,hV⟩:=XP ((((W.setCell ⟨g,0,none⟩ (A0 a6 12 c6)).setCell ⟨g,1,none⟩ (A0 a7 12 c7)).setCell ⟨g,2,none⟩ (A0 a8 0 c8)).setCell ⟨g,3,none⟩ (A0 a9 0 c9));rw [hV] at hB hZ X1 hO ⊢;have OG:=af hn1;have WB:=af hgB;clear hV r0 jh hn1 hgB hg hsz1 hBs Hd hmk;go_wp2_with fail
  go_loopw [5] (fun i wr=>∃ (j:Nat) (ue:Value),i=I_ j/\j<=3/\TI (KO wr w.heap.size (A0 a6 12 c6) (A0 a7 12 c7) ue (A0 a9 0 c9) ⟨An 12 [0,0,0,0],An 12 aG.zero,(rs.take j).map fun r=>⟨r,-1⟩,[]⟩)/\TI (BX wr g 28 [A0 a6 12 c6,A0 a7 12 c7,ue,A0 a9 0 c9])/\TI (BX wr w.heap.size 28 [A0 none 0 0,A0 none 0 0,A0 none 0 0,A0 none 0 0])/\TI (Below w.heap.size w wr)) (fun i _=>3 - (intOf i).toNat)
  case atStart=>exact ⟨0,_,rfl,Av _,hO,hZ,X1,hB⟩
  case round =>
   clear hO hZ X1 hB;obtain ⟨j,ue,rfl,hj,hO,hZ,X1,hB⟩:=hrel
   by_cases hlt:j<3
   ·have kQ:(j:Int)<3:=by omega
    have hlr:j<rs.length:=by rw [H3.o];exact hlt
    obtain ⟨b,off,cap1,u,ev,hwb,q0,m_⟩:=HR.o.at (k:=j) hlr;rw [H3.o] at ev;obtain ⟨⟨rfl,rfl,_⟩,_,rfl⟩:=Zb ev;clear ev;have hro:=bF.o rs[j] (Al hlr);have Ns:=af (di rs[j] u wr (RS.below m_ hB.o) (fun x hx=>by have:=pJ ((gJ.1 hro).1 x hx);omega))
    have Dc:=af (show ((rs.take (j+1)).map fun r=>(⟨r,-1⟩:Kx.Env))=((rs.take j).map fun r=>⟨r,-1⟩) ++ [⟨rs[j],-1⟩] by rw [Ab hlr,List.map_append];rfl)
    have hrl:=af (show ([]:List Kx.Str).length+rs[j].length<=1099511627776 by have:=(gJ.1 hro).2.2;simp;omega);rw [hro] at Ns;replace m_:=RS.below m_ hB.o;obtain ⟨a5,c5,rfl,_,_⟩:=RS.val m_;have Jo:=af m_;clear m_ hro;generalize rs[j]=ws at q0 Jo Dc hrl Ns;have y0:=(hB.o.cell (p:=⟨bv,fv+j,none⟩) hwb).trans q0;go_wp2_with fail;refine Ns.o.mono ?_;rintro en w2 ⟨rfl,n2,rfl⟩;have hb0:Below wr.heap.size wr (wr.drewN n2):=IC wr n2;clear Ns y0;obtain ⟨wq,hwq⟩:=XP (wr.drewN n2);rw [hwq] at hb0 ⊢;clear hwq;replace hZ:=af (hZ.o.below hb0);replace X1:=af (X1.o.below hb0);replace hO:=af (hO.o.below hb0);replace hB:=af (hB.o.trans (hb0.mono hB.o.size));replace Jo:=af (RS.below Jo.o hb0);clear hb0;obtain ⟨_,a1,c1,rfl,_,_⟩:=hO.o.e.re.len
    have hel:((rs.take j).map fun r=>(⟨r,-1⟩:Kx.Env)).length<=3:=by rw [List.length_map];exact As (List.length_take_le j rs) (by omega)
    have z2:=hZ.o.cell 2;simp only [A9,A'] at z2;have hbl:bv<wq.heap.size:=Ax hwb hB.o.size;have z0:=(hB.o.cell (p:=⟨bv,fv+j,none⟩) hwb).trans q0;generalize hen:((rs.take j).map fun r=>(⟨r,-1⟩:Kx.Env)).length=en at hZ hO z2
    obtain ⟨W5,AU⟩:=XP wq.drew;have B5:Below wq.heap.size wq W5:=AU ▸ Below.bz fZ;have Qe:=af AU;have hs5:wq.heap.size<=W5.heap.size:=B5.size;have Hs:=af (show ∀ W,Below wq.heap.size wq W->W.cell? ⟨bv,fv+j,none⟩=some (A0 a5 ws.length c5)/\W.cell? ⟨g,2,none⟩=some (A0 a1 en c1) from fun W hb=>⟨(hb.cell (p:=⟨bv,fv+j,none⟩) hbl).trans z0,(hb.cell (p:=⟨g,2,none⟩) hZ.o.lt).trans z2⟩)
    have B6:Below wq.heap.size wq (W5.alloc (.cells #[] 9)):=Below.lit B5 _;have hBw:=af (show w.heap.size<=wq.heap.size from hB.o.size);clear AU;go_wp2_with fail;refine afY (xs:=[12]) Hs (by rw [Qe.o];exact B5) fun hHeld=>?_
    rw [Qe.o];rw [Qe.o] at hHeld;refine tL 0 ?_;refine tL 1 ?_;refine tL 3 ?_;refine tL 4 ?_;refine tL 5 ?_;refine tL 6 ?_;refine aho 2 fun K hK=>?_;go_simp;refine afX hK (Hs.o _ B6) fun hHeld=>?_
    clear hK K;refine lI 7 (by kernel_rfl) rfl (fun K hK=>?_);refine aU gX rfl _ _ rfl W5.heap.size _ [] rfl (OS.d_ aW) _ ws rfl (RS.below Jo.o B6) hrl.o (by simp) ?_;intro v2 w2 ho2 hg2 _;have B7:Below wq.heap.size wq w2:=Below.dN B6 (OS.d_ (f:=df) (sz:=1) aW) hg2 hs5 (by simp;omega);rw [List.nil_append] at ho2;obtain ⟨a8',OH,rfl,_,_⟩:=RS.val ho2.rs;have l7:=af ho2;clear hg2 ho2;refine afX hK (Hs.o _ B7) fun hHeld=>?_
    clear hK K;refine tL 8 ?_;refine aho 9 fun K hK=>?_;go_simp;have B8:Below wq.heap.size wq (w2.alloc (.cells #[A0 a8' ws.length OH,I_ (-1)] 43)):=Below.lit B7 _;have TL:Below w2.heap.size w2 (w2.alloc (.cells #[A0 a8' ws.length OH,I_ (-1)] 43)):=dm;obtain ⟨ss,hsl,hos,hp⟩:=hO.o.Gv hBw.o B8 ⟨a8',ws.length,OH⟩ (-1) ws ((l7.o.below TL).mono hs5);have zL:=af hos;have Hp:=af hp;have hyl:=af (show ss.length+1<=1099511627776 by have h1:ss.length=((rs.take j).map fun r=>(⟨r,-1⟩:Kx.Env)).length:=hsl;omega)
    have hb8:=af (show w.heap.size<=(w2.alloc (.cells #[A0 a8' ws.length OH,I_ (-1)] 43)).heap.size from As hBw.o B8.size);clear hos hp hsl TL;refine afX hK (Hs.o _ B8) fun hHeld=>?_
    clear hK K;refine lI 10 (by kernel_rfl) rfl (fun K hK=>?_);refine aU OJ rfl _ _ rfl w.heap.size _ ss rfl zL.o _ [((⟨a8',ws.length,OH⟩:qj),-1)] rfl (RS.one (f:=jG) ((⟨a8',ws.length,OH⟩:qj),-1) #[A0 a8' ws.length OH,I_ (-1)] rfl w2 _) hyl.o hb8.o ?_;intro v4 w4 iV hg4 _;replace hO:=af (Hp.o w4 v4 iV hg4);replace hZ:=af ((hZ.o.below B8).dw zL.o hg4 (by decide));replace X1:=af ((X1.o.below B8).dw zL.o hg4 (by decide));replace hB:=af (Below.dN (hB.o.trans (B8.mono hBw.o)) zL.o hg4 aW hb8.o);have hc3:=hZ.o.cell 2;have hcf:=hZ.o.frozen 2;have hw2:=(hB.o.cell (p:=⟨bv,fv+j,none⟩) hwb).trans q0;simp only [A9,A'] at hc3;obtain ⟨a4,c4,rfl,_,_⟩:=RS.val iV.rs;clear iV hg4;generalize (ss ++ [((⟨a8',ws.length,OH⟩:qj),(-1:Int))]).length=nl at *
    refine afX hK ⟨hw2,hc3⟩ fun hHeld=>?_
    clear hK K;refine tL 11 ?_;refine ahp 12 fun K hK=>?_;go_simp;refine hK.out _ _ ?_;clear hK K;refine nL ?_;refine gY (by kernel_rfl) ?_ _;have qo:=af (show KO (w4.setCell ⟨g,2,none⟩ (A0 a4 nl c4)) w.heap.size _ _ _ _ ⟨An 12 [0,0,0,0],An 12 aG.zero,(rs.take (j+1)).map fun r=>⟨r,-1⟩,[]⟩ from by rw [Dc.o];exact hO.o.box hZ.o aJ 2 _)
    have HZ:=af (hZ.o.set 2 (A0 a4 nl c4));have Q8:=af (X1.o.other OG.o 2 (A0 a4 nl c4));have HB:=af (hB.o.setCell (p:=⟨g,2,none⟩) WB.o (A0 a4 nl c4));go_wp2_with fail;go_roundw
    case rel=>exact ⟨j+1,_,by go_num,by omega,qo,HZ,Q8,HB⟩
    case measure=>simp [intOf];omega
   obtain rfl:j=3:=by omega
   have OL:=af (show KO wr w.heap.size _ _ ue _ (jd rs) from by have:=hO.o;rw [show rs.take 3=rs by rw [<-H3.o];exact List.take_length] at this;exact this);obtain ⟨_,a5,c5,e5,_,_⟩:=OL.o.e.re.len;obtain rfl:ue=A0 a5 3 c5:=by rw [e5];simp [jd,H3.o]
   obtain ⟨z0,z1,z2,z3⟩:=hZ.o.c4;have r0:=X1.o.c4;have jh:=X1.o.f4;clear hO e5;go_wp2_with fail;obtain ⟨e0,e1,e2,e3,hB4,hK4⟩:=fG X1.o rfl (Kept.of hB.o aW) ⟨Ay _,Ay _⟩ (A0 a6 12 c6) (A0 a7 12 c7) (A0 a5 3 c5) (A0 a9 0 c9);refine af7 (by simp [results,results106,go_sem,e0,e1,e2,e3]<;>rfl) ?_;exact ⟨_,_,_,_,rfl,hK4 rfl _ _ _ _ _ OL.o,hB4.b⟩
theorem Nu:Kx.sA.size<=9223372036854775807:=by decide
theorem gW (k:Kx.Kernel) (kd a b c:Int) (vm vi ve vc:Value) (w:World) (h:RK w vm vi ve vc k) (hok:az k=true) :
  Calls prog 165 #[.agg #[vm,vi,ve,vc],I_ kd,I_ a,I_ b,I_ c] w (Kr w (bJ k kd a b c).1 [I_ (bJ k kd a b c).2.1,.bool ((bJ k kd a b c).2.2==0)]):=by
 obtain ⟨_,am,cm,rfl,_,_⟩:=h.m.len;obtain ⟨ai,ci,rfl,_,_⟩:=RS.val h.i;obtain ⟨_,ae,ce,rfl,_,_⟩:=h.e.len;obtain ⟨ac,cq,rfl,_,_⟩:=RS.val h.c;obtain ⟨w0,hw0⟩:=XP (w.alloc (.cells #[A0 am k.mem.length cm,A0 ai k.ag.length ci,A0 ae k.ah.length ce,A0 ac k.cache.length cq] 28));obtain ⟨w1,hw1⟩:=XP (w0.alloc (.cells #[A0 none 0 0,A0 none 0 0,A0 none 0 0,A0 none 0 0] 28));have B0:Below w.heap.size w w0:=hw0 ▸ dm;have B1:Below w0.heap.size w0 w1:=hw1 ▸ dm;have bw:Below w.heap.size w w1:=B0.trans (B1.mono B0.size);have Bw:=af bw;have X0:=(show BX w1 w.heap.size 28 _ from (hw0 ▸ BX.new w _ _:BX w0 _ _ _).below B1);have X1:=af (show BX w1 w0.heap.size 28 [A0 none 0 0,A0 none 0 0,A0 none 0 0,A0 none 0 0] from (hw1 ▸ BX.new w0 _ _:BX w1 _ _ _));have s0:w.heap.size<w0.heap.size:=by rw [<-hw0];simp
 have s1:w0.heap.size<w1.heap.size:=by rw [<-hw1];simp
 have HC:=af (show Calls prog 37 #[.agg #[A0 am k.mem.length cm,A0 ai k.ag.length ci,A0 ae k.ah.length ce,A0 ac k.cache.length cq],.agg #[I_ kd,I_ 0,I_ a,I_ b,I_ c,.string ⟨#[97]⟩]] w1 (JE w1 (bJ k kd a b c)) from
  Ap k ⟨kd,0,a,b,c,Kx.sA⟩ 0 _ _ _ _ w1 ⟨h.m.below bw,RS.below h.i bw,h.e.below bw,RS.below h.c bw⟩ hok (jX hok) rfl (by decide) Nu)
 have p0:=BX.c4 X0;clear h hok B0 B1 bw X0;generalize bJ k kd a b c=r at HC ⊢;go_enter func165,ntmps165;go_wp2_with fail;refine HC.o.mono ?_;rintro en w2 ⟨um,ui,ue,uc,rfl,ho,hb⟩;replace X1:=af (X1.o.below hb);replace Bw:=af (Bw.o.trans (hb.mono Bw.o.size));obtain ⟨⟨a0,n0,m0,rfl⟩,⟨a1,n1,m1,rfl⟩,⟨a2,n2,m2,rfl⟩,⟨a3,n3,m3,rfl⟩⟩:=ho.sl;have HO:=af ho;have s2:w1.heap.size<=w2.heap.size:=hb.size;clear ho hb HC p0;have B3:Below w2.heap.size w2 (w2.alloc (.cells #[A0 a0 n0 m0,A0 a1 n1 m1,A0 a2 n2 m2,A0 a3 n3 m3] 28)):=dm;replace X1:=af (X1.o.below B3);replace HO:=af (HO.o.below B3);replace Bw:=af (Bw.o.trans (B3.mono Bw.o.size));obtain ⟨e0,e1,e2,e3,hB4,hK4⟩:=fG X1.o rfl (Kept.of Bw.o aW) ⟨by omega,by omega⟩ (A0 a0 n0 m0) (A0 a1 n1 m1) (A0 a2 n2 m2) (A0 a3 n3 m3)
 have E:=af (And.intro e0 (And.intro e1 (And.intro e2 e3)));have HB4:=af hB4;have HK4:=af (hK4 rfl _ _ _ _ _ (HO.o.mono (show w.heap.size<=w1.heap.size by omega)));have r0:=X1.o.c4;have jh:=X1.o.f4;clear e0 e1 e2 e3 hB4 hK4 B3 hw0 hw1;go_wp2_with fail;obtain ⟨e0,e1,e2,e3⟩:=E.o;refine af7 (by simp [results,results165,go_sem,e0,e1,e2,e3]<;>rfl) ?_;exact ⟨_,_,_,_,rfl,HK4.o,HB4.o.b⟩
def sets (w:World) (g:Nat):Nat->List Value->World
 | _,[]=>w
 | i,v :: l=>sets (w.setCell ⟨g,i,none⟩ v) g (i+1) l
theorem BX.iq {g g' t:Nat} {cs:List Value} (hn:g≠g'):∀ (l:List Value) (i:Nat) {w:World},BX w g t cs->BX (sets w g' i l) g t cs
 | [],_,_,h=>h
 | v :: l,i,_,h=>BX.iq hn l (i+1) (h.other hn i v)
theorem BX.OO {g t:Nat}:∀ (l:List Value) (i:Nat) {cs:List Value} {w:World},BX w g t cs->i+l.length=cs.length->BX (sets w g i l) g t (cs.take i ++ l)
 | [],i,cs,_,h,hl=>by
  rw [List.take_of_length_le (by simp at hl;omega),List.append_nil];exact h
 | v :: l,i,cs,w,h,hl=>by
  have h2:=BX.OO l (i+1) (h.set i v) (by simp at hl ⊢;omega);have e:(cs.set i v).take (i+1)=cs.take i ++ [v]:=by
   rw [Ab (by simp at hl ⊢;omega),List.getElem_set_self,List.take_set_of_le (Ay i)]
  rw [e,List.append_assoc] at h2;exact h2
theorem BX.sets {w:World} {g t:Nat} {cs:List Value} (h:BX w g t cs) (l:List Value) (hl:l.length=cs.length):BX (sets w g 0 l) g t l:=by
 have:=BX.OO l 0 h (by omega)
 simpa using this
theorem OS.sets {α:Type} {f:α->List Value} {sz g t:Nat} {e:TypeId} {base:Nat} {v:Value} {xs:List α} (ht:e≠t):∀ (l:List Value) (i:Nat) {cs:List Value} {w:World},BX w g t cs->OS f sz e w base v xs->OS f sz e (sets w g i l) base v xs
 | [],_,_,_,_,h=>h
 | x :: l,i,_,w,hb,h=>OS.sets ht l (i+1) (hb.set i x) (h.dh (aK w g i x) hb ht)
theorem OM.sets {g t base hi:Nat} {u:Value} {m:List (List Int)} (h1:56≠t) (h2:3≠t):∀ (l:List Value) (i:Nat) {cs:List Value} {w:World},BX w g t cs->OM w base hi u m->OM (sets w g i l) base hi u m
 | [],_,_,_,_,h=>h
 | x :: l,i,_,w,hb,h=>OM.sets h1 h2 l (i+1) (hb.set i x) (h.dh (aK w g i x) hb h1 h2)
theorem KO.sets {g t base:Nat} {um ui ue uc:Value} {k:Kx.Kernel} (ht:Box? t):∀ (l:List Value) (i:Nat) {cs:List Value} {w:World},BX w g t cs->KO w base um ui ue uc k->KO (sets w g i l) base um ui ue uc k
 | [],_,_,_,_,h=>h
 | x :: l,i,_,_,hb,h=>KO.sets ht l (i+1) (hb.set i x) (h.box hb ht i x)
theorem dP {B g:Nat} {a:World} (hg:B<=g):∀ (l:List Value) (i:Nat) {w:World},Below B a w->Below B a (sets w g i l)
 | [],_,_,h=>h
 | x :: l,i,_,h=>dP hg l (i+1) (h.setCell (p:=⟨g,i,none⟩) hg x)
theorem afz (W:World) {g:Nat} {a b c:Value}:((W.setCell ⟨g,0,none⟩ a).setCell ⟨g,1,none⟩ b).setCell ⟨g,2,none⟩ c=sets W g 0 [a,b,c]:=rfl
theorem afA (W:World) {g:Nat} {a b c d:Value}:(((W.setCell ⟨g,0,none⟩ a).setCell ⟨g,1,none⟩ b).setCell ⟨g,2,none⟩ c).setCell ⟨g,3,none⟩ d=sets W g 0 [a,b,c,d]:=rfl
theorem afB (W:World) {g:Nat} {a b c d e f:Value}:(((((W.setCell ⟨g,0,none⟩ a).setCell ⟨g,1,none⟩ b).setCell ⟨g,2,none⟩ c).setCell ⟨g,3,none⟩ d).setCell ⟨g,4,none⟩ e).setCell ⟨g,5,none⟩ f=sets W g 0 [a,b,c,d,e,f]:=rfl
theorem afC (W:World) {g:Nat} {a b c d e f h i j:Value}:((((((((W.setCell ⟨g,0,none⟩ a).setCell ⟨g,1,none⟩ b).setCell ⟨g,2,none⟩ c).setCell ⟨g,3,none⟩ d).setCell ⟨g,4,none⟩ e).setCell ⟨g,5,none⟩ f).setCell ⟨g,6,none⟩ h).setCell ⟨g,7,none⟩ i).setCell ⟨g,8,none⟩ j=sets W g 0 [a,b,c,d,e,f,h,i,j]:=rfl
theorem BX.ac4 {w:World} {g t:Nat} {cs l:List Value} {F:World} (h:BX w g t cs) (_e:Go.Proofs.YtecnmehlbfklnaaGreatDoor.sets w g 0 l=F) (hl:l.length=cs.length:=by rfl):BX (Go.Proofs.YtecnmehlbfklnaaGreatDoor.sets w g 0 l) g t l:=h.sets l hl
theorem BX.aeY {w:World} {g g' t:Nat} {cs l:List Value} {F:World} (hn:g≠g') (_e:Go.Proofs.YtecnmehlbfklnaaGreatDoor.sets w g' 0 l=F) (h:BX w g t cs):BX (Go.Proofs.YtecnmehlbfklnaaGreatDoor.sets w g' 0 l) g t cs:=BX.iq hn l 0 h
theorem OS.ac4 {α:Type} {f:α->List Value} {sz g t:Nat} {e:TypeId} {base:Nat} {v:Value} {xs:List α} {w F:World} {cs l:List Value} (ht:e≠t) (_e:Go.Proofs.YtecnmehlbfklnaaGreatDoor.sets w g 0 l=F) (hb:BX w g t cs) (h:OS f sz e w base v xs):OS f sz e (Go.Proofs.YtecnmehlbfklnaaGreatDoor.sets w g 0 l) base v xs:=OS.sets ht l 0 hb h
theorem OM.ac4 {g t base hi:Nat} {u:Value} {m:List (List Int)} {w F:World} {cs l:List Value} (h1:56≠t) (h2:3≠t) (_e:Go.Proofs.YtecnmehlbfklnaaGreatDoor.sets w g 0 l=F) (hb:BX w g t cs) (h:OM w base hi u m):OM (Go.Proofs.YtecnmehlbfklnaaGreatDoor.sets w g 0 l) base hi u m:=OM.sets h1 h2 l 0 hb h
theorem KO.ac4 {g t base:Nat} {um ui ue uc:Value} {k:Kx.Kernel} {w F:World} {cs l:List Value} (ht:Box? t) (_e:Go.Proofs.YtecnmehlbfklnaaGreatDoor.sets w g 0 l=F) (hb:BX w g t cs) (h:KO w base um ui ue uc k):KO (Go.Proofs.YtecnmehlbfklnaaGreatDoor.sets w g 0 l) base um ui ue uc k:=KO.sets ht l 0 hb h
theorem adT {B g:Nat} {a w F:World} {l:List Value} (hg:B<=g) (_e:sets w g 0 l=F) (h:Below B a w):Below B a (sets w g 0 l):=dP hg l 0 h
theorem kD {g:Nat}:∀ (l:List Value) (i:Nat) (w:World),(sets w g i l).heap.size=w.heap.size
 | [],_,_=>rfl
 | x :: l,i,w=>by
  rw [show sets w g i (x :: l)=sets (w.setCell ⟨g,i,none⟩ x) g (i+1) l from rfl,kD l (i+1)];simp [World.setCell]
theorem iZ:Box? 130:=by decide
theorem WE (w:World):(Instr.makeSlice 128 (I_ 16) (I_ 16)).run prog w=.ok (A0 (some ⟨w.heap.size,0,none⟩) 16 16) (w.alloc (.cells (flat jr (An 16 dV.zero)).toArray 204)):=by kernel_rfl
theorem WG {W:World} {a b c:Kx.Str} {n1 n2 n3:Nat} (h1:n1=W.heap.size+1) (h2:n2=W.heap.size+2) (h3:n3=W.heap.size+3) :
  OD ((((W.alloc (.cells #[.string a] 9)).alloc (.cells #[.string b] 9)).alloc (.cells #[.string c] 9)).alloc (.cells #[A0 (some ⟨W.heap.size,0,none⟩) 1 1,A0 (some ⟨n1,0,none⟩) 1 1,A0 (some ⟨n2,0,none⟩) 1 1] 41)) (A0 (some ⟨n3,0,none⟩) 3 3) [[a],[b],[c]]:=by
 subst h1 h2 h3;obtain ⟨W1,e1⟩:=XP (W.alloc (.cells #[.string a] 9));obtain ⟨W2,e2⟩:=XP (W1.alloc (.cells #[.string b] 9));obtain ⟨W3,e3⟩:=XP (W2.alloc (.cells #[.string c] 9));have z1:W1.heap.size=W.heap.size+1:=by rw [<-e1];simp
 have z2:W2.heap.size=W.heap.size+2:=by rw [<-e2];simp;omega
 have z3:W3.heap.size=W.heap.size+3:=by rw [<-e3];simp;omega
 have q1:RS df 1 W1 (A0 (some ⟨W.heap.size,0,none⟩) 1 1) [a]:=e1 ▸ RS.one (f:=df) a #[.string a] rfl W _;have q2:RS df 1 W2 (A0 (some ⟨W1.heap.size,0,none⟩) 1 1) [b]:=e2 ▸ RS.one (f:=df) b #[.string b] rfl W1 _;have q3:RS df 1 W3 (A0 (some ⟨W2.heap.size,0,none⟩) 1 1) [c]:=e3 ▸ RS.one (f:=df) c #[.string c] rfl W2 _;have b2:Below W1.heap.size W1 W2:=e2 ▸ dm;have b3:Below W2.heap.size W2 W3:=e3 ▸ dm;rw [e1,e2,e3];have b4:Below W3.heap.size W3 (W3.alloc (.cells #[A0 (some ⟨W.heap.size,0,none⟩) 1 1,A0 (some ⟨W.heap.size+1,0,none⟩) 1 1,A0 (some ⟨W.heap.size+2,0,none⟩) 1 1] 41)):=dm;rw [z1] at q2;rw [z2] at q3;have hc:=(BX.new W3 41 #[A0 (some ⟨W.heap.size,0,none⟩) 1 1,A0 (some ⟨W.heap.size+1,0,none⟩) 1 1,A0 (some ⟨W.heap.size+2,0,none⟩) 1 1]);rw [z3] at hc
 refine ⟨[A0 (some ⟨W.heap.size,0,none⟩) 1 1,A0 (some ⟨W.heap.size+1,0,none⟩) 1 1,A0 (some ⟨W.heap.size+2,0,none⟩) 1 1],rfl,⟨by simp,.inr ⟨W.heap.size+3,0,3,rfl,Ay _,by unfold maxLen;omega,hc.lt,fun k hk j u hu=>?_⟩⟩,fun i h h'=>?_⟩
 ·have hj:j=0:=by
   cases j with
   | zero=>rfl
   | succ j=>simp [yL] at hu
  subst hj;simp only [List.length_cons,List.length_nil] at hk;have:=hc.cell k;rw [show (0:Nat)+k*1+0=k by omega];rw [this];simpa [yL,hk] using hu
 simp only [List.length_cons,List.length_nil] at h;have hi:i=0\/i=1\/i=2:=by omega
 rcases hi with rfl | rfl | rfl
 ·exact RS.below (RS.below (RS.below q1 b2) b3) b4
 ·exact RS.below (RS.below q2 b3) b4
 exact RS.below q3 b4
theorem iF {k:Kx.Kernel} (h:az k=true) (kd a b c:Int):az (bJ k kd a b c).1=true:=nN.2 ((nN.1 h).cO _ rfl)
def qK (w:World) (base:Nat) (u:Value):Prop:=∃ ss:List qj,ss.length=16/\OS rO 1 56 w base u ss/\∀ s ∈ ss,s.n=0/\(s.a=none->s.c=0)
theorem qK.of {w:World} {base hi:Nat} {u:Value} (h:OM w base hi u (An 16 [])):qK w base u:=by
 obtain ⟨ss,hl,ho,hr,_⟩:=h;rw [List.length_replicate] at hl;refine ⟨ss,hl,ho.1,fun s hs=>?_⟩
 obtain ⟨i,hi,rfl⟩:=List.getElem_of_mem hs;have h1:=(hr i hi (by simp;omega)).1.ri;rw [List.getElem_replicate] at h1;rcases h1.2 with ⟨_,a,cap,e,hn⟩ | ⟨b,off,cap,e,_,_⟩
 ·unfold dM at e;simp only [Value.slice.injEq] at e;exact ⟨e.2.1,fun h=>by rw [e.2.2];exact hn (e.1 ▸ h)⟩
 unfold dM at e;simp only [Value.slice.injEq,List.length_nil] at e;exact ⟨e.2.1,fun h=>by rw [e.1] at h;cases h⟩
theorem qK.rm {w:World} {base:Nat} {u:Value} (h:qK w base u):RM w u (An 16 []):=by
 obtain ⟨ss,hl,ho,hs⟩:=h;refine ⟨ss.map dM,by simp [hl],ho.rs.map dM (fun _=>rfl),fun i h h'=>?_⟩
 have hi:i<ss.length:=by simpa using h
 obtain ⟨h1,h2⟩:=hs _ (Al hi);rw [List.getElem_replicate];refine ⟨by simp,.inl ⟨rfl,ss[i].a,ss[i].c,?_,h2⟩⟩;simp only [List.getElem_map,dM,h1]
structure PB (w W:World) (g4 g6:Nat) (us ul up:Value) (low:List Int) (lim:Int) (c4:List Value):Prop where
 x2:BX W w.heap.size 130 [A0 none 0 0,A0 none 0 0,A0 none 0 0,A0 none 0 0,A0 none 0 0,A0 none 0 0,A0 none 0 0,I_ 0,I_ 0]
 x4:BX W g4 28 c4
 x6:BX W g6 130 [A0 none 0 0,A0 none 0 0,A0 none 0 0,A0 none 0 0,us,ul,up,I_ 0,I_ lim]
 s:qK W w.heap.size us
 l:OI W w.heap.size ul low
 p:OS jr 3 204 W w.heap.size up (An 16 dV.zero)
 b:Below w.heap.size w W
 h:w.heap.size<g4/\w.heap.size<g6/\g4≠g6
section
variable {w W V:World} {g4 g6:Nat} {us ul up:Value} {low:List Int} {lim:Int} {c4:List Value}
theorem PB.below (h:PB w W g4 g6 us ul up low lim c4) (hb:Below W.heap.size W V):PB w V g4 g6 us ul up low lim c4:=
 ⟨h.x2.below hb,h.x4.below hb,h.x6.below hb,by obtain ⟨ss,h1,h2,h3⟩:=h.s;exact ⟨ss,h1,h2.below hb,h3⟩,h.l.below hb,h.p.below hb,h.b.trans (hb.mono h.b.size),h.h⟩
theorem PB.other (h:PB w W g4 g6 us ul up low lim c4) {g:Nat} {cs:List Value} (hx:BX W g 28 cs) (h4:g4≠g) (hg:w.heap.size<g) (l:List Value):PB w (sets W g 0 l) g4 g6 us ul up low lim c4:=by
 have h6:g6≠g:=fun e=>by
  have h1:W.heap[g6]?=some _:=h.x6;have h2:W.heap[g]?=some _:=hx;rw [e,h2] at h1;simp at h1
 exact ⟨h.x2.iq (by omega) l 0,h.x4.iq h4 l 0,h.x6.iq h6 l 0,by obtain ⟨ss,h1,h2,h3⟩:=h.s;exact ⟨ss,h1,OS.sets (by decide) l 0 hx h2,h3⟩,(OS.sets (by decide) l 0 hx h.l.os).oi,OS.sets (by decide) l 0 hx h.p,dP (by omega) l 0 h.b,h.h⟩
theorem PB.turn (h:PB w W g4 g6 us ul up low lim c4) (l:List Value) (hl:l.length=c4.length):PB w (sets W g4 0 l) g4 g6 us ul up low lim l:=
 ⟨h.x2.iq (by have:=h.h;omega) _ 0,h.x4.sets _ hl,h.x6.iq (Ne.symm h.h.2.2) _ 0,by obtain ⟨ss,h1,h2,h3⟩:=h.s;exact ⟨ss,h1,OS.sets (by decide) l 0 h.x4 h2,h3⟩,(OS.sets (by decide) _ 0 h.x4 h.l.os).oi,OS.sets (by decide) _ 0 h.x4 h.p,dP (by have:=h.h;omega) _ 0 h.b,h.h⟩
theorem PB.app (h:PB w W g4 g6 us ul up low lim c4) (hg:W.grownBy V ul.ownBlock) {OQ:Value} {TM:List Int} (ho:OI V w.heap.size OQ TM):PB w (V.setCell ⟨g6,5,none⟩ OQ) g4 g6 us OQ up TM lim c4:=by
 have x6:BX V g6 _ _:=h.x6.dw h.l.os hg (by decide);have x2:BX V w.heap.size _ _:=h.x2.dw h.l.os hg (by decide);have x4:BX V g4 _ _:=h.x4.dw h.l.os hg (by decide);have OT:=aK V g6 5 OQ;refine ⟨x2.other (by have:=h.h;omega) 5 OQ,x4.other h.h.2.2 5 OQ,x6.set 5 OQ,?_,(ho.os.dh OT x6 (by decide)).oi,(h.p.dw h.l.os hg (by decide)).dh OT x6 (by decide),(Below.dN h.b h.l.os hg aW h.b.size).setCell (p:=⟨g6,5,none⟩) (by have:=h.h;show w.heap.size<=g6;omega) OQ,h.h⟩;obtain ⟨ss,h1,h2,h3⟩:=h.s;exact ⟨ss,h1,(h2.dw h.l.os hg (by decide)).dh OT x6 (by decide),h3⟩
end
theorem KO.J9 {w w':World} {base:Nat} {row:Option Nat} {um ui ue uc:Value} {k:Kx.Kernel} (h:KO w base um ui ue uc k) (hg:w.grownBy w' row) (hr:∀ g,row=some g->g<base):KO w' base um ui ue uc k:=by
 have hS:∀ {α:Type} {f:α->List Value} {sz:Nat} {e:TypeId} {v:Value} {l:List α},OS f sz e w base v l->OS f sz e w' base v l:=fun {_ _ _ _ v _} h1=>h1.kept hg (by
  cases hv:v.ownBlock with
  | none=>exact .inl rfl
  | some g=>exact .inr fun e=>by have h2:=hr g e.symm;have h3:=(h1.lt g hv).1;omega)
 obtain ⟨⟨ss,hl,ho,hq,hs⟩,hi,⟨ss',hl',ho',hq',hs'⟩,hc⟩:=h;exact ⟨⟨ss,hl,⟨hS ho.1,ho.2.mono hg.size⟩,fun i a b=>⟨(hS (hq i a b).1.os).oi,(hq i a b).2.1.mono hg.size,(hq i a b).2.2⟩,hs⟩,hS hi,⟨ss',hl',⟨hS ho'.1,ho'.2.mono hg.size⟩,fun i a b=>⟨(hq' i a b).1,hS (hq' i a b).2.1,(hq' i a b).2.2.1.mono hg.size,(hq' i a b).2.2.2⟩,hs'⟩,hS hc⟩
def Up (base:Nat) (w V:World):Prop:=w.heap.size<=V.heap.size/\∀ k,base<=k->k<w.heap.size->V.heap[k]?=w.heap[k]?
theorem Up.refl (base:Nat) (w:World):Up base w w:=⟨Ay _,fun _ _ _=>rfl⟩
theorem Up.trans {base:Nat} {a b c:World} (h:Up base a b) (h':Up base b c):Up base a c:=⟨As h.1 h'.1,fun k h1 h2=>(h'.2 k h1 (Ax h2 h.1)).trans (h.2 k h1 h2)⟩
theorem Up.of {base:Nat} {a b:World} (h:Below a.heap.size a b):Up base a b:=⟨h.size,fun k _ h2=>h.block k h2⟩
theorem Up.grown {base:Nat} {a b:World} {row:Option Nat} (h:a.grownBy b row) (hr:∀ g,row=some g->g<base):Up base a b:=⟨h.size,fun k h1 h2=>h.block k h2 (fun e=>by have:=hr k e.symm;omega)⟩
theorem OS.up {α:Type} {f:α->List Value} {sz:Nat} {e:TypeId} {w V:World} {base:Nat} {v:Value} {l:List α} (h:OS f sz e w base v l) (hu:Up base w V):OS f sz e V base v l:=by
 refine ⟨⟨h.1.1,?_⟩,h.2⟩;rcases h.1.2 with hn | ⟨g,cap,cur,rfl,hbg,hg,r⟩
 ·exact .inl hn
 exact .inr ⟨g,cap,cur,rfl,hbg,by rw [hu.2 g hbg (Array.getElem?_eq_some_iff.1 hg).1];exact hg,r⟩
theorem OM.up {w V:World} {base hi:Nat} {u:Value} {m:List (List Int)} (h:OM w base hi u m) (hu:Up base w V):OM V base hi u m:=by
 obtain ⟨ss,hl,ho,hr,hs⟩:=h;exact ⟨ss,hl,⟨ho.1.up hu,ho.2⟩,fun i a b=>⟨((hr i a b).1.os.up hu).oi,(hr i a b).2⟩,hs⟩
theorem KO.up {w V:World} {base:Nat} {um ui ue uc:Value} {k:Kx.Kernel} (h:KO w base um ui ue uc k) (hu:Up base w V):KO V base um ui ue uc k:=by
 obtain ⟨hm,hi,⟨ss',hl',ho',hq',hs'⟩,hc⟩:=h;exact ⟨(hm.up hu).mono aW hu.1,hi.up hu,⟨ss',hl',⟨ho'.1.up hu,ho'.2.mono hu.1⟩,fun i a b=>⟨(hq' i a b).1,(hq' i a b).2.1.up hu,(hq' i a b).2.2.1.mono hu.1,(hq' i a b).2.2.2⟩,hs'⟩,hc.up hu⟩
theorem qK.up {w V:World} {base:Nat} {u:Value} (h:qK w base u) (hu:Up base w V):qK V base u:=by
 obtain ⟨ss,h1,h2,h3⟩:=h;exact ⟨ss,h1,h2.up hu,h3⟩
def IE (w:World) (base:Nat) (um ui ue uc us ul up:Value) (p:aH):Prop:=∀ V,Up base w V->RP V um ui ue uc us ul up p
theorem IE.rp {w:World} {base:Nat} {um ui ue uc us ul up:Value} {p:aH} (h:IE w base um ui ue uc us ul up p):RP w um ui ue uc us ul up p:=h w (Up.refl _ _)
theorem IE.up {w V:World} {base:Nat} {um ui ue uc us ul up:Value} {p:aH} (h:IE w base um ui ue uc us ul up p) (hu:Up base w V):IE V base um ui ue uc us ul up p:=fun U h'=>h U (hu.trans h')
def Gs (w:World) (p:aH) (more:List Value) (en:Ending) (w':World):Prop:=
 ∃ um ui ue uc us ul up,en=.returned (.tuple (bU um ui ue uc us ul up p.hand p.limit :: more).toArray)/\IE w' w.heap.size um ui ue uc us ul up p/\Below w.heap.size w w'
theorem Up.sets {base g:Nat} (hg:g<base) (l:List Value):∀ (i:Nat) (w:World),Up base w (Go.Proofs.YtecnmehlbfklnaaGreatDoor.sets w g i l):=by
 induction l with
 | nil=>intro i w;exact Up.refl _ _
 | cons v l ih=>intro i w;exact (Up.grown (aK w g i v) (fun q e=>by cases e;exact hg)).trans (ih (i+1) _)
theorem oK {w:World} {g t:Nat} {a b c d:Value} {l:List Value} (h:BX w g t (a :: b :: c :: d :: l)) (x y z u:Value):BX (sets w g 0 [x,y,z,u]) g t (x :: y :: z :: u :: l):=(((h.set 0 x).set 1 y).set 2 z).set 3 u
theorem BX.c9 {w:World} {g t:Nat} {x0 x1 x2 x3 x4 x5 x6 x7 x8:Value} (h:BX w g t [x0,x1,x2,x3,x4,x5,x6,x7,x8]):(w.cell? ⟨g,0,none⟩=some x0/\w.cell? ⟨g,1,none⟩=some x1/\w.cell? ⟨g,2,none⟩=some x2/\w.cell? ⟨g,3,none⟩=some x3/\w.cell? ⟨g,4,none⟩=some x4/\w.cell? ⟨g,5,none⟩=some x5/\w.cell? ⟨g,6,none⟩=some x6/\w.cell? ⟨g,7,none⟩=some x7/\w.cell? ⟨g,8,none⟩=some x8):=
 ⟨h.cell 0,h.cell 1,h.cell 2,h.cell 3,h.cell 4,h.cell 5,h.cell 6,h.cell 7,h.cell 8⟩
theorem BX.f9 {w:World} {g t:Nat} {cs:List Value} (h:BX w g t cs):(w.frozen? ⟨g,0,none⟩=false/\w.frozen? ⟨g,1,none⟩=false/\w.frozen? ⟨g,2,none⟩=false/\w.frozen? ⟨g,3,none⟩=false/\w.frozen? ⟨g,4,none⟩=false/\w.frozen? ⟨g,5,none⟩=false/\w.frozen? ⟨g,6,none⟩=false/\w.frozen? ⟨g,7,none⟩=false/\w.frozen? ⟨g,8,none⟩=false):=
 ⟨h.frozen 0,h.frozen 1,h.frozen 2,h.frozen 3,h.frozen 4,h.frozen 5,h.frozen 6,h.frozen 7,h.frozen 8⟩
end Go.Proofs.YtecnmehlbfklnaaGreatDoor
