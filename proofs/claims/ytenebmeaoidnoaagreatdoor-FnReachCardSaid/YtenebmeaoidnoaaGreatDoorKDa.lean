/- KD1, KD2, KD3, KD4, joined. -/
import Derived.Test.YtenebmeaoidnoaaGreatDoorKC25
import Derived.Test.YtenebmeaoidnoaaGreatDoorKY
import Derived.Test.YtenebmeaoidnoaaGreatDoorKR
namespace Go.Proofs.YtenebmeaoidnoaaGreatDoor
open Go.RowKit
theorem sane_right {s:Kx.Str} (h:Kx.rightOk s=true):s.size≤4:=by
  unfold Kx.rightOk at h;simp only [Bool.and_eq_true,decide_eq_true_eq] at h;exact h.2
theorem sane_of_ok {k:Kx.Kernel} (h:Kx.kernelOk k=true):SaneK k:=by
  obtain ⟨_,h2,h12,_,h3,_⟩:=kernelOk_parts h;refine ⟨fun x hx=>?_,fun e he s hs=>?_⟩
  · obtain ⟨f,hf,rfl⟩:=Kx.mem_inf hx;rcases Kx.infoOk_iff.1 ((Kx.infosOk_iff.1 h2).2 f (by omega)) with h0 | h0
    · rw [h0];decide
    · have:=sane_right h0.2.2.1;omega
  · have:=sane_right ((Kx.rightsOk_iff.1 (kernelOk_rights h e (by omega))).1 s hs)
    omega
/-- memory of the call's own: rows -/
def MadeM (w:World) (m:List (List Int)) (e:Ending) (w':World):Prop:=∃ u,e=.returned u∧OM w' w.heap.size w'.heap.size u m∧Below w.heap.size w w'
set_option maxHeartbeats 2000000 in
set_option maxRecDepth 100000 in
theorem l2New_c (w:World):Calls Tryz.prog 140 #[] w (MadeM w (List.replicate 12 [0,0,0,0])):=by
  have hmk:=mk4;go_enter Tryz.func140,Tryz.ntmps140;go_wp2_with fail;go_loopw [1,2] (fun out i wr=>∃ k:Nat,i=.int .i64 k∧k≤12∧Hid (OM wr w.heap.size wr.heap.size out (List.replicate k [0,0,0,0]))∧Hid (Below w.heap.size w wr)) (fun _ i _=>12 - (intOf i).toNat)
  case atStart=>exact ⟨0,rfl,Nat.zero_le _,(OM.lit0 nR_).mono nR_ (by simp),bR_.alloc nR_ _⟩
  case round =>
    obtain ⟨k,rfl,hk,ho,hb⟩:=hrel
    by_cases hlt:k<12
    · have hlI:(k:Int)<12:=by omega
      have Htk:=hI_ (show List.replicate (k+1) [(0:Int),0,0,0]=List.replicate k [0,0,0,0] ++ [[0,0,0,0]] from List.replicate_succ');have B1:Below wr.heap.size wr (wr.alloc (.cells #[.int .i64 0,.int .i64 0,.int .i64 0,.int .i64 0] 3)):=bL_;have B2:Below wr.heap.size wr ((wr.alloc (.cells #[.int .i64 0,.int .i64 0,.int .i64 0,.int .i64 0] 3)).alloc (.cells #[.slice (some ⟨wr.heap.size,0,none⟩) 4 4] 42)):=Below.lit B1 _;have hN:OI ((wr.alloc (.cells #[.int .i64 0,.int .i64 0,.int .i64 0,.int .i64 0] 3)).alloc (.cells #[.slice (some ⟨wr.heap.size,0,none⟩) 4 4] 42)) wr.heap.size (slcV ⟨some ⟨wr.heap.size,0,none⟩,4,4⟩) [0,0,0,0]:=
        ((OS.lit (l:=[0,0,0,0]) (f:=intC) (sz:=1) (e:=3) (w:=wr) (base:=wr.heap.size) nR_ _ rfl rfl (by simp)).below (bL_)).oi
      obtain ⟨ss,hsl,hos,hpush⟩:=(ho.out.below B2).push hb.out.size ⟨some ⟨wr.heap.size,0,none⟩,4,4⟩ [0,0,0,0] hN;have Hos:=hI_ hos;have Hp:=hI_ hpush;have hyl:=hI_ (show ss.length+1≤1099511627776 by rw [List.length_replicate] at hsl;omega);have Bw:=hI_ (hb.out.trans (B2.mono hb.out.size));have hz3:=hI_ (show w.heap.size≤((wr.alloc (.cells #[.int .i64 0,.int .i64 0,.int .i64 0,.int .i64 0] 3)).alloc (.cells #[.slice (some ⟨wr.heap.size,0,none⟩) 4 4] 42)).heap.size from Nat.le_trans hb.out.size B2.size);clear hos hpush hsl hN B1 B2;have hR:=hI_ (show RS slcC 1 ((wr.alloc (.cells #[.int .i64 0,.int .i64 0,.int .i64 0,.int .i64 0] 3)).alloc (.cells #[.slice (some ⟨wr.heap.size,0,none⟩) 4 4] 42)) (.slice (some ⟨wr.heap.size+1,0,none⟩) 1 1) [(⟨some ⟨wr.heap.size,0,none⟩,4,4⟩:Slc)] from by
        have h:=RS.one (f:=slcC) (sz:=1) ⟨some ⟨wr.heap.size,0,none⟩,4,4⟩ #[.slice (some ⟨wr.heap.size,0,none⟩) 4 4] rfl (wr.alloc (.cells #[.int .i64 0,.int .i64 0,.int .i64 0,.int .i64 0] 3)) 42;rw [World.size_alloc] at h;exact h)
      go_wp2_with (at_builtin;refine wpList_appS tiRow rfl _ _ rfl w.heap.size _ ss rfl Hos.out _ [(⟨some ⟨wr.heap.size,0,none⟩,4,4⟩:Slc)] rfl (hR.out) hyl.out hz3.out ?_;intro v3 w4 ho4 hg4 _;have Ho4:=hI_ ho4;have Hg4:=hI_ hg4;clear ho4 hg4);go_roundw
      case rel =>
        refine ⟨k+1,by go_num,by omega,?_,?_⟩
        · show OM _ _ _ _ _;rw [Htk.out];exact Hp.out _ _ Ho4.out Hg4.out
        · exact Below.appS Bw.out Hos.out Hg4.out nR_ hz3.out
      case measure=>simp [intOf];omega
    · obtain rfl:k=12:=by omega
      go_wp2_with fail;go_ret;exact ⟨_,rfl,ho.out,hb.out⟩
set_option maxHeartbeats 2000000 in
set_option maxRecDepth 100000 in
theorem l31New_c (w:World):Calls Tryz.prog 141 #[] w (MadeM w (List.replicate 16 [])):=by
  go_enter Tryz.func141,Tryz.ntmps141;go_wp2_with fail;go_loopw [1,2] (fun out i wr=>∃ k:Nat,i=.int .i64 k∧k≤16∧Hid (OM wr w.heap.size wr.heap.size out (List.replicate k []))∧Hid (Below w.heap.size w wr)) (fun _ i _=>16 - (intOf i).toNat)
  case atStart=>exact ⟨0,rfl,Nat.zero_le _,(OM.lit0 nR_).mono nR_ (by simp),bR_.alloc nR_ _⟩
  case round =>
    obtain ⟨k,rfl,hk,ho,hb⟩:=hrel
    by_cases hlt:k<16
    · have hlI:(k:Int)<16:=by omega
      have Htk:=hI_ (show List.replicate (k+1) ([]:List Int)=List.replicate k [] ++ [[]] from List.replicate_succ');have B1:Below wr.heap.size wr (wr.alloc (.cells #[] 3)):=bL_;have B2:Below wr.heap.size wr ((wr.alloc (.cells #[] 3)).alloc (.cells #[.slice (some ⟨wr.heap.size,0,none⟩) 0 0] 42)):=Below.lit B1 _;have hN:OI ((wr.alloc (.cells #[] 3)).alloc (.cells #[.slice (some ⟨wr.heap.size,0,none⟩) 0 0] 42)) wr.heap.size (slcV ⟨some ⟨wr.heap.size,0,none⟩,0,0⟩) []:=
        (OI.lit0 nR_).below (bL_)
      obtain ⟨ss,hsl,hos,hpush⟩:=(ho.out.below B2).push hb.out.size ⟨some ⟨wr.heap.size,0,none⟩,0,0⟩ [] hN;have Hos:=hI_ hos;have Hp:=hI_ hpush;have hyl:=hI_ (show ss.length+1≤1099511627776 by rw [List.length_replicate] at hsl;omega);have Bw:=hI_ (hb.out.trans (B2.mono hb.out.size));have hz3:=hI_ (show w.heap.size≤((wr.alloc (.cells #[] 3)).alloc (.cells #[.slice (some ⟨wr.heap.size,0,none⟩) 0 0] 42)).heap.size from Nat.le_trans hb.out.size B2.size);clear hos hpush hsl hN B1 B2;have hR:=hI_ (show RS slcC 1 ((wr.alloc (.cells #[] 3)).alloc (.cells #[.slice (some ⟨wr.heap.size,0,none⟩) 0 0] 42)) (.slice (some ⟨wr.heap.size+1,0,none⟩) 1 1) [(⟨some ⟨wr.heap.size,0,none⟩,0,0⟩:Slc)] from by
        have h:=RS.one (f:=slcC) (sz:=1) ⟨some ⟨wr.heap.size,0,none⟩,0,0⟩ #[.slice (some ⟨wr.heap.size,0,none⟩) 0 0] rfl (wr.alloc (.cells #[] 3)) 42;rw [World.size_alloc] at h;exact h)
      go_wp2_with (at_builtin;refine wpList_appS tiRow rfl _ _ rfl w.heap.size _ ss rfl Hos.out _ [(⟨some ⟨wr.heap.size,0,none⟩,0,0⟩:Slc)] rfl (hR.out) hyl.out hz3.out ?_;intro v3 w4 ho4 hg4 _;have Ho4:=hI_ ho4;have Hg4:=hI_ hg4;clear ho4 hg4);go_roundw
      case rel =>
        refine ⟨k+1,by go_num,by omega,?_,?_⟩
        · show OM _ _ _ _ _;rw [Htk.out];exact Hp.out _ _ Ho4.out Hg4.out
        · exact Below.appS Bw.out Hos.out Hg4.out nR_ hz3.out
      case measure=>simp [intOf];omega
    · obtain rfl:k=16:=by omega
      go_wp2_with fail;go_ret;exact ⟨_,rfl,ho.out,hb.out⟩
/-- rows of texts that are read -/
def RMS (w:World) (v:Value) (m:List (List Kx.Str)):Prop:=∃ vs:List Value,vs.length=m.length∧RS valC 1 w v vs∧∀ i (h:i<vs.length) (h':i<m.length),RStr w vs[i] m[i]
theorem RMS.at {w:World} {v:Value} {m:List (List Kx.Str)} (h:RMS w v m) {k:Nat} (hk:k<m.length) :
    ∃ b off cap u,v=.slice (some ⟨b,off,none⟩) m.length cap∧b<w.heap.size∧w.cell? ⟨b,off+k,none⟩=some u∧RStr w u m[k]:=by
  obtain ⟨vs,hl,hs,hr⟩:=h;have hk':k<vs.length:=by omega
  obtain ⟨b,off,cap,e,hb,hc⟩:=hs.at hk';rw [hl] at e;have:=hc 0 _ rfl;rw [Nat.mul_one,Nat.add_zero] at this;exact ⟨b,off,cap,_,e,hb,this,hr k hk' hk⟩
theorem RMS.below {w w':World} {v:Value} {m:List (List Kx.Str)} (h:RMS w v m) (hb:Below w.heap.size w w'):RMS w' v m:=by
  obtain ⟨vs,hl,hs,hr⟩:=h;exact ⟨vs,hl,RS.below hs hb,fun i h h'=>RS.below (hr i h h') hb⟩
theorem mk12 (w:World):(Instr.makeSlice 24 (.int .i64 12) (.int .i64 12)).run Tryz.prog w=.ok (.slice (some ⟨w.heap.size,0,none⟩) 12 12) (w.alloc (.cells (flat infoC (List.replicate 12 Kx.Info.zero)).toArray 45)):=by kernel_rfl
/-- a kernel of the call's own comes out, and more -/
def MadeK (w:World) (k:Kx.Kernel) (more:List Value) (en:Ending) (w':World):Prop:=
  ∃ um ui ue uc,en=.returned (.tuple (.agg #[um,ui,ue,uc] :: more).toArray)∧KO w' w.heap.size um ui ue uc k∧Below w.heap.size w w'
set_option maxHeartbeats 8000000 in
set_option maxRecDepth 100000 in
theorem KernelNew_c (rs:List (List Kx.Str)) (v:Value) (w:World) (h:RMS w v rs) (h3:rs.length=3) (hok:∀ r ∈ rs,Kx.rightsOk r=true) :
    Calls Tryz.prog 103 #[v] w (MadeK w (Kx.kernelNew rs) [.bool true]):=by
  obtain ⟨bv,fv,cv,ev0⟩:∃ bv fv cv,v=.slice (some ⟨bv,fv,none⟩) rs.length cv:=by obtain ⟨bv,fv,cv,_,ev0,_⟩:=h.at (k:=0) (by omega);exact ⟨bv,fv,cv,ev0⟩
  rw [h3] at ev0;subst ev0;obtain ⟨w1,hw1⟩:∃ w1,w.alloc (.cells #[.slice none 0 0,.slice none 0 0,.slice none 0 0,.slice none 0 0] 28)=w1:=⟨_,rfl⟩;have Bw:=hI_ (show Below w.heap.size w w1 from hw1 ▸ bL_);have X1:=hI_ (show BX w1 w.heap.size 28 [.slice none 0 0,.slice none 0 0,.slice none 0 0,.slice none 0 0] from (hw1 ▸ BX.new w _ _:BX w1 _ _ _));have s1:w.heap.size<w1.heap.size:=by rw [←hw1];simp
  have HR:=hI_ h;have Hok:=hI_ hok;have H3:=hI_ h3;obtain ⟨d,hd1⟩:∃ d,w1.drew=d:=⟨_,rfl⟩;have Bd:Below w1.heap.size w1 d:=hd1 ▸ Below.drewB bR_;have Hd:=hI_ hd1;clear hd1;have Bwd:=hI_ (Bw.out.trans (Bd.mono Bw.out.size));have HBd:=hI_ Bd;have hmk:=mk12;clear h hok Bd h3;go_enter Tryz.func103,Tryz.ntmps103;go_wp2_with fail;refine wpL (S:=(fun _:World=>True)) (xs:=[6]) (by kernel_rfl) (by exact trivial) (fun hHeld=>?_);rw [Hd.out]
  refine wpAnyL_J (J:=fun a0 l a W=>∃ (b0 b1 b2 b3 b4 b5:Bool) (v6 v7 v8 v9 v10 v4:Value),l=#[b0,b1,b2,b3,b4,b5,false]∧a=putsA a0 [(6,v6),(7,v7),(8,v8),(9,v9),(10,v10),(4,v4)]∧Hid (Below d.heap.size d W)∧Hid (b0=true→OM W d.heap.size W.heap.size v6 (List.replicate 12 [0,0,0,0]))∧Hid (b1=true→OS infoC 3 45 W d.heap.size v7 (List.replicate 12 Kx.Info.zero))∧Hid (b2=true→OE W d.heap.size W.heap.size v8 [])∧Hid (b3=true→OS cachedC 4 33 W d.heap.size v9 [])∧Hid (b4=true→(b0=true∧b1=true∧b2=true∧b3=true)∧v10=.agg #[v6,v7,v8,v9])∧Hid (b5=true→∃ g,v4=.pointer (some ⟨g,0,none⟩)∧d.heap.size≤g∧BX W g 28 [.slice none 0 0,.slice none 0 0,.slice none 0 0,.slice none 0 0]))
    (rs:=[0,1,2,3,4,5]) (ts:=[]) (xs:=[6]) (by kernel_rfl) (by kernel_rfl) (by kernel_rfl) ?hts ?hS ?hend ?hs _ _ _ (by kernel_rfl) ?h0
  case hts=>rintro l a W ⟨b0,b1,b2,b3,b4,b5,v6,v7,v8,v9,v10,v4,rfl,rfl,f0,g0,g1,g2,g3,g4,g5⟩;exact ⟨rfl,rfl⟩
  case hS=>rintro l a W ⟨b0,b1,b2,b3,b4,b5,v6,v7,v8,v9,v10,v4,rfl,rfl,f0,g0,g1,g2,g3,g4,g5⟩;exact trivial
  case h0=>exact ⟨false,false,false,false,false,false,undef,undef,undef,undef,undef,undef,rfl,(by simp only [putsA,List.foldl,Act.put,List.setIfInBounds_toArray,List.set_cons_zero,List.set_cons_succ]),hI_ bR_,hI_ nofun,hI_ nofun,hI_ nofun,hI_ nofun,hI_ nofun,hI_ nofun⟩
  case hs =>
    refine .cons rfl ?o0 (.cons rfl ?o1 (.cons rfl ?o2 (.cons rfl ?o3 (.cons rfl ?o4 (.cons rfl ?o5 (.nil))))))
    case o0 =>
      rintro l a W ⟨b0,b1,b2,b3,b4,b5,v6,v7,v8,v9,v10,v4,rfl,rfl,f0,g0,g1,g2,g3,g4,g5⟩ h0 hd K hK;obtain rfl:b0=false:=h0;clear hd;rw [if_pos (by rfl)];simp only [putsA,List.foldl,Act.put,List.getElem_toArray,List.getElem_cons_zero,List.setIfInBounds_toArray,List.set_cons_zero,List.set_cons_succ];go_simp;go_at_call 140;refine (l2New_c W).mono ?_;rintro en W2 ⟨u,rfl,ho,hb⟩;exact hK.out _ _ ⟨true,b1,b2,b3,b4,b5,u,v7,v8,v9,v10,v4,rfl,(by simp only [putsA,List.foldl,Act.put,List.setIfInBounds_toArray,List.set_cons_zero,List.set_cons_succ]),hI_ (f0.out.trans (hb.mono f0.out.size)),hI_ (fun _=>ho.mono f0.out.size nR_),hI_ (fun h=>(g1.out h).below hb),hI_ (fun h=>((g2.out h).below hb).mono nR_ hb.size),hI_ (fun h=>(g3.out h).below hb),hI_ (fun h=>absurd (g4.out h).1.1 (by decide)),hI_ (fun h=>by obtain ⟨g,e,h1,h2⟩:=g5.out h;exact ⟨g,e,h1,h2.below hb⟩)⟩
    case o1 =>
      rintro l a W ⟨b0,b1,b2,b3,b4,b5,v6,v7,v8,v9,v10,v4,rfl,rfl,f0,g0,g1,g2,g3,g4,g5⟩ h0 hd K hK;obtain rfl:b1=false:=h0;clear hd;rw [if_pos (by rfl)];simp only [putsA,List.foldl,Act.put,List.getElem_toArray,List.getElem_cons_zero,List.getElem_cons_succ,List.setIfInBounds_toArray,List.set_cons_zero,List.set_cons_succ];go_simp;have hb:Below W.heap.size W (W.alloc (.cells (flat infoC (List.replicate 12 Kx.Info.zero)).toArray 45)):=bL_
      exact hK.out _ _ ⟨b0,true,b2,b3,b4,b5,v6,.slice (some ⟨W.heap.size,0,none⟩) 12 12,v8,v9,v10,v4,rfl,(by simp only [putsA,List.foldl,Act.put,List.setIfInBounds_toArray,List.set_cons_zero,List.set_cons_succ]),hI_ (f0.out.trans (hb.mono f0.out.size)),hI_ (fun h=>(g0.out h).go hb),hI_ (fun _=>OS.lit f0.out.size _ rfl rfl (by simp)),hI_ (fun h=>((g2.out h).below hb).mono nR_ hb.size),hI_ (fun h=>(g3.out h).below hb),hI_ (fun h=>absurd (g4.out h).1.2.1 (by decide)),hI_ (fun h=>by obtain ⟨g,e,h1,h2⟩:=g5.out h;exact ⟨g,e,h1,h2.below hb⟩)⟩
    case o2 =>
      rintro l a W ⟨b0,b1,b2,b3,b4,b5,v6,v7,v8,v9,v10,v4,rfl,rfl,f0,g0,g1,g2,g3,g4,g5⟩ h0 hd K hK;obtain rfl:b2=false:=h0;clear hd;rw [if_pos (by rfl)];simp only [putsA,List.foldl,Act.put,List.getElem_toArray,List.getElem_cons_zero,List.getElem_cons_succ,List.setIfInBounds_toArray,List.set_cons_zero,List.set_cons_succ];go_simp;have hb:Below W.heap.size W (W.alloc (.cells #[] 40)):=bL_;exact hK.out _ _ ⟨b0,b1,true,b3,b4,b5,v6,v7,.slice (some ⟨W.heap.size,0,none⟩) 0 0,v9,v10,v4,rfl,(by simp only [putsA,List.foldl,Act.put,List.setIfInBounds_toArray,List.set_cons_zero,List.set_cons_succ]),hI_ (f0.out.trans (hb.mono f0.out.size)),hI_ (fun h=>(g0.out h).go hb),hI_ (fun h=>(g1.out h).below hb),hI_ (fun _=>(OE.lit0 f0.out.size).mono nR_ (by simp)),hI_ (fun h=>(g3.out h).below hb),hI_ (fun h=>absurd (g4.out h).1.2.2.1 (by decide)),hI_ (fun h=>by obtain ⟨g,e,h1,h2⟩:=g5.out h;exact ⟨g,e,h1,h2.below hb⟩)⟩
    case o3 =>
      rintro l a W ⟨b0,b1,b2,b3,b4,b5,v6,v7,v8,v9,v10,v4,rfl,rfl,f0,g0,g1,g2,g3,g4,g5⟩ h0 hd K hK;obtain rfl:b3=false:=h0;clear hd;rw [if_pos (by rfl)];simp only [putsA,List.foldl,Act.put,List.getElem_toArray,List.getElem_cons_zero,List.getElem_cons_succ,List.setIfInBounds_toArray,List.set_cons_zero,List.set_cons_succ];go_simp;have hb:Below W.heap.size W (W.alloc (.cells #[] 33)):=bL_;exact hK.out _ _ ⟨b0,b1,b2,true,b4,b5,v6,v7,v8,.slice (some ⟨W.heap.size,0,none⟩) 0 0,v10,v4,rfl,(by simp only [putsA,List.foldl,Act.put,List.setIfInBounds_toArray,List.set_cons_zero,List.set_cons_succ]),hI_ (f0.out.trans (hb.mono f0.out.size)),hI_ (fun h=>(g0.out h).go hb),hI_ (fun h=>(g1.out h).below hb),hI_ (fun h=>((g2.out h).below hb).mono nR_ hb.size),hI_ (fun _=>OS.lit0 f0.out.size),hI_ (fun h=>absurd (g4.out h).1.2.2.2 (by decide)),hI_ (fun h=>by obtain ⟨g,e,h1,h2⟩:=g5.out h;exact ⟨g,e,h1,h2.below hb⟩)⟩
    case o4 =>
      rintro l a W ⟨b0,b1,b2,b3,b4,b5,v6,v7,v8,v9,v10,v4,rfl,rfl,f0,g0,g1,g2,g3,g4,g5⟩ h0 hd K hK;obtain rfl:b4=false:=h0;obtain rfl:b0=true:=hd 0 (by kernel_rfl);obtain rfl:b1=true:=hd 1 (by kernel_rfl);obtain rfl:b2=true:=hd 2 (by kernel_rfl);obtain rfl:b3=true:=hd 3 (by kernel_rfl);clear hd;rw [if_pos (by rfl)];simp only [putsA,List.foldl,Act.put,List.getElem_toArray,List.getElem_cons_zero,List.getElem_cons_succ,List.setIfInBounds_toArray,List.set_cons_zero,List.set_cons_succ];obtain ⟨_,a6,c6,e6,_,_⟩:=(g0.out rfl).rm.len;obtain rfl:v6=.slice a6 12 c6:=e6;obtain ⟨a7,c7,e7,_,_⟩:=RS.val (g1.out rfl).rs;obtain rfl:v7=.slice a7 12 c7:=e7;obtain ⟨_,a8,c8,e8,_,_⟩:=(g2.out rfl).re.len;obtain rfl:v8=.slice a8 0 c8:=e8;obtain ⟨a9,c9,e9,_,_⟩:=RS.val (g3.out rfl).rs;obtain rfl:v9=.slice a9 0 c9:=e9;go_simp
      exact hK.out _ _ ⟨true,true,true,true,true,b5,_,_,_,_,.agg #[.slice a6 12 c6,.slice a7 12 c7,.slice a8 0 c8,.slice a9 0 c9],v4,rfl,(by simp only [putsA,List.foldl,Act.put,List.setIfInBounds_toArray,List.set_cons_zero,List.set_cons_succ]),f0,g0,g1,g2,g3,hI_ (fun _=>⟨⟨rfl,rfl,rfl,rfl⟩,rfl⟩),g5⟩
    case o5 =>
      rintro l a W ⟨b0,b1,b2,b3,b4,b5,v6,v7,v8,v9,v10,v4,rfl,rfl,f0,g0,g1,g2,g3,g4,g5⟩ h0 hd K hK;obtain rfl:b5=false:=h0;clear hd;rw [if_pos (by rfl)];simp only [putsA,List.foldl,Act.put,List.getElem_toArray,List.getElem_cons_zero,List.getElem_cons_succ,List.setIfInBounds_toArray,List.set_cons_zero,List.set_cons_succ];go_simp;have hb:Below W.heap.size W (W.alloc (.cells #[.slice none 0 0,.slice none 0 0,.slice none 0 0,.slice none 0 0] 28)):=bL_;exact hK.out _ _ ⟨b0,b1,b2,b3,b4,true,v6,v7,v8,v9,v10,.pointer (some ⟨W.heap.size,0,none⟩),rfl,(by simp only [putsA,List.foldl,Act.put,List.setIfInBounds_toArray,List.set_cons_zero,List.set_cons_succ]),hI_ (f0.out.trans (hb.mono f0.out.size)),hI_ (fun h=>(g0.out h).go hb),hI_ (fun h=>(g1.out h).below hb),hI_ (fun h=>((g2.out h).below hb).mono nR_ hb.size),hI_ (fun h=>(g3.out h).below hb),g4,hI_ (fun _=>⟨_,rfl,f0.out.size,BX.new W _ _⟩)⟩
  case hend =>
    rintro l a W ⟨b0,b1,b2,b3,b4,b5,v6,v7,v8,v9,v10,v4,rfl,rfl,f0,g0,g1,g2,g3,g4,g5⟩ hall hHeld;obtain rfl:b0=true:=hall 0 (by rfl);obtain rfl:b1=true:=hall 1 (by rfl);obtain rfl:b2=true:=hall 2 (by rfl);obtain rfl:b3=true:=hall 3 (by rfl);obtain rfl:b4=true:=hall 4 (by rfl);obtain rfl:b5=true:=hall 5 (by rfl);clear hall;obtain ⟨g,rfl,hg,hx⟩:=g5.out rfl;obtain ⟨_,rfl⟩:=g4.out rfl;have hBs:=Bwd.out.size;have hgB:w.heap.size≤g:=Nat.le_trans hBs hg;have hO:=hI_ (show KO W w.heap.size v6 v7 v8 v9 ⟨List.replicate 12 [0,0,0,0],List.replicate 12 Kx.Info.zero,[],[]⟩ from ⟨(g0.out rfl).mono hBs nR_,(g1.out rfl).mono hBs,(g2.out rfl).mono hBs nR_,(g3.out rfl).mono hBs⟩);obtain ⟨_,a6,c6,e6,_,_⟩:=(g0.out rfl).rm.len;obtain rfl:v6=.slice a6 12 c6:=e6;obtain ⟨a7,c7,e7,_,_⟩:=RS.val (g1.out rfl).rs;obtain rfl:v7=.slice a7 12 c7:=e7;obtain ⟨_,a8,c8,e8,_,_⟩:=(g2.out rfl).re.len
    obtain rfl:v8=.slice a8 0 c8:=e8;obtain ⟨a9,c9,e9,_,_⟩:=RS.val (g3.out rfl).rs;obtain rfl:v9=.slice a9 0 c9:=e9;have hB:=hI_ (((((Bwd.out.trans (f0.out.mono hBs)).setCell (p:=⟨g,0,none⟩) hgB (.slice a6 12 c6)).setCell (p:=⟨g,1,none⟩) hgB (.slice a7 12 c7)).setCell (p:=⟨g,2,none⟩) hgB (.slice a8 0 c8)).setCell (p:=⟨g,3,none⟩) hgB (.slice a9 0 c9));have hsz1:w1.heap.size≤d.heap.size:=HBd.out.size;have hb1:Below w1.heap.size w1 W:=HBd.out.trans (f0.out.mono hsz1);have hn1:w.heap.size≠g:=by omega
    replace X1:=hI_ (show BX ((((W.setCell ⟨g,0,none⟩ (.slice a6 12 c6)).setCell ⟨g,1,none⟩ (.slice a7 12 c7)).setCell ⟨g,2,none⟩ (.slice a8 0 c8)).setCell ⟨g,3,none⟩ (.slice a9 0 c9)) w.heap.size 28 _ from ((((X1.out.below hb1).other hn1 0 _).other hn1 1 _).other hn1 2 _).other hn1 3 _);have hZ:=hI_ (show BX ((((W.setCell ⟨g,0,none⟩ (.slice a6 12 c6)).setCell ⟨g,1,none⟩ (.slice a7 12 c7)).setCell ⟨g,2,none⟩ (.slice a8 0 c8)).setCell ⟨g,3,none⟩ (.slice a9 0 c9)) g 28 [.slice a6 12 c6,.slice a7 12 c7,.slice a8 0 c8,.slice a9 0 c9] from (((hx.set 0 _).set 1 _).set 2 _).set 3 _);replace hO:=hI_ (KO.box (KO.box (KO.box (KO.box hO.out hx boxKernel 0 (.slice a6 12 c6)) (hx.set 0 _) boxKernel 1 (.slice a7 12 c7)) ((hx.set 0 _).set 1 _) boxKernel 2 (.slice a8 0 c8)) (((hx.set 0 _).set 1 _).set 2 _) boxKernel 3 (.slice a9 0 c9));obtain ⟨r0,r1,r2,r3⟩:=hx.c4;obtain ⟨fr0,fr1,fr2,fr3⟩:=hx.f4
    clear f0 g0 g1 g2 g3 g4 g5 hx HBd hb1 hHeld Bw;change wpAnyL _ _ _ _ _ _ 1 _ _ _;simp only [putsA,List.foldl,Act.put,List.setIfInBounds_toArray,List.set_cons_zero,List.set_cons_succ];refine lastL 6 (by rfl) (by kernel_rfl) rfl (fun K hK=>?_);rw [if_pos (by rfl)];go_simp;refine hK.out _ _ ?_;clear hK K;refine nL ?_;refine doneL (by kernel_rfl) ?_ _;obtain ⟨V,hV⟩:∃ V,((((W.setCell ⟨g,0,none⟩ (.slice a6 12 c6)).setCell ⟨g,1,none⟩ (.slice a7 12 c7)).setCell ⟨g,2,none⟩ (.slice a8 0 c8)).setCell ⟨g,3,none⟩ (.slice a9 0 c9))=V:=⟨_,rfl⟩;rw [hV] at hB hZ X1 hO ⊢;have Hn1:=hI_ hn1;have HgB:=hI_ hgB;clear hV r0 r1 r2 r3 fr0 fr1 fr2 fr3 hn1 hgB hg hsz1 hBs Hd hmk;go_wp2_with fail
    go_loopw [5] (fun i wr=>∃ (j:Nat) (ue:Value),i=.int .i64 j∧j≤3∧Hid (KO wr w.heap.size (.slice a6 12 c6) (.slice a7 12 c7) ue (.slice a9 0 c9) ⟨List.replicate 12 [0,0,0,0],List.replicate 12 Kx.Info.zero,(rs.take j).map fun r=>⟨r,-1⟩,[]⟩)∧Hid (BX wr g 28 [.slice a6 12 c6,.slice a7 12 c7,ue,.slice a9 0 c9])∧Hid (BX wr w.heap.size 28 [.slice none 0 0,.slice none 0 0,.slice none 0 0,.slice none 0 0])∧Hid (Below w.heap.size w wr)) (fun i _=>3 - (intOf i).toNat)
    case atStart=>exact ⟨0,_,rfl,Nat.zero_le _,hO,hZ,X1,hB⟩
    case round =>
      clear hO hZ X1 hB;obtain ⟨j,ue,rfl,hj,hO,hZ,X1,hB⟩:=hrel
      by_cases hlt:j<3
      · have hlI:(j:Int)<3:=by omega
        have hlr:j<rs.length:=by rw [H3.out];exact hlt
        obtain ⟨b,off,cap1,u,ev,hwb,q0,hru⟩:=HR.out.at (k:=j) hlr;rw [H3.out] at ev;simp only [Value.slice.injEq,Option.some.injEq,Addr.mk.injEq] at ev;obtain ⟨⟨rfl,rfl,_⟩,_,rfl⟩:=ev;have hro:=Hok.out rs[j] (List.getElem_mem hlr);have HRv:=hI_ (specRightsValid_c rs[j] u wr (RS.below hru hB.out) (fun x hx=>by have:=sane_right ((Kx.rightsOk_iff.1 hro).1 x hx);omega))
        have Htk:=hI_ (show ((rs.take (j+1)).map fun r=>(⟨r,-1⟩:Kx.Env))=((rs.take j).map fun r=>⟨r,-1⟩) ++ [⟨rs[j],-1⟩] by rw [List.take_succ_eq_append_getElem hlr,List.map_append];rfl)
        have hrl:=hI_ (show ([]:List Kx.Str).length+rs[j].length≤1099511627776 by have:=(Kx.rightsOk_iff.1 hro).2.2;simp;omega);rw [hro] at HRv;replace hru:=RS.below hru hB.out;obtain ⟨a5,c5,rfl,_,_⟩:=RS.val hru;have Hru:=hI_ hru;clear hru hro;generalize rs[j]=ws at q0 Hru Htk hrl HRv;have y0:=(hB.out.cell (p:=⟨bv,fv+j,none⟩) hwb).trans q0;go_wp2_with fail;refine HRv.out.mono ?_;rintro en w2 ⟨rfl,n2,rfl⟩;have hb0:Below wr.heap.size wr (wr.drewN n2):=blwN wr n2;clear HRv y0;obtain ⟨wq,hwq⟩:∃ wq,wr.drewN n2=wq:=⟨_,rfl⟩;rw [hwq] at hb0 ⊢;clear hwq;replace hZ:=hI_ (hZ.out.below hb0);replace X1:=hI_ (X1.out.below hb0);replace hO:=hI_ (hO.out.below hb0);replace hB:=hI_ (hB.out.trans (hb0.mono hB.out.size));replace Hru:=hI_ (RS.below Hru.out hb0);clear hb0;obtain ⟨_,a1,c1,rfl,_,_⟩:=hO.out.e.re.len
        have hel:((rs.take j).map fun r=>(⟨r,-1⟩:Kx.Env)).length≤3:=by rw [List.length_map];exact Nat.le_trans (List.length_take_le j rs) (by omega)
        have z2:=hZ.out.cell 2;simp only [List.getElem?_cons_zero,List.getElem?_cons_succ] at z2;have hbl:bv<wq.heap.size:=Nat.lt_of_lt_of_le hwb hB.out.size;have z0:=(hB.out.cell (p:=⟨bv,fv+j,none⟩) hwb).trans q0;generalize hen:((rs.take j).map fun r=>(⟨r,-1⟩:Kx.Env)).length=en at hZ hO z2
        obtain ⟨W5,hW5⟩:∃ W5,wq.drew=W5:=⟨_,rfl⟩;have B5:Below wq.heap.size wq W5:=hW5 ▸ Below.drewB bR_;have HW5:=hI_ hW5;have hs5:wq.heap.size≤W5.heap.size:=B5.size;have Hs:=hI_ (show ∀ W,Below wq.heap.size wq W→W.cell? ⟨bv,fv+j,none⟩=some (.slice a5 ws.length c5)∧W.cell? ⟨g,2,none⟩=some (.slice a1 en c1) from fun W hb=>⟨(hb.cell (p:=⟨bv,fv+j,none⟩) hbl).trans z0,(hb.cell (p:=⟨g,2,none⟩) hZ.out.lt).trans z2⟩)
        have B6:Below wq.heap.size wq (W5.alloc (.cells #[] 9)):=Below.lit B5 _;have hBw:=hI_ (show w.heap.size≤wq.heap.size from hB.out.size);clear hW5;go_wp2_with fail;refine wpL (S:=(fun W:World=>W.cell? ⟨bv,fv+j,none⟩=some (.slice a5 ws.length c5)∧W.cell? ⟨g,2,none⟩=some (.slice a1 en c1))) (xs:=[12]) (by kernel_rfl) (by rw [HW5.out];exact Hs.out _ B5) (fun hHeld=>?_)
        rw [HW5.out];rw [HW5.out] at hHeld;refine tL 0 ?_;refine tL 1 ?_;refine tL 3 ?_;refine tL 4 ?_;refine tL 5 ?_;refine tL 6 ?_;refine doL 2 (by kernel_rfl) rfl (fun K hK=>?_);rw [if_pos (by rfl)];go_simp;refine hK.out _ _ ?_ (fun hHeld=>?_)
        · exact Hs.out _ B6
        clear hK K;refine nL ?_;refine doL 7 (by kernel_rfl) rfl (fun K hK=>?_);refine step_appS tiStr rfl _ _ rfl W5.heap.size _ [] rfl (OS.lit0 nR_) _ ws rfl (RS.below Hru.out B6) hrl.out (by simp) ?_;intro v2 w2 ho2 hg2 _;have B7:Below wq.heap.size wq w2:=Below.appS B6 (OS.lit0 (f:=strC) (sz:=1) nR_) hg2 hs5 (by simp;omega);rw [List.nil_append] at ho2;obtain ⟨a8',c8',rfl,_,_⟩:=RS.val ho2.rs;have Ho2:=hI_ ho2;clear hg2 ho2;refine hK.out _ _ ?_ (fun hHeld=>?_)
        · exact Hs.out _ B7
        clear hK K;refine nL ?_;refine tL 8 ?_;refine doL 9 (by kernel_rfl) rfl (fun K hK=>?_);rw [if_pos (by rfl)];go_simp;have B8:Below wq.heap.size wq (w2.alloc (.cells #[.slice a8' ws.length c8',.int .i64 (-1)] 40)):=Below.lit B7 _;have B78:Below w2.heap.size w2 (w2.alloc (.cells #[.slice a8' ws.length c8',.int .i64 (-1)] 40)):=bL_;obtain ⟨ss,hsl,hos,hp⟩:=hO.out.pushEnv hBw.out B8 ⟨a8',ws.length,c8'⟩ (-1) ws ((Ho2.out.below B78).mono hs5);have Hos:=hI_ hos;have Hp:=hI_ hp;have hyl:=hI_ (show ss.length+1≤1099511627776 by have h1:ss.length=((rs.take j).map fun r=>(⟨r,-1⟩:Kx.Env)).length:=hsl;omega)
        have hb8:=hI_ (show w.heap.size≤(w2.alloc (.cells #[.slice a8' ws.length c8',.int .i64 (-1)] 40)).heap.size from Nat.le_trans hBw.out B8.size);clear hos hp hsl B78;refine hK.out _ _ ?_ (fun hHeld=>?_)
        · exact Hs.out _ B8
        clear hK K;refine nL ?_;refine doL 10 (by kernel_rfl) rfl (fun K hK=>?_);refine step_appS tiEnv rfl _ _ rfl w.heap.size _ ss rfl Hos.out _ [((⟨a8',ws.length,c8'⟩:Slc),-1)] rfl (RS.one (f:=slc2C) ((⟨a8',ws.length,c8'⟩:Slc),-1) #[.slice a8' ws.length c8',.int .i64 (-1)] rfl w2 _) hyl.out hb8.out ?_;intro v4 w4 ho4 hg4 _;replace hO:=hI_ (Hp.out w4 v4 ho4 hg4);replace hZ:=hI_ ((hZ.out.below B8).keptO Hos.out hg4 (by decide));replace X1:=hI_ ((X1.out.below B8).keptO Hos.out hg4 (by decide));replace hB:=hI_ (Below.appS (hB.out.trans (B8.mono hBw.out)) Hos.out hg4 nR_ hb8.out);have hc3:=hZ.out.cell 2;have hcf:=hZ.out.frozen 2;have hw2:=(hB.out.cell (p:=⟨bv,fv+j,none⟩) hwb).trans q0;simp only [List.getElem?_cons_zero,List.getElem?_cons_succ] at hc3;obtain ⟨a4,c4,rfl,_,_⟩:=RS.val ho4.rs;clear ho4 hg4;generalize (ss ++ [((⟨a8',ws.length,c8'⟩:Slc),(-1:Int))]).length=nl at *
        refine hK.out _ _ ?_ (fun hHeld=>?_)
        · exact ⟨hw2,hc3⟩
        clear hK K;refine nL ?_;refine tL 11 ?_;refine lastL 12 (by rfl) (by kernel_rfl) rfl (fun K hK=>?_);rw [if_pos (by rfl)];go_simp;refine hK.out _ _ ?_;clear hK K;refine nL ?_;refine doneL (by kernel_rfl) ?_ _;have Hrel:=hI_ (show KO (w4.setCell ⟨g,2,none⟩ (.slice a4 nl c4)) w.heap.size _ _ _ _ ⟨List.replicate 12 [0,0,0,0],List.replicate 12 Kx.Info.zero,(rs.take (j+1)).map fun r=>⟨r,-1⟩,[]⟩ from by rw [Htk.out];exact hO.out.box hZ.out boxKernel 2 _)
        have HZ:=hI_ (hZ.out.set 2 (.slice a4 nl c4));have HX1:=hI_ (X1.out.other Hn1.out 2 (.slice a4 nl c4));have HB:=hI_ (hB.out.setCell (p:=⟨g,2,none⟩) HgB.out (.slice a4 nl c4));go_wp2_with fail;go_roundw
        case rel=>exact ⟨j+1,_,by go_num,by omega,Hrel,HZ,HX1,HB⟩
        case measure=>simp [intOf];omega
      · obtain rfl:j=3:=by omega
        have HKf:=hI_ (show KO wr w.heap.size _ _ ue _ (Kx.kernelNew rs) from by have:=hO.out;rw [show rs.take 3=rs by rw [←H3.out];exact List.take_length] at this;exact this);obtain ⟨_,a5,c5,e5,_,_⟩:=HKf.out.e.re.len;obtain rfl:ue=.slice a5 3 c5:=by rw [e5];simp [Kx.kernelNew,H3.out]
        obtain ⟨z0,z1,z2,z3⟩:=hZ.out.c4;obtain ⟨r0,r1,r2,r3⟩:=X1.out.c4;obtain ⟨fr0,fr1,fr2,fr3⟩:=X1.out.f4;clear hO e5;go_wp2_with fail;obtain ⟨e0,e1,e2,e3,hB4,hK4⟩:=kend X1.out rfl (Kept.of hB.out nR_) ⟨Nat.le_refl _,Nat.le_refl _⟩ (.slice a6 12 c6) (.slice a7 12 c7) (.slice a5 3 c5) (.slice a9 0 c9);refine bodyPost_ret (v:=.tuple #[.agg #[.slice a6 12 c6,.slice a7 12 c7,.slice a5 3 c5,.slice a9 0 c9],.bool true]) (by simp [results,Tryz.results103,go_sem,e0,e1,e2,e3]) rfl ?_;exact ⟨_,_,_,_,rfl,hK4 rfl _ _ _ _ _ HKf.out,hB4.b⟩
/-- a box takes four cells -/
theorem BX.put4 {w:World} {g t:Nat} {cs:List Value} (h:BX w g t cs) (hl:cs.length=4) (a b c d:Value):BX ((((w.setCell ⟨g,0,none⟩ a).setCell ⟨g,1,none⟩ b).setCell ⟨g,2,none⟩ c).setCell ⟨g,3,none⟩ d) g t [a,b,c,d]:=by
  match cs,hl with
  | [x0,x1,x2,x3],_=>exact (((h.set 0 a).set 1 b).set 2 c).set 3 d
theorem KO.put4 {w:World} {base g t:Nat} {cs:List Value} {um ui ue uc:Value} {k:Kx.Kernel} (hO:KO w base um ui ue uc k) (h:BX w g t cs) (ht:Box? t) (a b c d:Value):KO ((((w.setCell ⟨g,0,none⟩ a).setCell ⟨g,1,none⟩ b).setCell ⟨g,2,none⟩ c).setCell ⟨g,3,none⟩ d) base um ui ue uc k:=
  KO.box (KO.box (KO.box (KO.box hO h ht 0 a) (h.set 0 a) ht 1 b) ((h.set 0 a).set 1 b) ht 2 c) (((h.set 0 a).set 1 b).set 2 c) ht 3 d
theorem sA_size:Kx.sA.size≤9223372036854775807:=by decide
set_option maxHeartbeats 8000000 in
set_option maxRecDepth 100000 in
theorem l32Make_c (k:Kx.Kernel) (kd a b c:Int) (vm vi ve vc:Value) (w:World) (h:RK w vm vi ve vc k) (hok:Kx.kernelOk k=true) :
    Calls Tryz.prog 142 #[.agg #[vm,vi,ve,vc],.int .i64 kd,.int .i64 a,.int .i64 b,.int .i64 c] w (MadeK w (Kx.makeK k kd a b c).1 [.int .i64 (Kx.makeK k kd a b c).2.1,.bool ((Kx.makeK k kd a b c).2.2==0)]):=by
  obtain ⟨_,am,cm,rfl,_,_⟩:=h.m.len;obtain ⟨ai,ci,rfl,_,_⟩:=RS.val h.i;obtain ⟨_,ae,ce,rfl,_,_⟩:=h.e.len;obtain ⟨ac,cq,rfl,_,_⟩:=RS.val h.c;obtain ⟨w0,hw0⟩:∃ w0,w.alloc (.cells #[.slice am k.mem.length cm,.slice ai k.infos.length ci,.slice ae k.envs.length ce,.slice ac k.cache.length cq] 28)=w0:=⟨_,rfl⟩;obtain ⟨w1,hw1⟩:∃ w1,w0.alloc (.cells #[.slice none 0 0,.slice none 0 0,.slice none 0 0,.slice none 0 0] 28)=w1:=⟨_,rfl⟩;have B0:Below w.heap.size w w0:=hw0 ▸ bL_;have B1:Below w0.heap.size w0 w1:=hw1 ▸ bL_;have bw:Below w.heap.size w w1:=B0.trans (B1.mono B0.size);have Bw:=hI_ bw;have X0:=(show BX w1 w.heap.size 28 _ from (hw0 ▸ BX.new w _ _:BX w0 _ _ _).below B1);have X1:=hI_ (show BX w1 w0.heap.size 28 [.slice none 0 0,.slice none 0 0,.slice none 0 0,.slice none 0 0] from (hw1 ▸ BX.new w0 _ _:BX w1 _ _ _));have s0:w.heap.size<w0.heap.size:=by rw [←hw0];simp
  have s1:w0.heap.size<w1.heap.size:=by rw [←hw1];simp
  have HC:=hI_ (show Calls Tryz.prog 107 #[.agg #[.slice am k.mem.length cm,.slice ai k.infos.length ci,.slice ae k.envs.length ce,.slice ac k.cache.length cq],.agg #[.int .i64 kd,.int .i64 0,.int .i64 a,.int .i64 b,.int .i64 c,.string ⟨#[97]⟩]] w1 (CallsK w1 (Kx.makeK k kd a b c)) from
    l22Call_c k ⟨kd,0,a,b,c,Kx.sA⟩ 0 _ _ _ _ w1 ⟨h.m.below bw,RS.below h.i bw,h.e.below bw,RS.below h.c bw⟩ hok (sane_of_ok hok) rfl (by decide) sA_size)
  obtain ⟨p0,p1,p2,p3⟩:=BX.c4 X0;clear h hok B0 B1 bw X0;generalize Kx.makeK k kd a b c=r at HC ⊢;go_enter Tryz.func142,Tryz.ntmps142;go_wp2_with fail;refine HC.out.mono ?_;rintro en w2 ⟨um,ui,ue,uc,rfl,ho,hb⟩;replace X1:=hI_ (X1.out.below hb);replace Bw:=hI_ (Bw.out.trans (hb.mono Bw.out.size));obtain ⟨⟨a0,n0,m0,rfl⟩,⟨a1,n1,m1,rfl⟩,⟨a2,n2,m2,rfl⟩,⟨a3,n3,m3,rfl⟩⟩:=ho.sl;have HO:=hI_ ho;have s2:w1.heap.size≤w2.heap.size:=hb.size;clear ho hb HC p0 p1 p2 p3;have B3:Below w2.heap.size w2 (w2.alloc (.cells #[.slice a0 n0 m0,.slice a1 n1 m1,.slice a2 n2 m2,.slice a3 n3 m3] 28)):=bL_;replace X1:=hI_ (X1.out.below B3);replace HO:=hI_ (HO.out.below B3);replace Bw:=hI_ (Bw.out.trans (B3.mono Bw.out.size));obtain ⟨e0,e1,e2,e3,hB4,hK4⟩:=kend X1.out rfl (Kept.of Bw.out nR_) ⟨by omega,by omega⟩ (.slice a0 n0 m0) (.slice a1 n1 m1) (.slice a2 n2 m2) (.slice a3 n3 m3)
  have E:=hI_ (And.intro e0 (And.intro e1 (And.intro e2 e3)));have HB4:=hI_ hB4;have HK4:=hI_ (hK4 rfl _ _ _ _ _ (HO.out.mono (show w.heap.size≤w1.heap.size by omega)));obtain ⟨r0,r1,r2,r3⟩:=X1.out.c4;obtain ⟨fr0,fr1,fr2,fr3⟩:=X1.out.f4;clear e0 e1 e2 e3 hB4 hK4 B3 hw0 hw1;go_wp2_with fail;obtain ⟨e0,e1,e2,e3⟩:=E.out;refine bodyPost_ret (v:=.tuple #[.agg #[.slice a0 n0 m0,.slice a1 n1 m1,.slice a2 n2 m2,.slice a3 n3 m3],.int .i64 r.2.1,.bool (r.2.2==0)]) (by simp [results,Tryz.results142,go_sem,e0,e1,e2,e3]) rfl ?_;exact ⟨_,_,_,_,rfl,HK4.out,HB4.out.b⟩
/-- cells of a box are turned one after the other -/
def sets (w:World) (g:Nat):Nat→List Value→World
  | _,[]=>w
  | i,v :: l=>sets (w.setCell ⟨g,i,none⟩ v) g (i+1) l
theorem BX.setsO {g g' t:Nat} {cs:List Value} (hn:g≠g'):∀ (l:List Value) (i:Nat) {w:World},BX w g t cs→BX (sets w g' i l) g t cs
  | [],_,_,h=>h
  | v :: l,i,_,h=>BX.setsO hn l (i+1) (h.other hn i v)
theorem BX.setsI {g t:Nat}:∀ (l:List Value) (i:Nat) {cs:List Value} {w:World},BX w g t cs→i+l.length=cs.length→BX (sets w g i l) g t (cs.take i ++ l)
  | [],i,cs,_,h,hl=>by
    rw [List.take_of_length_le (by simp at hl;omega),List.append_nil];exact h
  | v :: l,i,cs,w,h,hl=>by
    have h2:=BX.setsI l (i+1) (h.set i v) (by simp at hl ⊢;omega);have e:(cs.set i v).take (i+1)=cs.take i ++ [v]:=by
      rw [List.take_succ_eq_append_getElem (by simp at hl ⊢;omega),List.getElem_set_self,List.take_set_of_le (Nat.le_refl i)]
    rw [e,List.append_assoc] at h2;exact h2
theorem BX.sets {w:World} {g t:Nat} {cs:List Value} (h:BX w g t cs) (l:List Value) (hl:l.length=cs.length):BX (sets w g 0 l) g t l:=by
  have:=BX.setsI l 0 h (by omega)
  simpa using this
theorem OS.sets {α:Type} {f:α→List Value} {sz g t:Nat} {e:TypeId} {base:Nat} {v:Value} {xs:List α} (ht:e≠t):∀ (l:List Value) (i:Nat) {cs:List Value} {w:World},BX w g t cs→OS f sz e w base v xs→OS f sz e (sets w g i l) base v xs
  | [],_,_,_,_,h=>h
  | x :: l,i,_,w,hb,h=>OS.sets ht l (i+1) (hb.set i x) (h.keptT (grown_set1 w g i x) hb ht)
theorem OM.sets {g t base hi:Nat} {u:Value} {m:List (List Int)} (h1:42≠t) (h2:3≠t):∀ (l:List Value) (i:Nat) {cs:List Value} {w:World},BX w g t cs→OM w base hi u m→OM (sets w g i l) base hi u m
  | [],_,_,_,_,h=>h
  | x :: l,i,_,w,hb,h=>OM.sets h1 h2 l (i+1) (hb.set i x) (h.keptT (grown_set1 w g i x) hb h1 h2)
theorem KO.sets {g t base:Nat} {um ui ue uc:Value} {k:Kx.Kernel} (ht:Box? t):∀ (l:List Value) (i:Nat) {cs:List Value} {w:World},BX w g t cs→KO w base um ui ue uc k→KO (sets w g i l) base um ui ue uc k
  | [],_,_,_,_,h=>h
  | x :: l,i,_,_,hb,h=>KO.sets ht l (i+1) (hb.set i x) (h.box hb ht i x)
theorem below_sets {B g:Nat} {a:World} (hg:B≤g):∀ (l:List Value) (i:Nat) {w:World},Below B a w→Below B a (sets w g i l)
  | [],_,_,h=>h
  | x :: l,i,_,h=>below_sets hg l (i+1) (h.setCell (p:=⟨g,i,none⟩) hg x)
theorem size_sets {g:Nat}:∀ (l:List Value) (i:Nat) (w:World),(sets w g i l).heap.size=w.heap.size
  | [],_,_=>rfl
  | x :: l,i,w=>by
    rw [show sets w g i (x :: l)=sets (w.setCell ⟨g,i,none⟩ x) g (i+1) l from rfl,size_sets l (i+1)];simp [World.setCell]
theorem boxPager:Box? 103:=by decide
theorem mk16 (w:World):(Instr.makeSlice 101 (.int .i64 16) (.int .i64 16)).run Tryz.prog w=.ok (.slice (some ⟨w.heap.size,0,none⟩) 16 16) (w.alloc (.cells (flat pageC (List.replicate 16 Kx.Page.zero)).toArray 169)):=by kernel_rfl
theorem rms3 {W:World} {a b c:Kx.Str} {n1 n2 n3:Nat} (h1:n1=W.heap.size+1) (h2:n2=W.heap.size+2) (h3:n3=W.heap.size+3) :
    RMS ((((W.alloc (.cells #[.string a] 9)).alloc (.cells #[.string b] 9)).alloc (.cells #[.string c] 9)).alloc (.cells #[.slice (some ⟨W.heap.size,0,none⟩) 1 1,.slice (some ⟨n1,0,none⟩) 1 1,.slice (some ⟨n2,0,none⟩) 1 1] 38)) (.slice (some ⟨n3,0,none⟩) 3 3) [[a],[b],[c]]:=by
  subst h1 h2 h3;obtain ⟨W1,e1⟩:∃ W1,W.alloc (.cells #[.string a] 9)=W1:=⟨_,rfl⟩;obtain ⟨W2,e2⟩:∃ W2,W1.alloc (.cells #[.string b] 9)=W2:=⟨_,rfl⟩;obtain ⟨W3,e3⟩:∃ W3,W2.alloc (.cells #[.string c] 9)=W3:=⟨_,rfl⟩;have z1:W1.heap.size=W.heap.size+1:=by rw [←e1];simp
  have z2:W2.heap.size=W.heap.size+2:=by rw [←e2];simp;omega
  have z3:W3.heap.size=W.heap.size+3:=by rw [←e3];simp;omega
  have q1:RS strC 1 W1 (.slice (some ⟨W.heap.size,0,none⟩) 1 1) [a]:=e1 ▸ RS.one (f:=strC) a #[.string a] rfl W _;have q2:RS strC 1 W2 (.slice (some ⟨W1.heap.size,0,none⟩) 1 1) [b]:=e2 ▸ RS.one (f:=strC) b #[.string b] rfl W1 _;have q3:RS strC 1 W3 (.slice (some ⟨W2.heap.size,0,none⟩) 1 1) [c]:=e3 ▸ RS.one (f:=strC) c #[.string c] rfl W2 _;have b2:Below W1.heap.size W1 W2:=e2 ▸ bL_;have b3:Below W2.heap.size W2 W3:=e3 ▸ bL_;rw [e1,e2,e3];have b4:Below W3.heap.size W3 (W3.alloc (.cells #[.slice (some ⟨W.heap.size,0,none⟩) 1 1,.slice (some ⟨W.heap.size+1,0,none⟩) 1 1,.slice (some ⟨W.heap.size+2,0,none⟩) 1 1] 38)):=bL_;rw [z1] at q2;rw [z2] at q3;have hc:=(BX.new W3 38 #[.slice (some ⟨W.heap.size,0,none⟩) 1 1,.slice (some ⟨W.heap.size+1,0,none⟩) 1 1,.slice (some ⟨W.heap.size+2,0,none⟩) 1 1]);rw [z3] at hc
  refine ⟨[.slice (some ⟨W.heap.size,0,none⟩) 1 1,.slice (some ⟨W.heap.size+1,0,none⟩) 1 1,.slice (some ⟨W.heap.size+2,0,none⟩) 1 1],rfl,⟨by simp,.inr ⟨W.heap.size+3,0,3,rfl,Nat.le_refl _,by unfold maxLen;omega,hc.lt,fun k hk j u hu=>?_⟩⟩,fun i h h'=>?_⟩
  · have hj:j=0:=by
      cases j with
      | zero=>rfl
      | succ j=>simp [valC] at hu
    subst hj;simp only [List.length_cons,List.length_nil] at hk;have:=hc.cell k;rw [show (0:Nat)+k*1+0=k by omega];rw [this];simpa [valC,hk] using hu
  · simp only [List.length_cons,List.length_nil] at h;have hi:i=0∨i=1∨i=2:=by omega
    rcases hi with rfl | rfl | rfl
    · exact RS.below (RS.below (RS.below q1 b2) b3) b4
    · exact RS.below (RS.below q2 b3) b4
    · exact RS.below q3 b4
theorem makeK_ok {k:Kx.Kernel} (h:Kx.kernelOk k=true) (kd a b c:Int):Kx.kernelOk (Kx.makeK k kd a b c).1=true:=Kx.ok_iff.2 ((Kx.ok_iff.1 h).callK _ rfl)
/-- sixteen free places -/
def FreeS (w:World) (base:Nat) (u:Value):Prop:=∃ ss:List Slc,ss.length=16∧OS slcC 1 42 w base u ss∧∀ s ∈ ss,s.n=0∧(s.a=none→s.c=0)
theorem FreeS.of {w:World} {base hi:Nat} {u:Value} (h:OM w base hi u (List.replicate 16 [])):FreeS w base u:=by
  obtain ⟨ss,hl,ho,hr,_⟩:=h;rw [List.length_replicate] at hl;refine ⟨ss,hl,ho.1,fun s hs=>?_⟩
  obtain ⟨i,hi,rfl⟩:=List.getElem_of_mem hs;have h1:=(hr i hi (by simp;omega)).1.ri;rw [List.getElem_replicate] at h1;rcases h1.2 with ⟨_,a,cap,e,hn⟩ | ⟨b,off,cap,e,_,_⟩
  · unfold slcV at e;simp only [Value.slice.injEq] at e;exact ⟨e.2.1,fun h=>by rw [e.2.2];exact hn (e.1 ▸ h)⟩
  · unfold slcV at e;simp only [Value.slice.injEq,List.length_nil] at e;exact ⟨e.2.1,fun h=>by rw [e.1] at h;cases h⟩
theorem FreeS.rm {w:World} {base:Nat} {u:Value} (h:FreeS w base u):RM w u (List.replicate 16 []):=by
  obtain ⟨ss,hl,ho,hs⟩:=h;refine ⟨ss.map slcV,by simp [hl],ho.rs.map slcV (fun _=>rfl),fun i h h'=>?_⟩
  have hi:i<ss.length:=by simpa using h
  obtain ⟨h1,h2⟩:=hs _ (List.getElem_mem hi);rw [List.getElem_replicate];refine ⟨by simp,.inl ⟨rfl,ss[i].a,ss[i].c,?_,h2⟩⟩;simp only [List.getElem_map,slcV,h1]
/-- a new pager under way: its boxes, its parts -/
structure PB (w W:World) (g4 g6:Nat) (us ul up:Value) (low:List Int) (lim:Int) (c4:List Value):Prop where
  x2:BX W w.heap.size 103 [.slice none 0 0,.slice none 0 0,.slice none 0 0,.slice none 0 0,.slice none 0 0,.slice none 0 0,.slice none 0 0,.int .i64 0,.int .i64 0]
  x4:BX W g4 28 c4
  x6:BX W g6 103 [.slice none 0 0,.slice none 0 0,.slice none 0 0,.slice none 0 0,us,ul,up,.int .i64 0,.int .i64 lim]
  s:FreeS W w.heap.size us
  l:OI W w.heap.size ul low
  p:OS pageC 3 169 W w.heap.size up (List.replicate 16 Kx.Page.zero)
  b:Below w.heap.size w W
  h:w.heap.size<g4∧w.heap.size<g6∧g4≠g6
section
variable {w W V:World} {g4 g6:Nat} {us ul up:Value} {low:List Int} {lim:Int} {c4:List Value}
theorem PB.below (h:PB w W g4 g6 us ul up low lim c4) (hb:Below W.heap.size W V):PB w V g4 g6 us ul up low lim c4:=
  ⟨h.x2.below hb,h.x4.below hb,h.x6.below hb,by obtain ⟨ss,h1,h2,h3⟩:=h.s;exact ⟨ss,h1,h2.below hb,h3⟩,h.l.below hb,h.p.below hb,h.b.trans (hb.mono h.b.size),h.h⟩
/-- another box is turned -/
theorem PB.other (h:PB w W g4 g6 us ul up low lim c4) {g:Nat} {cs:List Value} (hx:BX W g 28 cs) (h4:g4≠g) (hg:w.heap.size<g) (l:List Value):PB w (sets W g 0 l) g4 g6 us ul up low lim c4:=by
  have h6:g6≠g:=fun e=>by
    have h1:W.heap[g6]?=some _:=h.x6;have h2:W.heap[g]?=some _:=hx;rw [e,h2] at h1;simp at h1
  exact ⟨h.x2.setsO (by omega) l 0,h.x4.setsO h4 l 0,h.x6.setsO h6 l 0,by obtain ⟨ss,h1,h2,h3⟩:=h.s;exact ⟨ss,h1,OS.sets (by decide) l 0 hx h2,h3⟩,(OS.sets (by decide) l 0 hx h.l.os).oi,OS.sets (by decide) l 0 hx h.p,below_sets (by omega) l 0 h.b,h.h⟩
/-- the kernel's box takes another kernel -/
theorem PB.turn (h:PB w W g4 g6 us ul up low lim c4) (l:List Value) (hl:l.length=c4.length):PB w (sets W g4 0 l) g4 g6 us ul up low lim l:=
  ⟨h.x2.setsO (by have:=h.h;omega) _ 0,h.x4.sets _ hl,h.x6.setsO (Ne.symm h.h.2.2) _ 0,by obtain ⟨ss,h1,h2,h3⟩:=h.s;exact ⟨ss,h1,OS.sets (by decide) l 0 h.x4 h2,h3⟩,(OS.sets (by decide) _ 0 h.x4 h.l.os).oi,OS.sets (by decide) _ 0 h.x4 h.p,below_sets (by have:=h.h;omega) _ 0 h.b,h.h⟩
/-- the list of tables grows -/
theorem PB.app (h:PB w W g4 g6 us ul up low lim c4) (hg:W.grownBy V ul.ownBlock) {ul':Value} {low':List Int} (ho:OI V w.heap.size ul' low'):PB w (V.setCell ⟨g6,5,none⟩ ul') g4 g6 us ul' up low' lim c4:=by
  have x6:BX V g6 _ _:=h.x6.keptO h.l.os hg (by decide);have x2:BX V w.heap.size _ _:=h.x2.keptO h.l.os hg (by decide);have x4:BX V g4 _ _:=h.x4.keptO h.l.os hg (by decide);have hg6:=grown_set1 V g6 5 ul';refine ⟨x2.other (by have:=h.h;omega) 5 ul',x4.other h.h.2.2 5 ul',x6.set 5 ul',?_,(ho.os.keptT hg6 x6 (by decide)).oi,(h.p.keptO h.l.os hg (by decide)).keptT hg6 x6 (by decide),(Below.appS h.b h.l.os hg nR_ h.b.size).setCell (p:=⟨g6,5,none⟩) (by have:=h.h;show w.heap.size≤g6;omega) ul',h.h⟩;obtain ⟨ss,h1,h2,h3⟩:=h.s;exact ⟨ss,h1,(h2.keptO h.l.os hg (by decide)).keptT hg6 x6 (by decide),h3⟩
end
theorem KO.keptR {w w':World} {base:Nat} {row:Option Nat} {um ui ue uc:Value} {k:Kx.Kernel} (h:KO w base um ui ue uc k) (hg:w.grownBy w' row) (hr:∀ g,row=some g→g<base):KO w' base um ui ue uc k:=by
  have hS:∀ {α:Type} {f:α→List Value} {sz:Nat} {e:TypeId} {v:Value} {l:List α},OS f sz e w base v l→OS f sz e w' base v l:=fun {_ _ _ _ v _} h1=>h1.kept hg (by
    cases hv:v.ownBlock with
    | none=>exact .inl rfl
    | some g=>exact .inr fun e=>by have h2:=hr g e.symm;have h3:=(h1.lt g hv).1;omega)
  obtain ⟨⟨ss,hl,ho,hq,hs⟩,hi,⟨ss',hl',ho',hq',hs'⟩,hc⟩:=h;exact ⟨⟨ss,hl,⟨hS ho.1,ho.2.mono hg.size⟩,fun i a b=>⟨(hS (hq i a b).1.os).oi,(hq i a b).2.1.mono hg.size,(hq i a b).2.2⟩,hs⟩,hS hi,⟨ss',hl',⟨hS ho'.1,ho'.2.mono hg.size⟩,fun i a b=>⟨(hq' i a b).1,hS (hq' i a b).2.1,(hq' i a b).2.2.1.mono hg.size,(hq' i a b).2.2.2⟩,hs'⟩,hS hc⟩
/-- the blocks from base on stay -/
def Up (base:Nat) (w V:World):Prop:=w.heap.size≤V.heap.size∧∀ k,base≤k→k<w.heap.size→V.heap[k]?=w.heap[k]?
theorem Up.refl (base:Nat) (w:World):Up base w w:=⟨Nat.le_refl _,fun _ _ _=>rfl⟩
theorem Up.trans {base:Nat} {a b c:World} (h:Up base a b) (h':Up base b c):Up base a c:=⟨Nat.le_trans h.1 h'.1,fun k h1 h2=>(h'.2 k h1 (Nat.lt_of_lt_of_le h2 h.1)).trans (h.2 k h1 h2)⟩
theorem Up.of {base:Nat} {a b:World} (h:Below a.heap.size a b):Up base a b:=⟨h.size,fun k _ h2=>h.block k h2⟩
theorem Up.grown {base:Nat} {a b:World} {row:Option Nat} (h:a.grownBy b row) (hr:∀ g,row=some g→g<base):Up base a b:=⟨h.size,fun k h1 h2=>h.block k h2 (fun e=>by have:=hr k e.symm;omega)⟩
theorem OS.up {α:Type} {f:α→List Value} {sz:Nat} {e:TypeId} {w V:World} {base:Nat} {v:Value} {l:List α} (h:OS f sz e w base v l) (hu:Up base w V):OS f sz e V base v l:=by
  refine ⟨⟨h.1.1,?_⟩,h.2⟩;rcases h.1.2 with hn | ⟨g,cap,cur,rfl,hbg,hg,r⟩
  · exact .inl hn
  · exact .inr ⟨g,cap,cur,rfl,hbg,by rw [hu.2 g hbg (Array.getElem?_eq_some_iff.1 hg).1];exact hg,r⟩
theorem OM.up {w V:World} {base hi:Nat} {u:Value} {m:List (List Int)} (h:OM w base hi u m) (hu:Up base w V):OM V base hi u m:=by
  obtain ⟨ss,hl,ho,hr,hs⟩:=h;exact ⟨ss,hl,⟨ho.1.up hu,ho.2⟩,fun i a b=>⟨((hr i a b).1.os.up hu).oi,(hr i a b).2⟩,hs⟩
theorem KO.up {w V:World} {base:Nat} {um ui ue uc:Value} {k:Kx.Kernel} (h:KO w base um ui ue uc k) (hu:Up base w V):KO V base um ui ue uc k:=by
  obtain ⟨hm,hi,⟨ss',hl',ho',hq',hs'⟩,hc⟩:=h;exact ⟨(hm.up hu).mono nR_ hu.1,hi.up hu,⟨ss',hl',⟨ho'.1.up hu,ho'.2.mono hu.1⟩,fun i a b=>⟨(hq' i a b).1,(hq' i a b).2.1.up hu,(hq' i a b).2.2.1.mono hu.1,(hq' i a b).2.2.2⟩,hs'⟩,hc.up hu⟩
theorem FreeS.up {w V:World} {base:Nat} {u:Value} (h:FreeS w base u) (hu:Up base w V):FreeS V base u:=by
  obtain ⟨ss,h1,h2,h3⟩:=h;exact ⟨ss,h1,h2.up hu,h3⟩
/-- a pager that can be read as long as the blocks from base on stay -/
def RPo (w:World) (base:Nat) (um ui ue uc us ul up:Value) (p:Kx.Pager):Prop:=∀ V,Up base w V→RP V um ui ue uc us ul up p
theorem RPo.rp {w:World} {base:Nat} {um ui ue uc us ul up:Value} {p:Kx.Pager} (h:RPo w base um ui ue uc us ul up p):RP w um ui ue uc us ul up p:=h w (Up.refl _ _)
theorem RPo.up {w V:World} {base:Nat} {um ui ue uc us ul up:Value} {p:Kx.Pager} (h:RPo w base um ui ue uc us ul up p) (hu:Up base w V):RPo V base um ui ue uc us ul up p:=fun U h'=>h U (hu.trans h')
/-- a pager comes out that can be read, and more -/
def MadeP (w:World) (p:Kx.Pager) (more:List Value) (en:Ending) (w':World):Prop:=
  ∃ um ui ue uc us ul up,en=.returned (.tuple (pagerV um ui ue uc us ul up p.hand p.limit :: more).toArray)∧RPo w' w.heap.size um ui ue uc us ul up p∧Below w.heap.size w w'
end Go.Proofs.YtenebmeaoidnoaaGreatDoor
