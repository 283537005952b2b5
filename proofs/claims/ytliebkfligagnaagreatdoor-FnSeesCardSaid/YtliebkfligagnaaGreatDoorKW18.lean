/- Contracts: spec.l32Tables. (printed by kw18.py) -/
import Derived.Test.YtliebkfligagnaaGreatDoorKWa
set_option maxHeartbeats 4000000
set_option linter.all false
namespace Go.Proofs.YtliebkfligagnaaGreatDoor
open Go.RowKit
theorem toList_inj {g:Kx.Str} (h:g≠Kx.sA):¬ ByteArray.toList g=[97]:=fun e=>h (by
 rw [toList_data] at e;obtain ⟨⟨l⟩⟩:=g;have:l=[97]:=e;subst this;rfl)
theorem xZ (p:Kx.aH) (root i:Nat):Kx.oN p root i=(Kx.bK (p.low.getD i 0) 0 11&&(Kx.word p.k.mem root i==Kx.put (p.low.getD i 0).toNat true)&&decide ((Kx.inf p.k.ag (p.low.getD i 0).toNat).guard=Kx.sA)&&(Kx.inf p.k.ag (p.low.getD i 0).toNat).refs==1):=rfl
theorem Di (p:Kx.aH) (vm vi ve vc vs vl vp:Value) (hand limit:Int) (w:World) (h:RP w vm vi ve vc vs vl vp p) (hmo:Kx.bW p.k.mem=true) (jI:p.k.ag.length=12) (hen:p.k.ah.length=3) (hro:(Kx.au p.k.ah 0).root≤11) :
  Calls Tryz.prog 274 #[bU vm vi ve vc vs vl vp hand limit] w fun e w'=>e=.returned (.bool (Kx.iC p))∧Below w.heap.size w w':=by
 obtain ⟨w0,hw0⟩:∃ w0,w.alloc (.cells #[vm,vi,ve,vc,vs,vl,vp,.int .i64 hand,.int .i64 limit] 168)=w0:=⟨_,rfl⟩;have dB:=af (show Below w.heap.size w w0 from hw0 ▸ (Below.refl w.heap.size w).alloc aW _);have jF:=af (show su w0 w.heap.size vm vi ve vc vs vl vp hand limit from hw0 ▸ su.new w vm vi ve vc vs vl vp hand limit _);have HP:=af (h.below dB.out);have HT:=af (show Kx.iC p=(!decide ((Kx.au p.k.ah 0).root<0)&&p.low.length==4&&decide ((Kx.inf p.k.ag (Kx.au p.k.ah 0).root.toNat).guard=Kx.sA)&&(Kx.inf p.k.ag (Kx.au p.k.ah 0).root.toNat).refs==1&&(List.range 4).all (Kx.oN p (Kx.au p.k.ah 0).root.toNat)) from rfl);obtain ⟨b,off,cap,u,rfl,hbb,_,h2,_⟩:=HP.out.k.e.at (k:=0) (by rw [hen];omega);obtain ⟨al,cl,rfl⟩:=HP.out.l.val;obtain ⟨⟨m0,m1,m2,m3⟩,⟨m4,m5,m6,m7,m8⟩,hbl⟩:=jF.out;have nM:=af jI;have kG:=af hmo;have hll:=HP.out.l.1
 rw [hen] at m2 hw0 ⊢;simp only [Nat.zero_mul,Nat.add_zero] at h2;generalize (Kx.au p.k.ah 0).root=r at h2 hro HT;clear h jI hmo hen;unfold bU
 by_cases hneg:r<0
 ·have HF:=af (show Kx.iC p=false by rw [HT.out,show decide (r<0)=true from by simpa using hneg];rfl);clear HT jF HP;go_enter Tryz.func274,Tryz.ntmps274;go_wp2_with fail;go_ret;exact ⟨ak HF.out.symm,dB.out⟩
 obtain ⟨x0,rfl⟩:=Int.eq_ofNat_of_zero_le (Int.not_lt.1 hneg);rw [Int.toNat_natCast,show decide ((x0:Int)<0)=false from by simp,Bool.not_false,Bool.true_and] at HT;clear hneg
 by_cases hl4:p.low.length=4
 case neg =>
  have HF:=af (show Kx.iC p=false by rw [HT.out,show (p.low.length==4)=false from by simpa using hl4];rfl);have hlb:((p.low.length:Int) != 4)=true:=by simp;omega
  have aaX:((p.low.length:Int)==4)=false:=by simp;omega
  clear HT jF HP hl4;go_enter Tryz.func274,Tryz.ntmps274;go_wp2_with fail;go_ret;exact ⟨ak HF.out.symm,dB.out⟩
 obtain ⟨bi,oi,ci,rfl,hbi,i0,i1,i2⟩:=bV.at HP.out.k.i (k:=x0) (by rw [nM.out];omega);have Oa:(x0:Int)<(p.k.ag.length:Int):=by rw [nM.out];omega
 have sD:x0<12:=by omega
 have HL:=af hl4;rw [hl4] at m5 hw0 ⊢;have HT:=af (show Kx.iC p=(decide ((Kx.inf p.k.ag x0).guard=Kx.sA)&&(Kx.inf p.k.ag x0).refs==1&&(List.range 4).all (Kx.oN p x0)) by rw [HT.out,hl4];rfl);clear hl4;generalize (Kx.inf p.k.ag x0).guard=g at i1 HT;generalize (Kx.inf p.k.ag x0).refs=rf at i2 HT
 by_cases hg:g=Kx.sA
 case neg =>
  have HF:=af (show Kx.iC p=false by rw [HT.out,show decide (g=Kx.sA)=false from by simpa using hg];rfl);have hgt:=toList_inj hg;have hgd:decide (ByteArray.toList g=[97])=false:=by simpa using hgt
  have hge:(ByteArray.toList g==[97])=false:=by simpa using hgt
  have hx0:(0:Int)≤(x0:Int):=by omega
  clear HT jF HP hg HL;go_enter Tryz.func274,Tryz.ntmps274;go_wp2_with fail;go_ret;exact ⟨ak HF.out.symm,dB.out⟩
 rw [show decide (g=Kx.sA)=true from by simpa using hg,Bool.true_and] at HT;unfold Kx.sA at hg;subst hg
 by_cases hr1:rf=1
 case neg =>
  have HF:=af (show Kx.iC p=false by rw [HT.out,show (rf==1)=false from by simpa using hr1];rfl);have hgc:(rf==1)=false:=by simpa using hr1
  have hgd:(rf != 1)=true:=by simpa using hr1
  have hx0:(0:Int)≤(x0:Int):=by omega
  clear HT jF HP hr1 HL;go_enter Tryz.func274,Tryz.ntmps274;go_wp2_with fail;go_ret;exact ⟨ak HF.out.symm,dB.out⟩
 subst hr1;have HT:=af (show Kx.iC p=(List.range 4).all (Kx.oN p x0) by rw [HT.out];rfl);have ND:=af hbl;have hx0:(0:Int)≤(x0:Int):=by omega
 clear hbl;go_enter Tryz.func274,Tryz.ntmps274;go_wp2_with fail;clear hw0;go_loopw [4] (fun i wr=>∃ q:Nat,i=.int .i64 q∧q≤4∧Hid (∀ j,j<q→Kx.oN p x0 j=true)∧Hid (Below w0.heap.size w0 wr)) (fun i _=>4 - (intOf i).toNat)
 case atStart=>exact ⟨0,rfl,Nat.zero_le _,fun j hj=>absurd hj (Nat.not_lt_zero _),Below.refl _ _⟩
 case round =>
  clear m0 m1 m2 m3 m4 m5 m6 m7 m8 i0 i1 i2 h2;obtain ⟨q,rfl,hq,hall,hb⟩:=hrel;obtain ⟨⟨m0,m1,m2,m3⟩,⟨m4,m5,m6,m7,m8⟩,hbl⟩:=jF.out.below hb.out
  by_cases hlt:q<4
  ·obtain ⟨b3,TU,cap3,ev,hb3,hc3⟩:=(HP.out.l.below hb.out).at (k:=q) (by rw [HL.out];exact hlt);rw [HL.out] at ev;simp only [Value.slice.injEq] at ev;obtain ⟨rfl,_,rfl⟩:=ev;have Wq:(q:Int)<4:=by omega
   have Y7:q<p.low.length:=by rw [HL.out];exact hlt
   have aaY:(q:Int)<(p.low.length:Int):=by omega
   have hget:p.low[q]'(by rw [HL.out];exact hlt)=p.low.getD q 0:=by simp [show q<p.low.length by rw [HL.out];exact hlt]
   rw [hget] at hc3;clear hget;obtain ⟨bm,om,cm,bq,oq,cq,ev,n1,n2,_,_⟩:=(HP.out.k.m.below hb.out).word kG.out (f:=x0) (a:=q) sD hlt;subst ev;have HB:=af (show Kx.oN p x0 q=false→Kx.iC p=false from fun h=>by
    rw [HT.out,List.all_eq_false];exact ⟨q,by simpa using hlt,by rw [h];simp⟩)
   have HN:=af (show Kx.oN p x0 q=true→∀ j,j<q+1→Kx.oN p x0 j=true from fun h=>fF hall.out h);have bF:=af (xZ p x0 q);generalize p.low.getD q 0=f at hc3 bF;generalize Kx.word p.k.mem x0 q=wd at n2 bF;have hxm:(x0:Int)<12:=by omega
   cases hin:Kx.bK f 0 11 with
   | false =>
    have HF:=af (HB.out (by rw [bF.out,hin];rfl));have jR:=af hin;clear hin HB HN bF;go_wp2_with fail;refine wp_region_held_drew (S:=(fun wz=>wz.cell? ⟨w.heap.size,0,none⟩=some (.slice (some ⟨bm,om,none⟩) 12 cm)∧wz.cell? ⟨w.heap.size,1,none⟩=some (.slice (some ⟨bi,oi,none⟩) p.k.ag.length ci)∧wz.cell? ⟨bm,om+x0,none⟩=some (.slice (some ⟨bq,oq,none⟩) 4 cq)∧wz.cell? ⟨bq,oq+q,none⟩=some (.int .i64 wd))) (by kernel_rfl) (by first | assumption | go_keep) (fun hHeld=>?_)
    refine tH 0 ?_;refine rH 1 (fun K hK=>?_)
    (rw [if_pos (by rfl)];go_simp;go_at_call 187;refine (dI _ _).mono ?_;rintro e w' ⟨rfl,rfl⟩;rw [jR.out];go_wp2_with fail)
    refine hK.out _ _ ?_ (fun hHeld=>?_)
    ·first | assumption | go_keep
    clear hK K;refine nH ?_;refine tH 2 ?_;refine tH 3 ?_;refine sH 4 ?_;refine sH 5 ?_;refine sH 6 ?_;refine sH 7 ?_;refine sH 8 ?_;refine sH 9 ?_;refine sH 10 ?_;refine sH 11 ?_;refine sH 12 ?_;refine sH 13 ?_;refine sH 14 ?_;refine sH 15 ?_;refine tH 16 ?_;refine tH 17 ?_;refine sH 18 ?_;refine sH 19 ?_;refine sH 20 ?_;refine sH 21 ?_;refine sH 22 ?_;refine sH 23 ?_;refine sH 24 ?_;refine sH 25 ?_;refine tH 26 ?_;refine tH 27 ?_;refine sH 28 ?_;refine sH 29 ?_;refine sH 30 ?_;refine sH 31 ?_;refine sH 32 ?_;refine sH 33 ?_;refine sH 34 ?_;refine sH 35 ?_;refine tH 36 ?_;refine wpAnyH_done (by kernel_rfl) ?_ _;have kV:=af (Below.bz hb.out);go_wp2_with fail;go_ret;exact ⟨ak HF.out.symm,dB.out.trans (kV.out.mono dB.out.size)⟩
   | true =>
    obtain ⟨hf0,Px⟩:=Kx.ay.1 hin;obtain ⟨f0,rfl⟩:=Int.eq_ofNat_of_zero_le hf0;have dG:f0<12:=by omega
    have wJ:(f0:Int)<(p.k.ag.length:Int):=by rw [nM.out];omega
    obtain ⟨bf,of,cf,ev,hbf,_,j1,j2⟩:=bV.at (RS.below HP.out.k.i hb.out) (k:=f0) (by rw [nM.out];exact dG);simp only [Value.slice.injEq,Option.some.injEq,Addr.mk.injEq] at ev;obtain ⟨⟨rfl,rfl,_⟩,_,rfl⟩:=ev;rw [Int.toNat_natCast] at bF;have jR:=af hin;have bF:=af (show Kx.oN p x0 q=((wd==Kx.put f0 true)&&decide ((Kx.inf p.k.ag f0).guard=Kx.sA)&&(Kx.inf p.k.ag f0).refs==1) by rw [bF.out,hin,Bool.true_and]);generalize (Kx.inf p.k.ag f0).guard=gf at j1 bF;generalize (Kx.inf p.k.ag f0).refs=Rf at j2 bF;obtain ⟨pw,hpw⟩:∃ pw,Kx.put f0 true=pw:=⟨_,rfl⟩;rw [hpw] at bF;have Ve:=af hpw;clear hin hf0 hpw
    by_cases hw:wd=pw
    case neg =>
     have hwb:(wd==pw)=false:=by simpa using hw
     have hwc:(wd != pw)=true:=by simpa using hw
     have HF:=af (HB.out (by rw [bF.out,hwb];rfl));clear HB HN bF hw;go_wp2_with fail;refine wp_region_held_drew (S:=(fun wz=>wz.cell? ⟨w.heap.size,0,none⟩=some (.slice (some ⟨bm,om,none⟩) 12 cm)∧wz.cell? ⟨w.heap.size,1,none⟩=some (.slice (some ⟨bi,oi,none⟩) p.k.ag.length ci)∧wz.cell? ⟨bm,om+x0,none⟩=some (.slice (some ⟨bq,oq,none⟩) 4 cq)∧wz.cell? ⟨bq,oq+q,none⟩=some (.int .i64 wd)∧wz.cell? ⟨bi,oi+f0*3+1,none⟩=some (.string gf)∧wz.cell? ⟨bi,oi+f0*3+2,none⟩=some (.int .i64 Rf))) (by kernel_rfl) (by first | assumption | go_keep) (fun hHeld=>?_)
     refine tH 0 ?_;refine rH 1 (fun K hK=>?_)
     (rw [if_pos (by rfl)];go_simp;go_at_call 187;refine (dI _ _).mono ?_;rintro e w' ⟨rfl,rfl⟩;rw [jR.out];go_wp2_with fail)
     refine hK.out _ _ ?_ (fun hHeld=>?_)
     ·first | assumption | go_keep
     clear hK K;refine nH ?_;refine tH 2 ?_;refine tH 3 ?_;refine tH 4 ?_;refine tH 5 ?_;refine tH 6 ?_;refine tH 7 ?_;refine tH 8 ?_;refine tH 9 ?_;refine tH 10 ?_;refine tH 11 ?_;refine tH 12 ?_;refine tH 13 ?_;refine rH 14 (fun K hK=>?_)
     (rw [if_pos (by rfl)];go_simp;go_at_call 144;refine (l9 f0 true _ dG).mono ?_;rintro e w' ⟨rfl,rfl⟩;rw [Ve.out];go_wp2_with fail)
     refine hK.out _ _ ?_ (fun hHeld=>?_)
     ·first | assumption | go_keep
     clear hK K;refine nH ?_;refine tH 15 ?_;refine tH 16 ?_;refine tH 17 ?_;refine sH 18 ?_;refine sH 19 ?_;refine sH 20 ?_;refine sH 21 ?_;refine sH 22 ?_;refine sH 23 ?_;refine sH 24 ?_;refine sH 25 ?_;refine tH 26 ?_;refine tH 27 ?_;refine sH 28 ?_;refine sH 29 ?_;refine sH 30 ?_;refine sH 31 ?_;refine sH 32 ?_;refine sH 33 ?_;refine sH 34 ?_;refine sH 35 ?_;refine tH 36 ?_;refine wpAnyH_done (by kernel_rfl) ?_ _;have kV:=af (Below.bz hb.out);go_wp2_with fail;go_ret;exact ⟨ak HF.out.symm,dB.out.trans (kV.out.mono dB.out.size)⟩
    subst hw;rw [beq_self_eq_true,Bool.true_and] at bF
    by_cases hg:gf=Kx.sA
    case neg =>
     have hgt:=toList_inj hg;have hgd:decide (ByteArray.toList gf=[97])=false:=by simpa using hgt
     have hge:(ByteArray.toList gf==[97])=false:=by simpa using hgt
     have HF:=af (HB.out (by rw [bF.out,show decide (gf=Kx.sA)=false from by simpa using hg];rfl));clear HB HN bF hg;go_wp2_with fail;refine wp_region_held_drew (S:=(fun wz=>wz.cell? ⟨w.heap.size,0,none⟩=some (.slice (some ⟨bm,om,none⟩) 12 cm)∧wz.cell? ⟨w.heap.size,1,none⟩=some (.slice (some ⟨bi,oi,none⟩) p.k.ag.length ci)∧wz.cell? ⟨bm,om+x0,none⟩=some (.slice (some ⟨bq,oq,none⟩) 4 cq)∧wz.cell? ⟨bq,oq+q,none⟩=some (.int .i64 wd)∧wz.cell? ⟨bi,oi+f0*3+1,none⟩=some (.string gf)∧wz.cell? ⟨bi,oi+f0*3+2,none⟩=some (.int .i64 Rf))) (by kernel_rfl) (by first | assumption | go_keep) (fun hHeld=>?_)
     refine tH 0 ?_;refine rH 1 (fun K hK=>?_)
     (rw [if_pos (by rfl)];go_simp;go_at_call 187;refine (dI _ _).mono ?_;rintro e w' ⟨rfl,rfl⟩;rw [jR.out];go_wp2_with fail)
     refine hK.out _ _ ?_ (fun hHeld=>?_)
     ·first | assumption | go_keep
     clear hK K;refine nH ?_;refine tH 2 ?_;refine tH 3 ?_;refine tH 4 ?_;refine tH 5 ?_;refine tH 6 ?_;refine tH 7 ?_;refine tH 8 ?_;refine tH 9 ?_;refine tH 10 ?_;refine tH 11 ?_;refine tH 12 ?_;refine tH 13 ?_;refine rH 14 (fun K hK=>?_)
     (rw [if_pos (by rfl)];go_simp;go_at_call 144;refine (l9 f0 true _ dG).mono ?_;rintro e w' ⟨rfl,rfl⟩;rw [Ve.out];go_wp2_with fail)
     refine hK.out _ _ ?_ (fun hHeld=>?_)
     ·first | assumption | go_keep
     clear hK K;refine nH ?_;refine tH 15 ?_;refine tH 16 ?_;refine tH 17 ?_;refine tH 18 ?_;refine tH 19 ?_;refine tH 20 ?_;refine tH 21 ?_;refine tH 22 ?_;refine tH 23 ?_;refine tH 24 ?_;refine tH 25 ?_;refine tH 26 ?_;refine tH 27 ?_;refine sH 28 ?_;refine sH 29 ?_;refine sH 30 ?_;refine sH 31 ?_;refine sH 32 ?_;refine sH 33 ?_;refine sH 34 ?_;refine sH 35 ?_;refine tH 36 ?_;refine wpAnyH_done (by kernel_rfl) ?_ _;have kV:=af (Below.bz hb.out);go_wp2_with fail;go_ret;exact ⟨ak HF.out.symm,dB.out.trans (kV.out.mono dB.out.size)⟩
    rw [show decide (gf=Kx.sA)=true from by simpa using hg,Bool.true_and] at bF;unfold Kx.sA at hg;subst hg
    by_cases hr1:Rf=1
    case neg =>
     have hgc:(Rf==1)=false:=by simpa using hr1
     have hgd:(Rf != 1)=true:=by simpa using hr1
     have HF:=af (HB.out (by rw [bF.out,hgc]));clear HB HN bF hr1;go_wp2_with fail;refine wp_region_held_drew (S:=(fun wz=>wz.cell? ⟨w.heap.size,0,none⟩=some (.slice (some ⟨bm,om,none⟩) 12 cm)∧wz.cell? ⟨w.heap.size,1,none⟩=some (.slice (some ⟨bi,oi,none⟩) p.k.ag.length ci)∧wz.cell? ⟨bm,om+x0,none⟩=some (.slice (some ⟨bq,oq,none⟩) 4 cq)∧wz.cell? ⟨bq,oq+q,none⟩=some (.int .i64 wd)∧wz.cell? ⟨bi,oi+f0*3+1,none⟩=some (.string ⟨#[97]⟩)∧wz.cell? ⟨bi,oi+f0*3+2,none⟩=some (.int .i64 Rf))) (by kernel_rfl) (by first | assumption | go_keep) (fun hHeld=>?_)
     refine tH 0 ?_;refine rH 1 (fun K hK=>?_)
     (rw [if_pos (by rfl)];go_simp;go_at_call 187;refine (dI _ _).mono ?_;rintro e w' ⟨rfl,rfl⟩;rw [jR.out];go_wp2_with fail)
     refine hK.out _ _ ?_ (fun hHeld=>?_)
     ·first | assumption | go_keep
     clear hK K;refine nH ?_;refine tH 2 ?_;refine tH 3 ?_;refine tH 4 ?_;refine tH 5 ?_;refine tH 6 ?_;refine tH 7 ?_;refine tH 8 ?_;refine tH 9 ?_;refine tH 10 ?_;refine tH 11 ?_;refine tH 12 ?_;refine tH 13 ?_;refine rH 14 (fun K hK=>?_)
     (rw [if_pos (by rfl)];go_simp;go_at_call 144;refine (l9 f0 true _ dG).mono ?_;rintro e w' ⟨rfl,rfl⟩;rw [Ve.out];go_wp2_with fail)
     refine hK.out _ _ ?_ (fun hHeld=>?_)
     ·first | assumption | go_keep
     clear hK K;refine nH ?_;refine tH 15 ?_;refine tH 16 ?_;refine tH 17 ?_;refine tH 18 ?_;refine tH 19 ?_;refine tH 20 ?_;refine tH 21 ?_;refine tH 22 ?_;refine tH 23 ?_;refine tH 24 ?_;refine tH 25 ?_;refine tH 26 ?_;refine tH 27 ?_;refine tH 28 ?_;refine tH 29 ?_;refine tH 30 ?_;refine tH 31 ?_;refine tH 32 ?_;refine tH 33 ?_;refine tH 34 ?_;refine tH 35 ?_;refine tH 36 ?_;refine wpAnyH_done (by kernel_rfl) ?_ _;have kV:=af (Below.bz hb.out);go_wp2_with fail;go_ret;exact ⟨ak HF.out.symm,dB.out.trans (kV.out.mono dB.out.size)⟩
    subst hr1;have ug:=af (HN.out (by rw [bF.out];rfl));clear HB HN bF;go_wp2_with fail;refine wp_region_held_drew (S:=(fun wz=>wz.cell? ⟨w.heap.size,0,none⟩=some (.slice (some ⟨bm,om,none⟩) 12 cm)∧wz.cell? ⟨w.heap.size,1,none⟩=some (.slice (some ⟨bi,oi,none⟩) p.k.ag.length ci)∧wz.cell? ⟨bm,om+x0,none⟩=some (.slice (some ⟨bq,oq,none⟩) 4 cq)∧wz.cell? ⟨bq,oq+q,none⟩=some (.int .i64 wd)∧wz.cell? ⟨bi,oi+f0*3+1,none⟩=some (.string ⟨#[97]⟩)∧wz.cell? ⟨bi,oi+f0*3+2,none⟩=some (.int .i64 1))) (by kernel_rfl) (by first | assumption | go_keep) (fun hHeld=>?_)
    refine tH 0 ?_;refine rH 1 (fun K hK=>?_)
    (rw [if_pos (by rfl)];go_simp;go_at_call 187;refine (dI _ _).mono ?_;rintro e w' ⟨rfl,rfl⟩;rw [jR.out];go_wp2_with fail)
    refine hK.out _ _ ?_ (fun hHeld=>?_)
    ·first | assumption | go_keep
    clear hK K;refine nH ?_;refine tH 2 ?_;refine tH 3 ?_;refine tH 4 ?_;refine tH 5 ?_;refine tH 6 ?_;refine tH 7 ?_;refine tH 8 ?_;refine tH 9 ?_;refine tH 10 ?_;refine tH 11 ?_;refine tH 12 ?_;refine tH 13 ?_;refine rH 14 (fun K hK=>?_)
    (rw [if_pos (by rfl)];go_simp;go_at_call 144;refine (l9 f0 true _ dG).mono ?_;rintro e w' ⟨rfl,rfl⟩;rw [Ve.out];go_wp2_with fail)
    refine hK.out _ _ ?_ (fun hHeld=>?_)
    ·first | assumption | go_keep
    clear hK K;refine nH ?_;refine tH 15 ?_;refine tH 16 ?_;refine tH 17 ?_;refine tH 18 ?_;refine tH 19 ?_;refine tH 20 ?_;refine tH 21 ?_;refine tH 22 ?_;refine tH 23 ?_;refine tH 24 ?_;refine tH 25 ?_;refine tH 26 ?_;refine tH 27 ?_;refine tH 28 ?_;refine tH 29 ?_;refine tH 30 ?_;refine tH 31 ?_;refine tH 32 ?_;refine tH 33 ?_;refine tH 34 ?_;refine tH 35 ?_;refine tH 36 ?_;refine wpAnyH_done (by kernel_rfl) ?_ _;have kV:=af (Below.bz hb.out);go_wp2_with fail;go_roundw
    case rel=>exact ⟨q+1,by go_num,by omega,ug.out,kV.out⟩
    case measure=>simp [intOf];omega
  have e:q=4:=by omega
  subst e;have HF:=af (show Kx.iC p=true by
   rw [HT.out,List.all_eq_true];exact fun j hj=>hall.out j (by simpa using hj))
  go_wp2_with fail;go_ret;exact ⟨ak HF.out.symm,dB.out.trans (hb.out.mono dB.out.size)⟩
end Go.Proofs.YtliebkfligagnaaGreatDoor
