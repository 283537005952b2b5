/- KW18, KW19, KW20, KW21, KW22, joined. -/
import Derived.Test.YthcmmoibpgcgaaaGreatDoorKWa
set_option maxHeartbeats 4000000
set_option linter.all false
open List renaming all_eq_true->A1,all_eq_false->A2,range->A3
open Nat renaming not_lt_zero->A4
open Int renaming eq_ofNat_of_zero_le->A5
open Bool renaming and_eq_true->A6
open Go.Value renaming slice->A0
open Go.Proofs.Tryz
namespace Go.Proofs.YthcmmoibpgcgaaaGreatDoor
open Go.RowKit Kx
theorem toList_inj {g:Kx.Str} (h:g≠Kx.sA):¬ ByteArray.toList g=[97]:=fun e=>h (by
 rw [toList_data] at e;obtain ⟨⟨l⟩⟩:=g;have:l=[97]:=e;subst this;rfl)
theorem xZ (p:aH) (root i:Nat):oN p root i=(Kx.bK (p.low.getD i 0) 0 11&&(Kx.word p.k.mem root i==Kx.put (p.low.getD i 0).toNat true)&&decide ((Kx.inf p.k.ag (p.low.getD i 0).toNat).guard=Kx.sA)&&(Kx.inf p.k.ag (p.low.getD i 0).toNat).refs==1):=rfl
theorem Di (p:aH) (vm vi ve vc vs vl vp:Value) (hand limit:Int) (w:World) (h:RP w vm vi ve vc vs vl vp p) (hmo:bW p.k.mem=true) (jI:p.k.ag.length=12) (hen:p.k.ah.length=3) (hro:(au p.k.ah 0).root<=11) :
  Calls prog 53 #[bU vm vi ve vc vs vl vp hand limit] w fun e w'=>e=.returned (.bool (iC p))/\Below w.heap.size w w':=by
 obtain ⟨w0,hw0⟩:=XP (w.alloc (.cells #[vm,vi,ve,vc,vs,vl,vp,I_ hand,I_ limit] 32));have dB:=af (show Below w.heap.size w w0 from hw0 ▸ (Below.refl w.heap.size w).alloc aW _);have jF:=af (show su w0 w.heap.size vm vi ve vc vs vl vp hand limit from hw0 ▸ su.new w vm vi ve vc vs vl vp hand limit _);have HP:=af (h.below dB.o);have HT:=af (show iC p=(!decide ((au p.k.ah 0).root<0)&&p.low.length==4&&decide ((Kx.inf p.k.ag (au p.k.ah 0).root.toNat).guard=Kx.sA)&&(Kx.inf p.k.ag (au p.k.ah 0).root.toNat).refs==1&&(A3 4).all (oN p (au p.k.ah 0).root.toNat)) from rfl);obtain ⟨b,off,cap,u,rfl,hbb,_,h2,_⟩:=HP.o.k.e.at (k:=0) (by rw [hen];omega);obtain ⟨al,cl,rfl⟩:=HP.o.l.val;obtain ⟨⟨m0,m1,m2,m3⟩,⟨m4,m5,m6,m7,m8⟩,hbl⟩:=jF.o;have nM:=af jI;have kG:=af hmo;have hll:=HP.o.l.1
 rw [hen] at m2 hw0 ⊢;simp only [Nat.zero_mul,Nat.add_zero] at h2;generalize (au p.k.ah 0).root=r at h2 hro HT;clear h jI hmo hen;unfold bU
 by_cases hneg:r<0
 ·have HF:=af (show iC p=false by rw [HT.o,show decide (r<0)=true from by simpa using hneg];rfl);clear HT jF HP;go_enter func53,ntmps53;go_wp2_with fail;go_ret;exact ⟨ak HF.o.symm,dB.o⟩
 obtain ⟨x0,rfl⟩:=A5 (Int.not_lt.1 hneg);rw [Int.toNat_natCast,show decide ((x0:Int)<0)=false from by simp,Bool.not_false,Bool.true_and] at HT;clear hneg
 by_cases hl4:p.low.length=4
 case neg =>
  have HF:=af (show iC p=false by rw [HT.o,show (p.low.length==4)=false from by simpa using hl4];rfl);have hlb:((p.low.length:Int) != 4)=true:=by simp;omega
  have aaX:((p.low.length:Int)==4)=false:=by simp;omega
  clear HT jF HP hl4;go_enter func53,ntmps53;go_wp2_with fail;go_ret;exact ⟨ak HF.o.symm,dB.o⟩
 obtain ⟨bi,oi,ci,rfl,hbi,i0,i1,i2⟩:=bV.at HP.o.k.i (k:=x0) (by rw [nM.o];omega);have Oa:(x0:Int)<(p.k.ag.length:Int):=by rw [nM.o];omega
 have sD:x0<12:=by omega
 have HL:=af hl4;rw [hl4] at m5 hw0 ⊢;have HT:=af (show iC p=(decide ((Kx.inf p.k.ag x0).guard=Kx.sA)&&(Kx.inf p.k.ag x0).refs==1&&(A3 4).all (oN p x0)) by rw [HT.o,hl4];rfl);clear hl4;generalize (Kx.inf p.k.ag x0).guard=g at i1 HT;generalize (Kx.inf p.k.ag x0).refs=rf at i2 HT
 by_cases hg:g=Kx.sA
 case neg =>
  have HF:=af (show iC p=false by rw [HT.o,show decide (g=Kx.sA)=false from by simpa using hg];rfl);have hgt:=toList_inj hg;have hgd:decide (ByteArray.toList g=[97])=false:=by simpa using hgt
  have hge:(ByteArray.toList g==[97])=false:=by simpa using hgt
  have hx0:(0:Int)<=(x0:Int):=by omega
  clear HT jF HP hg HL;go_enter func53,ntmps53;go_wp2_with fail;go_ret;exact ⟨ak HF.o.symm,dB.o⟩
 rw [show decide (g=Kx.sA)=true from by simpa using hg,Bool.true_and] at HT;unfold Kx.sA at hg;subst hg
 by_cases hr1:rf=1
 case neg =>
  have HF:=af (show iC p=false by rw [HT.o,show (rf==1)=false from by simpa using hr1];rfl);have hgc:(rf==1)=false:=by simpa using hr1
  have hgd:(rf != 1)=true:=by simpa using hr1
  have hx0:(0:Int)<=(x0:Int):=by omega
  clear HT jF HP hr1 HL;go_enter func53,ntmps53;go_wp2_with fail;go_ret;exact ⟨ak HF.o.symm,dB.o⟩
 subst hr1;have HT:=af (show iC p=(A3 4).all (oN p x0) by rw [HT.o];rfl);have ND:=af hbl;have hx0:(0:Int)<=(x0:Int):=by omega
 clear hbl;go_enter func53,ntmps53;go_wp2_with fail;clear hw0;go_loopw [4] (fun i wr=>∃ q:Nat,i=I_ q/\q<=4/\TI (∀ j,j<q->oN p x0 j=true)/\TI (Below w0.heap.size w0 wr)) (fun i _=>4 - (intOf i).toNat)
 case atStart=>exact ⟨0,rfl,Nat.zero_le _,fun j hj=>absurd hj (A4 _),Below.refl _ _⟩
 case round =>
  clear m0 m1 m2 m3 m4 m5 m6 m7 m8 i0 i1 i2 h2;obtain ⟨q,rfl,hq,hall,hb⟩:=hrel;obtain ⟨⟨m0,m1,m2,m3⟩,⟨m4,m5,m6,m7,m8⟩,hbl⟩:=jF.o.below hb.o
  by_cases hlt:q<4
  ·obtain ⟨b3,TU,cap3,ev,hb3,hc3⟩:=(HP.o.l.below hb.o).at (k:=q) (by rw [HL.o];exact hlt);rw [HL.o] at ev;obtain ⟨rfl,_,rfl⟩:=Za ev;clear ev;have Wq:(q:Int)<4:=by omega
   have Y7:q<p.low.length:=by rw [HL.o];exact hlt
   have aaY:(q:Int)<(p.low.length:Int):=by omega
   have hget:p.low[q]'(by rw [HL.o];exact hlt)=p.low.getD q 0:=by simp [show q<p.low.length by rw [HL.o];exact hlt]
   rw [hget] at hc3;clear hget;obtain ⟨bm,om,cm,bq,oq,cq,ev,n1,n2,_,_⟩:=(HP.o.k.m.below hb.o).word kG.o (f:=x0) (a:=q) sD hlt;subst ev;have HB:=af (show oN p x0 q=false->iC p=false from fun h=>by
    rw [HT.o,A2];exact ⟨q,by simpa using hlt,by rw [h];simp⟩)
   have HN:=af (show oN p x0 q=true->∀ j,j<q+1->oN p x0 j=true from fun h=>fF hall.o h);have bF:=af (xZ p x0 q);generalize p.low.getD q 0=f at hc3 bF;generalize Kx.word p.k.mem x0 q=wd at n2 bF;have hxm:(x0:Int)<12:=by omega
   cases hin:Kx.bK f 0 11 with
   | false =>
    have HF:=af (HB.o (by rw [bF.o,hin];rfl));have jR:=af hin;clear hin HB HN bF;go_wp2_with fail;refine afT (S:=(fun wz=>wz.cell? ⟨w.heap.size,0,none⟩=some (A0 (some ⟨bm,om,none⟩) 12 cm)/\wz.cell? ⟨w.heap.size,1,none⟩=some (A0 (some ⟨bi,oi,none⟩) p.k.ag.length ci)/\wz.cell? ⟨bm,om+x0,none⟩=some (A0 (some ⟨bq,oq,none⟩) 4 cq)/\wz.cell? ⟨bq,oq+q,none⟩=some (I_ wd))) fun hHeld=>?_
    refine tH 0 ?_;refine ahk 1 fun K hK=>?_
    (go_simp;go_at_call 131;refine (dI _ _).mono ?_;rintro e w' ⟨rfl,rfl⟩;rw [jR.o];go_wp2_with fail)
    refine afS hK fun hHeld=>?_
    clear hK K;refine afW 2 ?_;refine afW 10 ?_;refine afW 18 ?_;refine afW 26 ?_;refine afU 34 ?_;refine tH 36 ?_;refine wpAnyH_done (by kernel_rfl) ?_ _;have kV:=af (Below.bz hb.o);go_wp2_with fail;go_ret;exact ⟨ak HF.o.symm,dB.o.trans (kV.o.mono dB.o.size)⟩
   | true =>
    obtain ⟨hf0,Px⟩:=Kx.ay.1 hin;obtain ⟨f0,rfl⟩:=A5 hf0;have dG:f0<12:=by omega
    have wJ:(f0:Int)<(p.k.ag.length:Int):=by rw [nM.o];omega
    obtain ⟨bf,of,cf,ev,hbf,_,j1,j2⟩:=bV.at (RS.below HP.o.k.i hb.o) (k:=f0) (by rw [nM.o];exact dG);obtain ⟨⟨rfl,rfl,_⟩,_,rfl⟩:=Zb ev;clear ev;rw [Int.toNat_natCast] at bF;have jR:=af hin;have bF:=af (show oN p x0 q=((wd==Kx.put f0 true)&&decide ((Kx.inf p.k.ag f0).guard=Kx.sA)&&(Kx.inf p.k.ag f0).refs==1) by rw [bF.o,hin,Bool.true_and]);generalize (Kx.inf p.k.ag f0).guard=gf at j1 bF;generalize (Kx.inf p.k.ag f0).refs=Rf at j2 bF;obtain ⟨pw,hpw⟩:=XP (Kx.put f0 true);rw [hpw] at bF;have Ve:=af hpw;clear hin hf0 hpw
    by_cases hw:wd=pw
    case neg =>
     have hwb:(wd==pw)=false:=by simpa using hw
     have hwc:(wd != pw)=true:=by simpa using hw
     have HF:=af (HB.o (by rw [bF.o,hwb];rfl));clear HB HN bF hw;go_wp2_with fail;refine afT (S:=(fun wz=>wz.cell? ⟨w.heap.size,0,none⟩=some (A0 (some ⟨bm,om,none⟩) 12 cm)/\wz.cell? ⟨w.heap.size,1,none⟩=some (A0 (some ⟨bi,oi,none⟩) p.k.ag.length ci)/\wz.cell? ⟨bm,om+x0,none⟩=some (A0 (some ⟨bq,oq,none⟩) 4 cq)/\wz.cell? ⟨bq,oq+q,none⟩=some (I_ wd)/\wz.cell? ⟨bi,oi+f0*3+1,none⟩=some (.string gf)/\wz.cell? ⟨bi,oi+f0*3+2,none⟩=some (I_ Rf))) fun hHeld=>?_
     refine tH 0 ?_;refine ahk 1 fun K hK=>?_
     (go_simp;go_at_call 131;refine (dI _ _).mono ?_;rintro e w' ⟨rfl,rfl⟩;rw [jR.o];go_wp2_with fail)
     refine afS hK fun hHeld=>?_
     clear hK K;refine afW 2 ?_;refine afV 10 ?_;refine ahk 14 fun K hK=>?_
     (go_simp;go_at_call 132;refine (l9 f0 true _ dG).mono ?_;rintro e w' ⟨rfl,rfl⟩;rw [Ve.o];go_wp2_with fail)
     refine afS hK fun hHeld=>?_
     clear hK K;refine afW 15 ?_;refine afW 23 ?_;refine afV 31 ?_;refine afU 35 ?_;refine wpAnyH_done (by kernel_rfl) ?_ _;have kV:=af (Below.bz hb.o);go_wp2_with fail;go_ret;exact ⟨ak HF.o.symm,dB.o.trans (kV.o.mono dB.o.size)⟩
    subst hw;rw [beq_self_eq_true,Bool.true_and] at bF
    by_cases hg:gf=Kx.sA
    case neg =>
     have hgt:=toList_inj hg;have hgd:decide (ByteArray.toList gf=[97])=false:=by simpa using hgt
     have hge:(ByteArray.toList gf==[97])=false:=by simpa using hgt
     have HF:=af (HB.o (by rw [bF.o,show decide (gf=Kx.sA)=false from by simpa using hg];rfl));clear HB HN bF hg;go_wp2_with fail;refine afT (S:=(fun wz=>wz.cell? ⟨w.heap.size,0,none⟩=some (A0 (some ⟨bm,om,none⟩) 12 cm)/\wz.cell? ⟨w.heap.size,1,none⟩=some (A0 (some ⟨bi,oi,none⟩) p.k.ag.length ci)/\wz.cell? ⟨bm,om+x0,none⟩=some (A0 (some ⟨bq,oq,none⟩) 4 cq)/\wz.cell? ⟨bq,oq+q,none⟩=some (I_ wd)/\wz.cell? ⟨bi,oi+f0*3+1,none⟩=some (.string gf)/\wz.cell? ⟨bi,oi+f0*3+2,none⟩=some (I_ Rf))) fun hHeld=>?_
     refine tH 0 ?_;refine ahk 1 fun K hK=>?_
     (go_simp;go_at_call 131;refine (dI _ _).mono ?_;rintro e w' ⟨rfl,rfl⟩;rw [jR.o];go_wp2_with fail)
     refine afS hK fun hHeld=>?_
     clear hK K;refine afW 2 ?_;refine afV 10 ?_;refine ahk 14 fun K hK=>?_
     (go_simp;go_at_call 132;refine (l9 f0 true _ dG).mono ?_;rintro e w' ⟨rfl,rfl⟩;rw [Ve.o];go_wp2_with fail)
     refine afS hK fun hHeld=>?_
     clear hK K;refine afW 15 ?_;refine afW 23 ?_;refine afV 31 ?_;refine afU 35 ?_;refine wpAnyH_done (by kernel_rfl) ?_ _;have kV:=af (Below.bz hb.o);go_wp2_with fail;go_ret;exact ⟨ak HF.o.symm,dB.o.trans (kV.o.mono dB.o.size)⟩
    rw [show decide (gf=Kx.sA)=true from by simpa using hg,Bool.true_and] at bF;unfold Kx.sA at hg;subst hg
    by_cases hr1:Rf=1
    case neg =>
     have hgc:(Rf==1)=false:=by simpa using hr1
     have hgd:(Rf != 1)=true:=by simpa using hr1
     have HF:=af (HB.o (by rw [bF.o,hgc]));clear HB HN bF hr1;go_wp2_with fail;refine afT (S:=(fun wz=>wz.cell? ⟨w.heap.size,0,none⟩=some (A0 (some ⟨bm,om,none⟩) 12 cm)/\wz.cell? ⟨w.heap.size,1,none⟩=some (A0 (some ⟨bi,oi,none⟩) p.k.ag.length ci)/\wz.cell? ⟨bm,om+x0,none⟩=some (A0 (some ⟨bq,oq,none⟩) 4 cq)/\wz.cell? ⟨bq,oq+q,none⟩=some (I_ wd)/\wz.cell? ⟨bi,oi+f0*3+1,none⟩=some (.string ⟨#[97]⟩)/\wz.cell? ⟨bi,oi+f0*3+2,none⟩=some (I_ Rf))) fun hHeld=>?_
     refine tH 0 ?_;refine ahk 1 fun K hK=>?_
     (go_simp;go_at_call 131;refine (dI _ _).mono ?_;rintro e w' ⟨rfl,rfl⟩;rw [jR.o];go_wp2_with fail)
     refine afS hK fun hHeld=>?_
     clear hK K;refine afW 2 ?_;refine afV 10 ?_;refine ahk 14 fun K hK=>?_
     (go_simp;go_at_call 132;refine (l9 f0 true _ dG).mono ?_;rintro e w' ⟨rfl,rfl⟩;rw [Ve.o];go_wp2_with fail)
     refine afS hK fun hHeld=>?_
     clear hK K;refine afW 15 ?_;refine afW 23 ?_;refine afV 31 ?_;refine afU 35 ?_;refine wpAnyH_done (by kernel_rfl) ?_ _;have kV:=af (Below.bz hb.o);go_wp2_with fail;go_ret;exact ⟨ak HF.o.symm,dB.o.trans (kV.o.mono dB.o.size)⟩
    subst hr1;have ug:=af (HN.o (by rw [bF.o];rfl));clear HB HN bF;go_wp2_with fail;refine afT (S:=(fun wz=>wz.cell? ⟨w.heap.size,0,none⟩=some (A0 (some ⟨bm,om,none⟩) 12 cm)/\wz.cell? ⟨w.heap.size,1,none⟩=some (A0 (some ⟨bi,oi,none⟩) p.k.ag.length ci)/\wz.cell? ⟨bm,om+x0,none⟩=some (A0 (some ⟨bq,oq,none⟩) 4 cq)/\wz.cell? ⟨bq,oq+q,none⟩=some (I_ wd)/\wz.cell? ⟨bi,oi+f0*3+1,none⟩=some (.string ⟨#[97]⟩)/\wz.cell? ⟨bi,oi+f0*3+2,none⟩=some (I_ 1))) fun hHeld=>?_
    refine tH 0 ?_;refine ahk 1 fun K hK=>?_
    (go_simp;go_at_call 131;refine (dI _ _).mono ?_;rintro e w' ⟨rfl,rfl⟩;rw [jR.o];go_wp2_with fail)
    refine afS hK fun hHeld=>?_
    clear hK K;refine afW 2 ?_;refine afV 10 ?_;refine ahk 14 fun K hK=>?_
    (go_simp;go_at_call 132;refine (l9 f0 true _ dG).mono ?_;rintro e w' ⟨rfl,rfl⟩;rw [Ve.o];go_wp2_with fail)
    refine afS hK fun hHeld=>?_
    clear hK K;refine afW 15 ?_;refine afW 23 ?_;refine afV 31 ?_;refine afU 35 ?_;refine wpAnyH_done (by kernel_rfl) ?_ _;have kV:=af (Below.bz hb.o);go_wp2_with fail;go_roundw
    case rel=>exact ⟨q+1,by go_num,by omega,ug.o,kV.o⟩
    case measure=>simp [intOf];omega
  have e:q=4:=by omega
  subst e;have HF:=af (show iC p=true by
   rw [HT.o,A1];exact fun j hj=>hall.o j (by simpa using hj))
  go_wp2_with fail;go_ret;exact ⟨ak HF.o.symm,dB.o.trans (hb.o.mono dB.o.size)⟩
theorem GU (p:aH) (n:Nat):Kx.dC p n=(if (aA p.pages n).wh=0 then (aA p.pages n)==dV.zero&&Kx.word p.k.mem ((p.low.getD (n / 4) 0).toNat) (n % 4)==0
 else if (aA p.pages n).wh=1 then Kx.bK (aA p.pages n).at_ 0 11&&Kx.word p.k.mem ((p.low.getD (n / 4) 0).toNat) (n % 4)==Kx.put (aA p.pages n).at_.toNat true&&decide ((Kx.inf p.k.ag (aA p.pages n).at_.toNat).guard=Kx.sA)&&(Kx.inf p.k.ag (aA p.pages n).at_.toNat).refs==1
 else if (aA p.pages n).wh=2 then Kx.bK (aA p.pages n).at_ 0 15&&!(Kx.row p.swap (aA p.pages n).at_.toNat).isEmpty&&!(aA p.pages n).used&&Kx.word p.k.mem ((p.low.getD (n / 4) 0).toNat) (n % 4)==0
 else false):=rfl
theorem GV (p:aH) (n:Nat) (vm vi ve vc vs vl vp:Value) (hand limit:Int) (w:World) (h:RP w vm vi ve vc vs vl vp p) (hmo:bW p.k.mem=true) (jI:p.k.ag.length=12) (hpl:p.pages.length=16) (hll:p.low.length=4) (hsw:jE p.swap=true)
  (hlo:∀ i,i<4->0<=p.low.getD i 0/\p.low.getD i 0<=11) (hn:n<16) :
  Calls prog 55 #[bU vm vi ve vc vs vl vp hand limit,I_ n] w fun e w'=>e=.returned (.bool (Kx.dC p n))/\Below w.heap.size w w':=by
 obtain ⟨w0,hw0⟩:=XP (w.alloc (.cells #[vm,vi,ve,vc,vs,vl,vp,I_ hand,I_ limit] 32));have dB:=af (show Below w.heap.size w w0 from hw0 ▸ (Below.refl w.heap.size w).alloc aW _);have jF:=af (show su w0 w.heap.size vm vi ve vc vs vl vp hand limit from hw0 ▸ su.new w vm vi ve vc vs vl vp hand limit _);have HP:=af (h.below dB.o);have bF:=af (GU p n);obtain ⟨q,hq⟩:=XP (n / 4);obtain ⟨r,hr⟩:=XP (n % 4);have eq:(n:Int) / 4=(q:Int):=by omega
 have er:(n:Int) % 4=(r:Int):=by omega
 have hq4:(q:Int)<4:=by omega
 have et:(n:Int).tmod 4=(r:Int):=by rw [Int.tmod_eq_emod_of_nonneg (by omega)];exact er
 have hr0:(0:Int)<=(r:Int):=by omega
 have ZC:IntKind.i64.wrap (q:Int)=(q:Int):=IntWalk.i64_in _ (by omega);have hq0:(0:Int)<=(q:Int):=by omega
 have hr4:(r:Int)<4:=by omega
 have MJ:(n:Int)<16:=by omega
 rw [hq,hr] at bF;obtain ⟨bp,op,cp,rfl,hbp,g0,g1,g2⟩:=rP.at HP.o.g (k:=n) (by omega);obtain ⟨bl,ol,cl,rfl,hbl,hcl⟩:=HP.o.l.at (k:=q) (by omega);have hget:p.low[q]'(by omega)=p.low.getD q 0:=by simp [show q<p.low.length by omega]
 rw [hget] at hcl;obtain ⟨hf0,Px⟩:=hlo q (by omega);generalize p.low.getD q 0=f at hcl hf0 Px bF;obtain ⟨f0,rfl⟩:=A5 hf0;rw [Int.toNat_natCast] at bF;have dG:f0<12:=by omega
 have wJ:(f0:Int)<12:=by omega
 have nM:=af jI;have kG:=af hmo;have ZE:=af hsw;have k6:=jF.o.2.1.2.2.1;obtain ⟨ai,ci,rfl,_,_⟩:=RS.val HP.o.k.i;obtain ⟨pg,hx⟩:=XP (aA p.pages n);rw [hx] at g0 g1 g2 bF;clear hx hget hf0 Px hlo;obtain ⟨x,y,z⟩:=pg;dsimp only at g0 g1 g2 bF;obtain ⟨W1,hW1⟩:=XP (w0.alloc (.cells #[I_ x,I_ y,.bool z] 42));have B1:=af (show Below w0.heap.size w0 W1 from hW1 ▸ dm);obtain ⟨c0,c1,c2⟩:=(show W1.cell? ⟨w0.heap.size,0,none⟩=some (I_ x)/\W1.cell? ⟨w0.heap.size,1,none⟩=some (I_ y)/\W1.cell? ⟨w0.heap.size,2,none⟩=some (.bool z) from hW1 ▸ Dh.new w0 _ _ _ 42);have Vr:=af (HP.o.below B1.o);have Vs:=af (show w0.heap.size<W1.heap.size from hW1 ▸ by simp);obtain ⟨bm,om,cm,bq,oq,cq,rfl,n1,n2,_,_⟩:=Vr.o.k.m.word kG.o (f:=f0) (a:=r) dG (by omega);generalize Kx.word p.k.mem f0 r=wd at n2 bF
 obtain ⟨⟨m0,m1,m2,m3⟩,⟨m4,m5,m6,m7,m8⟩,_⟩:=jF.o.below B1.o;have ZF:W1.cell? ⟨bl,ol+q,none⟩=some (I_ f0):=(B1.o.cell (p:=⟨bl,ol+q,none⟩) hbl).trans hcl;have HB:=af (Below.bz (dB.o.trans (B1.o.mono dB.o.size)));rw [hpl] at m6 k6 hw0 ⊢;rw [hll] at m5 hw0 ⊢;clear h jI hmo hsw hbp hbl hq hr hcl hpl hll;unfold bU;go_enter func55,ntmps55;go_wp2_with fail;clear hW1 hw0;refine afT (S:=(fun wz=>wz.cell? ⟨w.heap.size,0,none⟩=some (A0 (some ⟨bm,om,none⟩) 12 cm)/\wz.cell? ⟨w.heap.size,5,none⟩=some (A0 (some ⟨bl,ol,none⟩) 4 cl)/\wz.cell? ⟨bl,ol+q,none⟩=some (I_ f0)/\wz.cell? ⟨bm,om+f0,none⟩=some (A0 (some ⟨bq,oq,none⟩) 4 cq)/\wz.cell? ⟨bq,oq+r,none⟩=some (I_ wd))) fun hHeld=>?_
 refine afW 0 ?_;refine afW 8 ?_;refine wpAnyH_done (by kernel_rfl) ?_ _;clear eq er ZC et
 by_cases h0:x=0
 ·subst h0;have bF:=af (show Kx.dC p n=(((⟨0,y,z⟩:dV)==dV.zero)&&wd==0) from bF.o)
  by_cases hy:y=0
  case neg =>
   have HF:=af (show Kx.dC p n=false by rw [bF.o,show ((⟨0,y,z⟩:dV)==dV.zero)=false from by simp [dV.zero,hy],Bool.false_and]);have hyb:(y==0)=false:=by simpa using hy
   clear bF hy;go_wp2_with fail;go_ret;exact ⟨ak HF.o.symm,HB.o⟩
  subst hy
  cases z
  case true =>
   have HF:=af (show Kx.dC p n=false by rw [bF.o];rfl);clear bF;go_wp2_with fail;go_ret;exact ⟨ak HF.o.symm,HB.o⟩
  have HF:=af (show Kx.dC p n=(wd==0) by rw [bF.o];rfl);clear bF;go_wp2_with fail;go_ret;exact ⟨ak HF.o.symm,HB.o⟩
 have hxa:(x==0)=false:=by simpa using h0
 by_cases h1:x=1
 ·subst h1;have bF:=af (show Kx.dC p n=(Kx.bK y 0 11&&wd==Kx.put y.toNat true&&decide ((Kx.inf p.k.ag y.toNat).guard=Kx.sA)&&(Kx.inf p.k.ag y.toNat).refs==1) from bF.o);go_wp2_with fail;refine (dI _ _).mono ?_;rintro e w' ⟨rfl,rfl⟩
  cases hin:Kx.bK y 0 11 with
  | false =>
   have HF:=af (show Kx.dC p n=false by rw [bF.o,hin];rfl);clear hin bF h0 hxa;go_wp2_with fail;go_ret;exact ⟨ak HF.o.symm,HB.o⟩
  | true =>
   obtain ⟨y0,ZG⟩:=Kx.ay.1 hin;obtain ⟨g,rfl⟩:=A5 y0;rw [hin,Bool.true_and,Int.toNat_natCast] at bF;have zM:g<12:=by omega
   obtain ⟨bi,oi,ci',ev,_,j0,j1,j2⟩:=bV.at Vr.o.k.i (k:=g) (by rw [nM.o];exact zM);obtain ⟨rfl,_,rfl⟩:=Za ev;clear ev;have Vt:(g:Int)<(p.k.ag.length:Int):=by rw [nM.o];omega
   clear hin y0 h0 hxa;generalize (Kx.inf p.k.ag g).guard=gf at j1 bF;generalize (Kx.inf p.k.ag g).refs=rf at j2 bF;go_wp2_with fail;refine (l9 g true _ zM).mono ?_;rintro e w' ⟨rfl,rfl⟩;generalize Kx.put g true=pw at bF ⊢
   by_cases hw:wd=pw
   case neg =>
    have hwb:(wd==pw)=false:=by simpa using hw
    have HF:=af (show Kx.dC p n=false by rw [bF.o,hwb];rfl);clear bF hw;go_wp2_with fail;go_ret;exact ⟨ak HF.o.symm,HB.o⟩
   subst hw;rw [beq_self_eq_true,Bool.true_and] at bF
   by_cases hg:gf=Kx.sA
   case neg =>
    have hgt:=toList_inj hg;have hgd:decide (ByteArray.toList gf=[97])=false:=by simpa using hgt
    have hge:(ByteArray.toList gf==[97])=false:=by simpa using hgt
    have HF:=af (show Kx.dC p n=false by rw [bF.o,show decide (gf=Kx.sA)=false from by simpa using hg];rfl);clear bF hg;go_wp2_with fail;go_ret;exact ⟨ak HF.o.symm,HB.o⟩
   have HF:=af (show Kx.dC p n=(rf==1) by rw [bF.o,show decide (gf=Kx.sA)=true from by simpa using hg];simp);unfold Kx.sA at hg;subst hg;clear bF;go_wp2_with fail;go_ret;exact ⟨ak HF.o.symm,HB.o⟩
 have hxb:(x==1)=false:=by simpa using h1
 by_cases h2:x=2
 ·subst h2;have bF:=af (show Kx.dC p n=(Kx.bK y 0 15&&!(Kx.row p.swap y.toNat).isEmpty&&!z&&wd==0) from bF.o);have HG:=af (show rQ p.swap y=(Kx.bK y 0 15&&!(Kx.row p.swap y.toNat).isEmpty) by unfold rQ;rw [ZE.o,Bool.true_and]);clear h0 h1 hxa hxb;go_wp2_with fail;refine (GX p.swap y _ W1.drew (show RM W1.drew _ _ from Vr.o.s)).mono ?_;rintro e w3 ⟨u3,rfl,_,hb3⟩;have d2:w3.cell? ⟨w0.heap.size,2,none⟩=some (.bool z):=((Below.gG hb3).cell (p:=⟨w0.heap.size,2,none⟩) Vs.o).trans c2;have HB3:=af (HB.o.trans (hb3.mono HB.o.size));clear hb3 c0 c1 c2
  cases hgo:rQ p.swap y with
  | false =>
   have HF:=af (show Kx.dC p n=false by rw [bF.o,<-HG.o,hgo];rfl);clear bF HG hgo;go_wp2_with fail;go_ret;exact ⟨ak HF.o.symm,HB3.o⟩
  | true =>
   have bF:=af (show Kx.dC p n=(!z&&wd==0) by rw [bF.o,<-HG.o,hgo];simp);clear HG hgo
   cases z
   ·have HF:=af (show Kx.dC p n=(wd==0) by rw [bF.o];rfl);clear bF;go_wp2_with fail;go_ret;exact ⟨ak HF.o.symm,HB3.o⟩
   have HF:=af (show Kx.dC p n=false by rw [bF.o];rfl);clear bF;go_wp2_with fail;go_ret;exact ⟨ak HF.o.symm,HB3.o⟩
 have hxc:(x==2)=false:=by simpa using h2
 have HF:=af (show Kx.dC p n=false by rw [bF.o,if_neg h0,if_neg h1,if_neg h2]);clear bF h0 h1 h2;go_wp2_with fail;go_ret;exact ⟨ak HF.o.symm,HB.o⟩
def SS (wz:World) (p:aH) (b:Nat) (vm vi ve vc vs vl vp:Value):Prop:=wz.cell? ⟨b,0,none⟩=some vm/\wz.cell? ⟨b,1,none⟩=some vi/\wz.cell? ⟨b,2,none⟩=some ve/\wz.cell? ⟨b,3,none⟩=some vc/\wz.cell? ⟨b,4,none⟩=some vs/\wz.cell? ⟨b,5,none⟩=some vl/\wz.cell? ⟨b,6,none⟩=some vp/\wz.cell? ⟨b,7,none⟩=some (I_ p.hand)/\wz.cell? ⟨b,8,none⟩=some (I_ p.limit)
theorem n_ (p:aH) (vm vi ve vc vs vl vp:Value) (w:World) (h:RP w vm vi ve vc vs vl vp p) (hs:iQ p.k) :
  Calls prog 12 #[bU vm vi ve vc vs vl vp p.hand p.limit] w fun e w'=>e=.returned (.bool (bI p))/\Below w.heap.size w w':=by
 obtain ⟨w0,hw0⟩:=XP (w.alloc (.cells #[vm,vi,ve,vc,vs,vl,vp,I_ p.hand,I_ p.limit] 32));have dB:=af (show Below w.heap.size w w0 from hw0 ▸ (Below.refl w.heap.size w).alloc aW _);have jF:=af (show su w0 w.heap.size vm vi ve vc vs vl vp p.hand p.limit from hw0 ▸ su.new w vm vi ve vc vs vl vp p.hand p.limit _);have HP:=af (h.below dB.o);have Hs:=af hs;obtain ⟨ap,cp,rfl,_,_⟩:=RS.val h.g;have hpl:=h.g.1;have HV:=af (show bI p=(az p.k&&jE p.swap&&Kx.alone p.k&&iC p&&p.pages.length==16&&mV p&&(A3 16).all (Kx.dC p)&&Kx.bK p.hand 0 15&&Kx.bK p.limit 1 6&&decide ((Kx.countP p 1:Int)<=p.limit)) from rfl);obtain ⟨⟨m0,m1,m2,m3⟩,⟨m4,m5,m6,m7,m8⟩,_⟩:=jF.o;clear h hs;unfold bU;go_enter func12,ntmps12;go_wp2_with fail;clear hw0
 refine (kJ p.k vm vi ve vc _ HP.o.k Hs.o).mono ?_;rintro e w1 ⟨rfl,hb1⟩;have B1:=af (hb1);clear hb1 m0 m1 m2 m3 m4 m5 m6 m7 m8;obtain ⟨⟨m0,m1,m2,m3⟩,⟨m4,m5,m6,m7,m8⟩,_⟩:=jF.o.below B1.o
 cases hv:az p.k
 ·have HF:=af (show bI p=false by rw [HV.o,hv];simp);clear hv HV;go_wp2_with fail;go_ret;exact ⟨ak HF.o.symm,dB.o.trans (B1.o.mono dB.o.size)⟩
 have V1:=af hv;clear hv;have OK:=af (nN.1 V1.o);have Hm:=af (show bW p.k.mem=true from by have:=V1.o;unfold az at this;simp only [A6] at this;exact this.1.1.1.1.1.1);have Hi:=af (show p.k.ag.length=12 from by
  have:=V1.o;unfold az at this;simp only [A6] at this
  have:=this.1.1.1.1.1.2;unfold bC at this;simp only [A6] at this;simpa using this.2)
 have Ye:=af (show iw p.k=true from by have:=V1.o;unfold az at this;simp only [A6] at this;exact this.1.1.1.2);have He:=af (show p.k.ah.length=3 from by have:=Ye.o;unfold iw at this;simp only [A6] at this;simpa using this.2);have mW:=af (show (au p.k.ah 0).root<=11 from by
  have:=Ye.o
  unfold iw at this;rw [oZ] at this;simp only [A6,A1] at this;have h2:=this.1 0 (by rw [He.o];simp);unfold Ah qw at h2;simp only [A6] at h2;exact (Kx.ay.1 h2.1.1.2).2)
 go_wp2_with fail;refine (lY p.swap _ _ (HP.o.s.below B1.o)).mono ?_;rintro e w2 ⟨rfl,rfl⟩
 cases hv:jE p.swap
 ·have HF:=af (show bI p=false by rw [HV.o,hv];simp);clear hv HV;go_wp2_with fail;go_ret;exact ⟨ak HF.o.symm,dB.o.trans (B1.o.mono dB.o.size)⟩
 have V2:=af hv;clear hv;go_wp2_with fail;refine (EX p.k vm vi ve vc _ (HP.o.k.below B1.o) He.o).mono ?_;rintro e w3 ⟨rfl,hb3⟩;have B3:=af (B1.o.trans (hb3.mono B1.o.size));clear hb3 m0 m1 m2 m3 m4 m5 m6 m7 m8;obtain ⟨⟨m0,m1,m2,m3⟩,⟨m4,m5,m6,m7,m8⟩,_⟩:=jF.o.below B3.o
 cases hv:Kx.alone p.k
 ·have HF:=af (show bI p=false by rw [HV.o,hv];simp);clear hv HV;go_wp2_with fail;go_ret;exact ⟨ak HF.o.symm,dB.o.trans (B3.o.mono dB.o.size)⟩
 have V3:=af hv;clear hv;go_wp2_with fail;refine (Di p vm vi ve vc vs vl _ p.hand p.limit _ (HP.o.below B3.o) Hm.o Hi.o He.o mW.o).mono ?_;rintro e w4 ⟨rfl,hb4⟩;have B4:=af (B3.o.trans (hb4.mono B3.o.size));clear hb4 m0 m1 m2 m3 m4 m5 m6 m7 m8;obtain ⟨⟨m0,m1,m2,m3⟩,⟨m4,m5,m6,m7,m8⟩,_⟩:=jF.o.below B4.o
 cases hv:iC p
 ·have HF:=af (show bI p=false by rw [HV.o,hv];simp);clear hv HV;go_wp2_with fail;go_ret;exact ⟨ak HF.o.symm,dB.o.trans (B4.o.mono dB.o.size)⟩
 have V4:=af hv;clear hv;have Rw:=af (show p.low.length=4/\∀ i,i<4->0<=p.low.getD i 0/\p.low.getD i 0<=11 from by
  have:=V4.o
  unfold iC at this;simp only [A6,A1] at this;refine ⟨by simpa using this.1.1.1.2,fun i hi=>?_⟩
  have h2:=this.2 i (by simpa using hi);rw [xZ] at h2;simp only [A6] at h2;exact Kx.ay.1 h2.1.1.1)
 by_cases h16:p.pages.length=16
 case neg =>
  have HF:=af (show bI p=false by rw [HV.o,show (p.pages.length==16)=false from by simpa using h16];simp);have hlb:((p.pages.length:Int) != 16)=true:=by simp;omega
  have hlc:((p.pages.length:Int)==16)=false:=by simp;omega
  clear HV h16;go_wp2_with fail;go_ret;exact ⟨ak HF.o.symm,dB.o.trans (B4.o.mono dB.o.size)⟩
 have Ai:=af h16;have hlb:((p.pages.length:Int) != 16)=false:=by simp;omega
 have hlc:((p.pages.length:Int)==16)=true:=by simp;omega
 clear h16;go_wp2_with fail;refine (EY p vm vi ve vc vs vl _ p.hand p.limit _ (RS.below HP.o.g B4.o) (HP.o.s.below B4.o)).mono ?_;rintro e w5 ⟨rfl,hb5⟩;have B5:=af (B4.o.trans (hb5.mono B4.o.size));clear hb5 m0 m1 m2 m3 m4 m5 m6 m7 m8;obtain ⟨⟨m0,m1,m2,m3⟩,⟨m4,m5,m6,m7,m8⟩,_⟩:=jF.o.below B5.o
 cases hv:mV p
 ·have HF:=af (show bI p=false by rw [HV.o,hv];simp);clear hv HV;go_wp2_with fail;go_ret;exact ⟨ak HF.o.symm,dB.o.trans (B5.o.mono dB.o.size)⟩
 have V5:=af hv;clear hv;go_wp2_with fail;go_loopw [3] (fun i wr=>∃ q:Nat,i=I_ q/\q<=p.pages.length/\TI (∀ j,j<q->Kx.dC p j=true)/\TI (Below w0.heap.size w0 wr)) (fun i _=>p.pages.length - (intOf i).toNat)
 case atStart=>exact ⟨0,rfl,Nat.zero_le _,fun j hj=>absurd hj (A4 _),B5.o⟩
 case round =>
  clear m0 m1 m2 m3 m4 m5 m6 m7 m8;obtain ⟨q,rfl,hq,hall,hb⟩:=hrel;obtain ⟨⟨m0,m1,m2,m3⟩,⟨m4,m5,m6,m7,m8⟩,hbl⟩:=jF.o.below hb.o
  by_cases hlt:q<p.pages.length
  ·have kQ:(q:Int)<(p.pages.length:Int):=by omega
   have HC:=af (GV p q vm vi ve vc vs vl _ p.hand p.limit wr (HP.o.below hb.o) Hm.o Hi.o Ai.o Rw.o.1 V2.o Rw.o.2 (by rw [<-Ai.o];exact hlt))
   cases hv:Kx.dC p q with
   | false =>
    have HF:=af (show bI p=false by
     rw [HV.o,show (A3 16).all (Kx.dC p)=false from by
      rw [A2];exact ⟨q,by rw [<-Ai.o];simpa using hlt,by rw [hv];simp⟩];simp)
    have Hv:=af hv;clear hv HV;go_wp2_with fail;refine HC.o.mono ?_;rintro e w6 ⟨rfl,hb6⟩;rw [Hv.o];have B6:=af (hb.o.trans (hb6.mono hb.o.size));clear hb6;go_wp2_with fail;go_ret;exact ⟨ak HF.o.symm,dB.o.trans (B6.o.mono dB.o.size)⟩
   | true =>
    have HN:=af (show ∀ j,j<q+1->Kx.dC p j=true from fF hall.o hv);have Hv:=af hv;clear hv HV;go_wp2_with fail;refine HC.o.mono ?_;rintro e w6 ⟨rfl,hb6⟩;rw [Hv.o];have B6:=af (hb.o.trans (hb6.mono hb.o.size));clear hb6;go_wp2_with fail;go_roundw
    case rel=>exact ⟨q+1,by go_num,by omega,HN.o,B6.o⟩
    case measure=>simp [intOf];omega
  have HA:=af (show (A3 16).all (Kx.dC p)=true by
   rw [A1];intro j hj;have hj2:j<16:=by simpa using hj
   have h6:=Ai.o;exact hall.o j (by omega))
  have zG:=af (show bI p=(Kx.bK p.hand 0 15&&Kx.bK p.limit 1 6&&decide ((Kx.countP p 1:Int)<=p.limit)) by
   rw [HV.o,V1.o,V2.o,V3.o,V4.o,V5.o,HA.o,show (p.pages.length==16)=true from by simpa using Ai.o];simp)
  have Hb0:=af hb.o;have ik:=af (show ∀ wz,Below wr.heap.size wr wz->SS wz p w.heap.size vm vi ve vc vs vl (A0 ap p.pages.length cp) from fun wz hz=>by
   obtain ⟨⟨n0,n1,n2,n3⟩,⟨n4,n5,n6,n7,n8⟩,_⟩:=jF.o.below (hb.o.trans (hz.mono hb.o.size));exact ⟨n0,n1,n2,n3,n4,n5,n6,n7,n8⟩)
  unfold SS at ik;clear HV
  cases h1:Kx.bK p.hand 0 15 with
  | false =>
   have HF:=af (show bI p=false by rw [zG.o,h1];rfl);have Hh:=af h1;clear h1 zG;go_wp2_with fail;refine afT (S:=(fun wz=>wz.cell? ⟨w.heap.size,0,none⟩=some vm/\wz.cell? ⟨w.heap.size,1,none⟩=some vi/\wz.cell? ⟨w.heap.size,2,none⟩=some ve/\wz.cell? ⟨w.heap.size,3,none⟩=some vc/\wz.cell? ⟨w.heap.size,4,none⟩=some vs/\wz.cell? ⟨w.heap.size,5,none⟩=some vl/\wz.cell? ⟨w.heap.size,6,none⟩=some (A0 ap p.pages.length cp)/\wz.cell? ⟨w.heap.size,7,none⟩=some (I_ p.hand)/\wz.cell? ⟨w.heap.size,8,none⟩=some (I_ p.limit))) fun hHeld=>?_
   refine afU 0 ?_;refine ahk 2 fun K hK=>?_
   (go_simp;go_at_call 56;refine (dJ _ _ _ _).mono ?_;rintro e w' ⟨rfl,rfl⟩;rw [Hh.o];go_wp2_with fail)
   refine afS hK fun hHeld=>?_
   clear hK K;refine afW 3 ?_;refine afV 11 ?_;refine tH 15 ?_;refine wpAnyH_done (by kernel_rfl) ?_ _;go_wp2_with fail;go_ret;exact ⟨ak HF.o.symm,dB.o.trans ((Below.bz Hb0.o).mono dB.o.size)⟩
  | true =>
   have Hh:=af h1
   cases h2:Kx.bK p.limit 1 6 with
   | false =>
    have HF:=af (show bI p=false by rw [zG.o,h1,h2];rfl);have Hl:=af h2;clear h1 h2 zG;go_wp2_with fail;refine afT (S:=(fun wz=>wz.cell? ⟨w.heap.size,0,none⟩=some vm/\wz.cell? ⟨w.heap.size,1,none⟩=some vi/\wz.cell? ⟨w.heap.size,2,none⟩=some ve/\wz.cell? ⟨w.heap.size,3,none⟩=some vc/\wz.cell? ⟨w.heap.size,4,none⟩=some vs/\wz.cell? ⟨w.heap.size,5,none⟩=some vl/\wz.cell? ⟨w.heap.size,6,none⟩=some (A0 ap p.pages.length cp)/\wz.cell? ⟨w.heap.size,7,none⟩=some (I_ p.hand)/\wz.cell? ⟨w.heap.size,8,none⟩=some (I_ p.limit))) fun hHeld=>?_
    refine afU 0 ?_;refine ahk 2 fun K hK=>?_
    (go_simp;go_at_call 56;refine (dJ _ _ _ _).mono ?_;rintro e w' ⟨rfl,rfl⟩;rw [Hh.o];go_wp2_with fail)
    refine afS hK fun hHeld=>?_
    clear hK K;refine afU 3 ?_;refine tH 5 ?_;refine ahk 6 fun K hK=>?_
    (go_simp;go_at_call 56;refine (dJ _ _ _ _).mono ?_;rintro e w' ⟨rfl,rfl⟩;rw [Hl.o];go_wp2_with fail)
    refine afS hK fun hHeld=>?_
    clear hK K;refine afW 7 ?_;refine tH 15 ?_;refine wpAnyH_done (by kernel_rfl) ?_ _;go_wp2_with fail;go_ret;exact ⟨ak HF.o.symm,dB.o.trans ((Below.bz Hb0.o).mono dB.o.size)⟩
   | true =>
    have HF:=af (show bI p=decide ((Kx.countP p 1:Int)<=p.limit) by rw [zG.o,h1,h2];rfl);have Hl:=af h2;clear h1 h2 zG;go_wp2_with fail;refine afT (S:=(fun wz=>wz.cell? ⟨w.heap.size,0,none⟩=some vm/\wz.cell? ⟨w.heap.size,1,none⟩=some vi/\wz.cell? ⟨w.heap.size,2,none⟩=some ve/\wz.cell? ⟨w.heap.size,3,none⟩=some vc/\wz.cell? ⟨w.heap.size,4,none⟩=some vs/\wz.cell? ⟨w.heap.size,5,none⟩=some vl/\wz.cell? ⟨w.heap.size,6,none⟩=some (A0 ap p.pages.length cp)/\wz.cell? ⟨w.heap.size,7,none⟩=some (I_ p.hand)/\wz.cell? ⟨w.heap.size,8,none⟩=some (I_ p.limit))) fun hHeld=>?_
    refine afU 0 ?_;refine ahk 2 fun K hK=>?_
    (go_simp;go_at_call 56;refine (dJ _ _ _ _).mono ?_;rintro e w' ⟨rfl,rfl⟩;rw [Hh.o];go_wp2_with fail)
    refine afS hK fun hHeld=>?_
    clear hK K;refine afU 3 ?_;refine tH 5 ?_;refine ahk 6 fun K hK=>?_
    (go_simp;go_at_call 56;refine (dJ _ _ _ _).mono ?_;rintro e w' ⟨rfl,rfl⟩;rw [Hl.o];go_wp2_with fail)
    refine afS hK fun hHeld=>?_
    clear hK K;refine afU 7 ?_;refine tH 9 ?_;refine afU 11 ?_;refine ahk 10 fun K hK=>?_
    (go_simp;go_at_call 57;refine (x_ p 1 vm vi ve vc vs vl _ p.hand p.limit wr.drew (RS.below HP.o.g (Below.bz Hb0.o))).mono ?_;rintro e w6 ⟨rfl,hb6⟩;have hb7:=Below.gG hb6;have hc7:=ik.o w6 hb7;go_wp2_with fail)
    refine afS hK fun hHeld=>?_
    clear hK K;refine afU 13 ?_;refine tH 15 ?_;refine wpAnyH_done (by kernel_rfl) ?_ _;have ZH:=af (Hb0.o.trans (hb7.mono Hb0.o.size));go_wp2_with fail;go_ret;exact ⟨ak HF.o.symm,dB.o.trans (ZH.o.mono dB.o.size)⟩
def qx (k:Kx.Kernel) (env:Int):List Nat:=if !az k||!Kx.bK env 0 2 then [] else Kx.reach k.mem (au k.ah env.toNat).root
end Go.Proofs.YthcmmoibpgcgaaaGreatDoor
