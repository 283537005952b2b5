/- Contracts: the reference's l4Put. -/
import Derived.Test.YthcmmoibpgcgaaaGreatDoorKCb
import Derived.Test.YthcmmoibpgcgaaaGreatDoorKCi
set_option maxHeartbeats 4000000
set_option maxRecDepth 100000
set_option linter.all false
open List renaming nil_append->A1
open Nat renaming le_trans->A2,le_succ_of_le->A3
open Go.Value renaming slice->A0
open Go.Proofs.Tryz
namespace Go.Proofs.YthcmmoibpgcgaaaGreatDoor
open Go.RowKit Kx
def kU (c:List Kx.Cached) (x:Kx.Cached):List Kx.Cached:=c.filter fun y=>y.env != x.env||y.page != x.page
theorem A_ (c:List Kx.Cached) (x:Kx.Cached):(kU c x).length<=c.length:=List.length_filter_le _ _
theorem FY (c:List Kx.Cached) (x:Kx.Cached) {k:Nat} (hk:k<c.length):kU (c.take (k+1)) x=kU (c.take k) x ++ kU [c[k]] x:=by
 unfold kU;rw [List.take_succ_eq_append_getElem hk,List.filter_append]
theorem Gx (c:List Kx.Cached) (x:Kx.Cached) (v:Value) (w:World) (h:dZ w v c) (hc4:c.length<=1000):Calls prog 260 #[v,.agg #[I_ x.env,I_ x.page,I_ x.frame,.bool x.write]] w (yu b_ 4 103 w (qp c x)):=by
 obtain ⟨a,cap,rfl,_,_⟩:=RS.val h;obtain ⟨w0,hw0⟩:=XP (w.alloc (.cells #[I_ x.env,I_ x.page,I_ x.frame,.bool x.write] 103));have B0:Below w.heap.size w w0:=hw0 ▸ dm;have X0:=af (show BX w0 w.heap.size 103 [I_ x.env,I_ x.page,I_ x.frame,.bool x.write] from hw0 ▸ BX.new w _ _);have H:=af (show dZ w0 _ c from RS.below h B0);have HB0:=af B0;clear h B0;go_enter func260,ntmps260;go_wp2_with fail;go_loopw [5,6] (fun out i wr=>∃ k:Nat,i=I_ k/\k<=c.length/\TI (OS b_ 4 103 wr w0.heap.size out (kU (c.take k) x))/\TI (Below w0.heap.size w0 wr)) (fun _ i _=>c.length - (intOf i).toNat)
 case atStart=>exact ⟨0,rfl,Nat.zero_le _,OS.d_ aW,fZ.alloc aW _⟩
 case round =>
  obtain ⟨k,rfl,hk,ho,hb⟩:=hrel
  by_cases hlt:k<c.length
  ·have kQ:(k:Int)<(c.length:Int):=by omega
   obtain ⟨b,off,cap',ev,hbl,hc⟩:=RS.at (RS.below H.o hb.o) (k:=k) hlt;obtain ⟨rfl,_,rfl⟩:=Za ev;clear ev;have Ht:=af (FY c x hlt);have Hlen:=af (show (kU (c.take k) x).length<=k from A2 (A_ _ _) (List.length_take_le _ _));generalize c[k]=y at hc Ht;have g0:=hc 0 _ rfl;have g1:=hc 1 _ rfl;have g2:=hc 2 _ rfl;have g3:=hc 3 _ rfl;rw [Nat.add_zero] at g0;have HX:=af (X0.o.below hb.o);obtain ⟨p0,p1,p2,p3⟩:=HX.o.c4;clear hc hbl HX;have hsz:=af hb.o.size;have hxl:=af (show (kU (c.take k) x).length+1<=1099511627776 by have:=Hlen.o;omega)
   cases hcd:(y.env != x.env||y.page != x.page) with
   | false =>
    have Hx:=af (show kU [y] x=[] by simp only [kU,List.filter_cons,hcd];rfl);rw [Bool.or_eq_false_iff] at hcd;obtain ⟨hc1,hc2⟩:=hcd;go_wp2_with fail;go_quiet (fail);go_wp2_with fail;go_roundw
    case rel=>exact ⟨k+1,by go_num,by omega,by show OS _ _ _ _ _ _ _;rw [Ht.o,Hx.o,List.append_nil];exact ho.o.drewN _,⟨hb.o.os,hb.o.tape,hb.o.output,hb.o.size,hb.o.block⟩⟩
    case measure=>simp [intOf];omega
   | true =>
    have Hx:=af (show kU [y] x=[y] by simp only [kU,List.filter_cons,hcd];rfl);have hAP:∀ W:World,W=W->True:=fun _ _=>trivial
    cases hc1:(y.env != x.env) with
    | true =>
     clear hcd;go_wp2_with fail;go_quiet (fail);obtain ⟨W1,hW1⟩:=XP (wr.drewN nq);have hb1:=hW1 ▸ IC wr nq;have ho1:=af (ho.o.below hb1);have Hb1:=af (hb.o.trans (hb1.mono hb.o.size));have hsz1:=af Hb1.o.size;have q0:=(hb1.cell (p:=⟨b,off+k*4,none⟩) (World.block_lt_of_cell? wr _ g0)).trans g0;have q1:=(hb1.cell (p:=⟨b,off+k*4+1,none⟩) (World.block_lt_of_cell? wr _ g1)).trans g1;have q2:=(hb1.cell (p:=⟨b,off+k*4+2,none⟩) (World.block_lt_of_cell? wr _ g2)).trans g2;have q3:=(hb1.cell (p:=⟨b,off+k*4+3,none⟩) (World.block_lt_of_cell? wr _ g3)).trans g3;rw [hW1];clear hW1 hb1 g0 g1 g2 g3 p0 p1 p2 p3 ho hb
     go_wp2_with (at_builtin;refine aV gB rfl _ _ rfl w0.heap.size _ (kU (c.take k) x) rfl (ho1.o.alloc _) _ [y] rfl (RS.one y #[I_ y.env,I_ y.page,I_ y.frame,.bool y.write] rfl _ _) hxl.o (by simp;exact A3 hsz1.o) ?_;intro v' w3 ho3 hg3 _;have jJ:=af ho3;have ql:=af hg3;clear ho3 hg3);go_roundw
     case rel =>
      refine ⟨k+1,by go_num,by omega,?_,?_⟩
      ·show OS _ _ _ _ _ _ _;rw [Ht.o,Hx.o];exact jJ.o
      exact Below.dN (Hb1.o.alloc Hb1.o.size _) (ho1.o.alloc _) ql.o aW (by simp;exact A3 hsz1.o)
     case measure=>simp [intOf];omega
    | false =>
     have hc2:(y.page != x.page)=true:=by rw [hc1,Bool.false_or] at hcd;exact hcd
     clear hcd;go_wp2_with fail;go_quiet (fail);obtain ⟨W1,hW1⟩:=XP (wr.drewN nq);have hb1:=hW1 ▸ IC wr nq;have ho1:=af (ho.o.below hb1);have Hb1:=af (hb.o.trans (hb1.mono hb.o.size));have hsz1:=af Hb1.o.size;have q0:=(hb1.cell (p:=⟨b,off+k*4,none⟩) (World.block_lt_of_cell? wr _ g0)).trans g0;have q1:=(hb1.cell (p:=⟨b,off+k*4+1,none⟩) (World.block_lt_of_cell? wr _ g1)).trans g1;have q2:=(hb1.cell (p:=⟨b,off+k*4+2,none⟩) (World.block_lt_of_cell? wr _ g2)).trans g2;have q3:=(hb1.cell (p:=⟨b,off+k*4+3,none⟩) (World.block_lt_of_cell? wr _ g3)).trans g3;rw [hW1];clear hW1 hb1 g0 g1 g2 g3 p0 p1 p2 p3 ho hb
     go_wp2_with (at_builtin;refine aV gB rfl _ _ rfl w0.heap.size _ (kU (c.take k) x) rfl (ho1.o.alloc _) _ [y] rfl (RS.one y #[I_ y.env,I_ y.page,I_ y.frame,.bool y.write] rfl _ _) hxl.o (by simp;exact A3 hsz1.o) ?_;intro v' w3 ho3 hg3 _;have jJ:=af ho3;have ql:=af hg3;clear ho3 hg3);go_roundw
     case rel =>
      refine ⟨k+1,by go_num,by omega,?_,?_⟩
      ·show OS _ _ _ _ _ _ _;rw [Ht.o,Hx.o];exact jJ.o
      exact Below.dN (Hb1.o.alloc Hb1.o.size _) (ho1.o.alloc _) ql.o aW (by simp;exact A3 hsz1.o)
     case measure=>simp [intOf];omega
  have hkn:k=c.length:=by omega
  subst hkn;have Ho:=ho.o;rw [List.take_length] at Ho;have JM:=af (show qp c x=(if 4<=(kU c x).length then (kU c x).drop 1 else kU c x) ++ [x] from rfl);have hl:=A_ c x;have BV:=af Ho;clear Ho ho;generalize kU c x=o at BV JM hl
  by_cases h4:4<=o.length
  ·obtain ⟨l2,hl2⟩:=XP (o.drop 1);have HF:=af (show qp c x=l2 ++ [x] by rw [JM.o,if_pos h4,hl2]);have hL2:=af (show l2.length<=1000 by rw [<-hl2,List.length_drop];omega);obtain ⟨g,cg,rfl,hg1,hg2⟩:=BV.o.shape (by omega);have hcg:=(RS.len BV.o.rs rfl).2;have HR:=af (show RS b_ 4 wr (A0 (some ⟨g,4,none⟩) (o.length - 1) (cg - 1)) l2 by have:=RS.drop BV.o.rs 1 (by omega);rw [hl2] at this;simpa using this);have aa':(1:Int)<=(cg:Int):=by omega
   have hn1:¬ cg=1:=by omega
   have aba:(1:Int)<=(o.length:Int):=by omega
   have UM:decide ((o.length:Int)≥4)=true:=by simp;omega
   clear JM hl2;have hpc:=af (fun W (hW:Below wr.heap.size wr W)=>(X0.o.below (hb.o.trans (hW.mono hb.o.size))).c4)
   obtain ⟨p0,p1,p2,p3⟩:=hpc.o wr fZ;obtain ⟨⟨L1,R1,C1⟩,⟨L2,R2,C2⟩,⟨L3,R3,C3⟩,Q2,Q3⟩:=La (e:=103) wr x #[I_ x.env,I_ x.page,I_ x.frame,.bool x.write] rfl HR.o;have hq1:=af (show ([]:List Kx.Cached).length+l2.length<=1099511627776 by have:=hL2.o;simp;omega);have hq2:=af (show l2.length+[x].length<=1099511627776 by have:=hL2.o;simp;omega);have c1:=hpc.o _ C1.o;have c2:=hpc.o _ C2.o;have c3:=hpc.o _ C3.o;have c4:=hpc.o _ (Below.lit (Below.refl wr.heap.size wr) (.cells #[I_ x.env,I_ x.page,I_ x.frame,.bool x.write] 103));go_wp2_with fail;go_region_held3 (fun wz=>wz.cell? ⟨w.heap.size,0,none⟩=some (I_ x.env)/\wz.cell? ⟨w.heap.size,1,none⟩=some (I_ x.page)/\wz.cell? ⟨w.heap.size,2,none⟩=some (I_ x.frame)/\wz.cell? ⟨w.heap.size,3,none⟩=some (.bool x.write))
    (first | assumption | exact hc1 | exact hc2 | go_keep)
    (first
     | (refine aU gB rfl _ _ rfl wr.heap.size _ [] rfl L1.o _ l2 rfl R1.o hq1.o C1.o.size ?_;intro v1 w4 ho1 hg1 _;rw [A1] at ho1;have hB1:=Below.dN C1.o L1.o hg1 aW C1.o.size;have hc1:=hpc.o _ hB1)
     | (refine aU gB rfl _ _ rfl wr.heap.size _ [] rfl L2.o _ l2 rfl R2.o hq1.o C2.o.size ?_;intro v1 w4 ho1 hg1 _;rw [A1] at ho1;have hB1:=Below.dN C2.o L2.o hg1 aW C2.o.size;have hr1:=Q2.o w4 hg1;have hc1:=hpc.o _ hB1)
     | (refine aU gB rfl _ _ rfl wr.heap.size _ [] rfl L3.o _ l2 rfl R3.o hq1.o C3.o.size ?_;intro v1 w4 ho1 hg1 _;rw [A1] at ho1;have hB1:=Below.dN C3.o L3.o hg1 aW C3.o.size;have hr1:=Q3.o w4 hg1;have hc1:=hpc.o _ hB1)
     | (refine aU gB rfl _ _ rfl wr.heap.size _ l2 rfl ho1 _ [x] rfl hr1 hq2.o hB1.size ?_;intro v2 w5 ho2 hg2 _;have hB2:=Below.dN hB1 ho1 hg2 aW hB1.size;have hc2:=hpc.o _ hB2)
     | (refine aU gB rfl _ _ rfl wr.heap.size _ l2 rfl (ho1.alloc _) _ [x] rfl (RS.one x #[I_ x.env,I_ x.page,I_ x.frame,.bool x.write] rfl w4 103) hq2.o (hB1.alloc hB1.size _).size ?_;intro v2 w5 ho2 hg2 _;have hB2:=Below.dN (hB1.alloc hB1.size _) (ho1.alloc _) hg2 aW (hB1.alloc hB1.size _).size;have hc2:=hpc.o _ hB2))
   all_goals (
    have jJ:=af ho2;have B:=af (HB0.o.trans ((hb.o.trans (hB2.mono hb.o.size)).mono HB0.o.size));have hz:=af (A2 HB0.o.size hb.o.size);clear ho2 hg2 hB2 ho1 hg1 hB1 hc1 hc2
    try clear hr1
    go_wp2_with fail;go_ret;exact ⟨_,rfl,by rw [HF.o];exact jJ.o.mono hz.o,B.o⟩)
  have HF:=af (show qp c x=o ++ [x] by rw [JM.o,if_neg h4]);have hL2:=af (show o.length<=1000 by omega);obtain ⟨l2,hl2⟩:=XP o;subst hl2;have HR:=af BV.o.rs;obtain ⟨ao,co,rfl,_,_⟩:=RS.val BV.o.rs;have UM:decide ((o.length:Int)≥4)=false:=by simp;omega
  clear JM;have hpc:=af (fun W (hW:Below wr.heap.size wr W)=>(X0.o.below (hb.o.trans (hW.mono hb.o.size))).c4)
  obtain ⟨p0,p1,p2,p3⟩:=hpc.o wr fZ;obtain ⟨⟨L1,R1,C1⟩,⟨L2,R2,C2⟩,⟨L3,R3,C3⟩,Q2,Q3⟩:=La (e:=103) wr x #[I_ x.env,I_ x.page,I_ x.frame,.bool x.write] rfl HR.o;have hq1:=af (show ([]:List Kx.Cached).length+o.length<=1099511627776 by have:=hL2.o;simp;omega);have hq2:=af (show o.length+[x].length<=1099511627776 by have:=hL2.o;simp;omega);have c1:=hpc.o _ C1.o;have c2:=hpc.o _ C2.o;have c3:=hpc.o _ C3.o;have c4:=hpc.o _ (Below.lit (Below.refl wr.heap.size wr) (.cells #[I_ x.env,I_ x.page,I_ x.frame,.bool x.write] 103));go_wp2_with fail;go_region_held3 (fun wz=>wz.cell? ⟨w.heap.size,0,none⟩=some (I_ x.env)/\wz.cell? ⟨w.heap.size,1,none⟩=some (I_ x.page)/\wz.cell? ⟨w.heap.size,2,none⟩=some (I_ x.frame)/\wz.cell? ⟨w.heap.size,3,none⟩=some (.bool x.write))
   (first | assumption | exact hc1 | exact hc2 | go_keep)
   (first
    | (refine aU gB rfl _ _ rfl wr.heap.size _ [] rfl L1.o _ o rfl R1.o hq1.o C1.o.size ?_;intro v1 w4 ho1 hg1 _;rw [A1] at ho1;have hB1:=Below.dN C1.o L1.o hg1 aW C1.o.size;have hc1:=hpc.o _ hB1)
    | (refine aU gB rfl _ _ rfl wr.heap.size _ [] rfl L2.o _ o rfl R2.o hq1.o C2.o.size ?_;intro v1 w4 ho1 hg1 _;rw [A1] at ho1;have hB1:=Below.dN C2.o L2.o hg1 aW C2.o.size;have hr1:=Q2.o w4 hg1;have hc1:=hpc.o _ hB1)
    | (refine aU gB rfl _ _ rfl wr.heap.size _ [] rfl L3.o _ o rfl R3.o hq1.o C3.o.size ?_;intro v1 w4 ho1 hg1 _;rw [A1] at ho1;have hB1:=Below.dN C3.o L3.o hg1 aW C3.o.size;have hr1:=Q3.o w4 hg1;have hc1:=hpc.o _ hB1)
    | (refine aU gB rfl _ _ rfl wr.heap.size _ o rfl ho1 _ [x] rfl hr1 hq2.o hB1.size ?_;intro v2 w5 ho2 hg2 _;have hB2:=Below.dN hB1 ho1 hg2 aW hB1.size;have hc2:=hpc.o _ hB2)
    | (refine aU gB rfl _ _ rfl wr.heap.size _ o rfl (ho1.alloc _) _ [x] rfl (RS.one x #[I_ x.env,I_ x.page,I_ x.frame,.bool x.write] rfl w4 103) hq2.o (hB1.alloc hB1.size _).size ?_;intro v2 w5 ho2 hg2 _;have hB2:=Below.dN (hB1.alloc hB1.size _) (ho1.alloc _) hg2 aW (hB1.alloc hB1.size _).size;have hc2:=hpc.o _ hB2))
  all_goals (
   have jJ:=af ho2;have B:=af (HB0.o.trans ((hb.o.trans (hB2.mono hb.o.size)).mono HB0.o.size));have hz:=af (A2 HB0.o.size hb.o.size);clear ho2 hg2 hB2 ho1 hg1 hB1 hc1 hc2
   try clear hr1
   go_wp2_with fail;go_ret;exact ⟨_,rfl,by rw [HF.o];exact jJ.o.mono hz.o,B.o⟩)
end Go.Proofs.YthcmmoibpgcgaaaGreatDoor
