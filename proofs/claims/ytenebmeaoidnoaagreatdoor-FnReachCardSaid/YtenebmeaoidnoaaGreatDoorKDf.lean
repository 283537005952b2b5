/- KD21, KD22, joined. -/
import Derived.Test.YtenebmeaoidnoaaGreatDoorKDd
import Derived.Test.YtenebmeaoidnoaaGreatDoorKDe
namespace Go.Proofs.YtenebmeaoidnoaaGreatDoor
open Go.RowKit
theorem OE.up {w V:World} {base hi:Nat} {u:Value} {m:List Kx.Env} (h:OE w base hi u m) (hu:Up base w V):OE V base hi u m:=by
  obtain ⟨ss,hl,ho,hq,hs⟩:=h;exact ⟨ss,hl,⟨ho.1.up hu,ho.2⟩,fun i a b=>⟨(hq i a b).1,(hq i a b).2.1.up hu,(hq i a b).2.2⟩,hs⟩
theorem saneI_set {l:List Kx.Info} (h:SaneI l) {f:Nat} {x:Kx.Info} (hx:x.guard.size≤9223372036854775807):SaneI (l.set f x):=fun y hy=>by
  rcases List.mem_or_eq_of_mem_set hy with h1 | rfl
  · exact h y h1
  exact hx
theorem saneI_inf {l:List Kx.Info} (h:SaneI l) (f:Nat):(Kx.inf l f).guard.size≤9223372036854775807:=by
  by_cases hf:f<l.length
  · have e:Kx.inf l f=l[f]:=by simp [Kx.inf,hf]
    rw [e];exact h _ (List.getElem_mem hf)
  have e:Kx.inf l f=Kx.Info.zero:=by unfold Kx.inf;rw [List.getD_eq_getElem?_getD,List.getElem?_eq_none (by omega)];rfl
  rw [e];decide
theorem saneE_set {l:List Kx.Env} (h:SaneE l) {e:Nat} {x:Kx.Env} (hx:SaneS x.rights):SaneE (l.set e x):=fun i hi=>by
  rw [List.length_set] at hi
  by_cases he:i=e
  · subst he;have e1:Kx.envAt (l.set i x) i=x:=by unfold Kx.envAt;rw [List.getD_eq_getElem?_getD,List.getElem?_set];simp [hi]
    rw [e1];exact hx
  have e1:Kx.envAt (l.set e x) i=Kx.envAt l i:=by unfold Kx.envAt;rw [List.getD_eq_getElem?_getD,List.getElem?_set,if_neg (fun h=>he h.symm),←List.getD_eq_getElem?_getD]
  rw [e1];exact h i hi
theorem saneE_take {l:List Kx.Env} (h:SaneE l) (n:Nat):SaneE (l.take n):=fun i hi=>by
  rw [List.length_take] at hi;have e1:Kx.envAt (l.take n) i=Kx.envAt l i:=by unfold Kx.envAt;rw [List.getD_eq_getElem?_getD,List.getElem?_take,if_pos (by omega),←List.getD_eq_getElem?_getD]
  rw [e1];exact h i (by omega)
theorem REnv.take {w:World} {a:Option Addr} {n c:Nat} {es:List Kx.Env} (h:REnv w (.slice a n c) es) (k:Nat) (hk:k≤n):REnv w (.slice a k c) (es.take k):=by
  obtain ⟨ps,hl,hs,hr⟩:=h;refine ⟨ps.take k,by simp [hl],RS.take hs k hk,fun i h1 h2=>?_⟩
  rw [List.length_take] at h1 h2;rw [List.getElem_take,List.getElem_take];exact hr i (by omega) (by omega)
section
variable {w W V:World} {rb q q' g2 g3 base b:Nat} {v0 v1 v2 v3 u0 u1 u2 u3:Value} {k k':Kx.Kernel}
structure LO (w W:World) (rb q g2 g3 base:Nat) (k:Kx.Kernel) (v0 v1 v2 v3:Value):Prop where
  l:L0 w W rb q g2 g3 v0 v1 v2 v3
  hb:g3<base
  ko:KO W base v0 v1 v2 v3 k
theorem LO.pick (h:LO w W rb q g2 g3 base k v0 v1 v2 v3) (hr:RD V rb q') (hg:W.grownBy V (some rb)):LO w V rb q' g2 g3 base k v0 v1 v2 v3:=
  ⟨h.l.pick hr hg,h.hb,h.ko.up (Up.grown hg (fun g e=>by cases e;have:=h.l.h;have:=h.hb;omega))⟩
theorem LO.below (h:LO w W rb q g2 g3 base k v0 v1 v2 v3) (hb:Below W.heap.size W V):LO w V rb q g2 g3 base k v0 v1 v2 v3:=
  h.pick (h.l.r.keep hb) (grown_below hb ⟨hb.os,hb.tape,hb.output⟩)
theorem L0.set1 (h:L0 w W rb q g2 g3 v0 v1 v2 v3) (hb:g3<b) (i:Nat) (v:Value):L0 w (W.setCell ⟨b,i,none⟩ v) rb q g2 g3 v0 v1 v2 v3:=
  ⟨h.r.grown (grown_set1 W b i v) (fun k hk=>by cases hk;have:=h.h;omega),grownBy_later h.g (grown_set1 W b i v) (fun k hk=>by cases hk;have:=h.h;omega),h.x2.other (by have:=h.h;omega) i v,h.x3.other (by omega) i v,h.sl,h.h⟩
structure LA (w W:World) (rb q g2 g3:Nat) (k:Kx.Kernel) (v0 v1 v2 v3:Value):Prop where
  l:L0 w W rb q g2 g3 v0 v1 v2 v3
  f:∃ base hi,g2<base∧(g3<base∨hi≤g3)∧hi≤W.heap.size∧RKr W base hi v0 v1 v2 v3 k
  sane:SaneK k
theorem LO.la (h:LO w W rb q g2 g3 base k v0 v1 v2 v3) (hs:SaneK k):LA w W rb q g2 g3 k v0 v1 v2 v3:=
  ⟨h.l,⟨base,W.heap.size,by have:=h.l.h;have:=h.hb;omega,.inl h.hb,Nat.le_refl _,h.ko.rko.r⟩,hs⟩
theorem LK.la (h:LK w W rb q g2 g3 k v0 v1 v2 v3):LA w W rb q g2 g3 k v0 v1 v2 v3:=⟨h.l,h.f,sane_of_ok h.ok⟩
theorem LA.fin (h:LA w W rb q g2 g3 k v0 v1 v2 v3):∃ base,g2<base∧RKo (sets W g2 0 [v0,v1,v2,v3]) base v0 v1 v2 v3 k∧RD (sets W g2 0 [v0,v1,v2,v3]) rb q∧w.grownBy (sets W g2 0 [v0,v1,v2,v3]) (some rb)∧BX (sets W g2 0 [v0,v1,v2,v3]) g2 28 [v0,v1,v2,v3]:=by
  obtain ⟨base,hi,h2,h3,h4,hk⟩:=h.f;have h1:=h.l.h;obtain ⟨a,b⟩:=went_sets (w:=w) (g:=g2) (by omega) (by omega) [v0,v1,v2,v3] 0 h.l.r h.l.g;exact ⟨base,h2,(hk.to (by rw [sets_size];exact Nat.le_refl _) (fun j a _=>sets_block _ _ (by omega) _ _)).rko (by rw [sets_size];exact h4),a,b,h.l.x2.sets _ rfl⟩
end
def DrawnA (rb p n:Nat) (w:World) (en:Ending) (w':World):Prop:=∃ (k:Kx.Kernel) (um ui ue uc:Value) (base:Nat),en=.returned (.agg #[um,ui,ue,uc])∧(Sl um∧Sl ui∧Sl ue∧Sl uc)∧SaneK k∧w.heap.size≤base∧RKo w' base um ui ue uc k∧Went rb p n w w'
set_option maxHeartbeats 8000000 in
set_option maxRecDepth 100000 in
theorem l92Any_c (rb p:Nat) (w:World) (h:RD w rb p) (hp:p≤500000) :
    Calls Tryz.prog 31 #[.pointer (some ⟨rb,0,none⟩)] w (DrawnA rb p 1200 w):=by
  have hrb:=h.lt;obtain ⟨w1,hw1⟩:∃ w1,w.alloc (.cells #[.slice none 0 0,.slice none 0 0,.slice none 0 0,.slice none 0 0] 28)=w1:=⟨_,rfl⟩;have B1:Below w.heap.size w w1:=hw1 ▸ bL_;have s1:w.heap.size<w1.heap.size:=by rw [←hw1];simp
  have Hr:=hI_ (h.keep B1);have Hg:=hI_ (grown_below (rb:=rb) B1 ⟨B1.os,B1.tape,B1.output⟩);have hX2:=hI_ (show BX w1 w.heap.size 28 [.slice none 0 0,.slice none 0 0,.slice none 0 0,.slice none 0 0] from (hw1 ▸ BX.new w _ _:BX w1 _ _ _));clear B1 h;go_enter Tryz.func31,Tryz.ntmps31;go_wp2_with fail;clear hw1;refine (l92Kernel_c rb p w1 Hr.out (by omega)).mono ?_;rintro en w2 ⟨k,_,_,_,_,base,rfl,⟨⟨a0,n0,m0,rfl⟩,⟨a1,n1,m1,rfl⟩,⟨a2,n2,m2,rfl⟩,⟨a3,n3,m3,rfl⟩⟩,hok,hbase,hko,q,hq,hr,hg⟩;have hz2:=hg.size;obtain ⟨w3,hw3⟩:∃ V,w2.alloc (.cells #[.slice a0 n0 m0,.slice a1 n1 m1,.slice a2 n2 m2,.slice a3 n3 m3] 28)=V:=⟨_,rfl⟩;have B3:Below w2.heap.size w2 w3:=hw3 ▸ bL_;have H:=hI_ (show LK w w3 rb q w.heap.size w2.heap.size k (.slice a0 n0 m0) (.slice a1 n1 m1) (.slice a2 n2 m2) (.slice a3 n3 m3) from
    ⟨⟨hr.keep B3,grownBy_trans (grownBy_trans Hg.out hg) (grown_below (rb:=rb) B3 ⟨B3.os,B3.tape,B3.output⟩),BX.below (show BX w2 _ _ _ from (hg.block w.heap.size hX2.out.lt (by simp;omega)).trans hX2.out) B3,hw3 ▸ BX.new w2 _ _,⟨⟨_,_,_,rfl⟩,⟨_,_,_,rfl⟩,⟨_,_,_,rfl⟩,⟨_,_,_,rfl⟩⟩,by omega⟩,
      ⟨base,w2.heap.size,by omega,.inr nR_,B3.size,hko.r.to B3.size (fun j _ b=>B3.block j b)⟩,hok⟩)
  obtain ⟨g3,hg3⟩:∃ g,w2.heap.size=g:=⟨_,rfl⟩;rw [hg3] at H;clear hko hr hg B3 Hr Hg hX2 hok hbase;go_wp2_with fail
  try rw [hw3]
  try rw [hg3]
  refine (pick_c rb _ 14 _ H.out.l.r (by omega) (by omega) (by omega)).mono ?_;rintro en w4 ⟨x,rfl,x0,x1,hr,hg⟩;replace H:=hI_ (H.out.pick hr hg);clear hr hg hw3 hg3
  by_cases hx:x=0
  · subst hx;have HC:=hI_ (show Calls Tryz.prog 64 #[.agg #[.slice a0 n0 m0,.slice a1 n1 m1,.slice a2 n2 m2,.slice a3 n3 m3]] w4 _ from by obtain ⟨hl1,hl2,hl3,hl4,hl5⟩:=kernelOk_lens H.out.ok;exact l21Copy_c k _ _ _ _ w4 H.out.rk hl1 hl2 hl3 hl4 hl5);have Hok:=hI_ H.out.ok;obtain ⟨c0,c1,c2,c3⟩:=H.out.l.x3.c4;go_wp2_with fail;refine HC.out.mono ?_;rintro en w5 ⟨_,_,_,_,rfl,ho,hb⟩;obtain ⟨⟨b0,bn0,bm0,rfl⟩,⟨b1,bn1,bm1,rfl⟩,⟨b2,bn2,bm2,rfl⟩,⟨b3,bn3,bm3,rfl⟩⟩:=ho.sl;have h5:=H.out.l.below hb;have hg34:=H.out.l.x3.lt;have HO:=hI_ (show LO w (sets w5 g3 0 [.slice b0 bn0 bm0,.slice b1 bn1 bm1,.slice b2 bn2 bm2,.slice b3 bn3 bm3]) rb _ w.heap.size g3 w4.heap.size k (.slice b0 bn0 bm0) (.slice b1 bn1 bm1) (.slice b2 bn2 bm2) (.slice b3 bn3 bm3) from ⟨h5.set3 ⟨⟨_,_,_,rfl⟩,⟨_,_,_,rfl⟩,⟨_,_,_,rfl⟩,⟨_,_,_,rfl⟩⟩,hg34,KO.sets boxKernel _ 0 h5.x3 ho⟩);clear c0 c1 c2 c3;obtain ⟨c0,c1,c2,c3⟩:=h5.x3.c4
    obtain ⟨y0,y1,y2,y3⟩:=h5.x3.f4;obtain ⟨w6,hw6⟩:∃ V,sets w5 g3 0 [.slice b0 bn0 bm0,.slice b1 bn1 bm1,.slice b2 bn2 bm2,.slice b3 bn3 bm3]=V:=⟨_,rfl⟩;rw [hw6] at HO;clear ho hb h5 H HC;go_wp2_with fail;rw [show ((((w5.setCell ⟨g3,0,none⟩ (.slice b0 bn0 bm0)).setCell ⟨g3,1,none⟩ (.slice b1 bn1 bm1)).setCell ⟨g3,2,none⟩ (.slice b2 bn2 bm2)).setCell ⟨g3,3,none⟩ (.slice b3 bn3 bm3))=w6 from hw6];clear hw6 c0 c1 c2 c3 y0 y1 y2 y3;refine (pick_c rb _ 12 _ HO.out.l.r (by omega) (by omega) (by omega)).mono ?_;rintro en w7 ⟨f,rfl,f0,f1,hr,hg⟩;replace HO:=hI_ (HO.out.pick hr hg);obtain ⟨f,rfl⟩:=Int.eq_ofNat_of_zero_le f0;clear hr hg;go_wp2_with fail;refine (pick_c rb _ 7 _ HO.out.l.r (by omega) (by omega) (by omega)).mono ?_;rintro en w8 ⟨y,rfl,yy0,yy1,hr,hg⟩;replace HO:=hI_ (HO.out.pick hr hg);clear hr hg;obtain ⟨hmo,hio,h12,_,h3,_⟩:=kernelOk_parts Hok.out
    have Hm12:=hI_ (Kx.memOk_iff.1 hmo).1;have H12:=hI_ h12;have H3:=hI_ h3;have Hs:=hI_ (sane_of_ok Hok.out);have hf12:f<12:=by omega
    clear hmo hio h12 h3;go_upto_block 0 with fail;go_cut [4] from 5 (fun _ wx=>∃ (q:Nat) (k:Kx.Kernel) (v0 v1 v2 v3:Value),q≤p+1150∧Hid (LA w wx rb q w.heap.size g3 k v0 v1 v2 v3))
    case first =>
      by_cases k0:y=0
      · subst k0;obtain ⟨d,hd⟩:∃ d,w8.drew=d:=⟨_,rfl⟩;have Bd:Below w8.heap.size w8 d:=hd ▸ Below.drewB bR_;have Hd:=hI_ hd;replace HO:=hI_ (HO.out.below Bd);clear hd Bd;go_wp2_with fail;have hrow4:(Kx.row k.mem f).length=4:=by
          obtain ⟨hmo,_⟩:=kernelOk_parts Hok.out;exact (mem_row hmo hf12).2.1
        have Hrow4:=hI_ hrow4;clear hrow4;have Hset:=hI_ (fun (V:World) (a:Nat) (h:KO V w4.heap.size (.slice b0 bn0 bm0) (.slice b1 bn1 bm1) (.slice b2 bn2 bm2) (.slice b3 bn3 bm3) k) (ha:a<4)=>KO.setWord h (f:=f) (a:=a) (by rw [Hm12.out];exact hf12) (by rw [Hrow4.out];exact ha))
        obtain ⟨mb,mc,mg,mc2,e1,e2,_⟩:=Hset.out d 0 HO.out.ko (by decide);rw [Hm12.out] at e1;simp only [Value.slice.injEq] at e1;obtain ⟨rfl,rfl,rfl⟩:=e1;rw [Hrow4.out] at e2;have E2:=hI_ e2;clear e2;have hmb:=hI_ (show mb≠rb∧mb<d.heap.size from ⟨by
            have h1:=HO.out.hb;have h2:=HO.out.l.h;obtain ⟨b',c',g',c2',e,_,h4,_⟩:=HO.out.ko.m.setWord (f:=f) (a:=0) (by rw [Hm12.out];exact hf12) (by rw [Hrow4.out];decide);obtain ⟨b'',c'',e',h5,h6⟩:=(show ∃ b'' c'',(Value.slice (some ⟨mb,0,none⟩) 12 bm0)=.slice (some ⟨b'',0,none⟩) 12 c''∧w4.heap.size≤b''∧b''<d.heap.size from by
              obtain ⟨ss,hl,ho,_⟩:=HO.out.ko.m;obtain ⟨g,cp,e,h7,h8⟩:=ho.1.shape (by rw [hl,Hm12.out];decide);rw [hl,Hm12.out] at e;exact ⟨g,cp,e,h7,h8⟩)
            simp only [Value.slice.injEq,Option.some.injEq,Addr.mk.injEq] at e';omega,by
            obtain ⟨ss,hl,ho,_⟩:=HO.out.ko.m;obtain ⟨g,cp,e,h7,h8⟩:=ho.1.shape (by rw [hl,Hm12.out];decide);simp only [Value.slice.injEq,Option.some.injEq,Addr.mk.injEq] at e;omega⟩)
        refine wpL (S:=(fun U:World=>U.cell? ⟨g3,0,none⟩=some (.slice (some ⟨mb,0,none⟩) 12 bm0)∧U.cell? ⟨mb,f,none⟩=some (.slice (some ⟨mg,0,none⟩) 4 mc2))) (xs:=[11]) (by kernel_rfl) (by rw [Hd.out];exact ⟨HO.out.l.x3.cell 0,E2.out⟩) (fun hHeld=>?_)
        rw [Hd.out];rw [Hd.out] at hHeld;refine tP 0 ?_;refine tL 1 ?_;refine tP 2 ?_;refine tP 3 ?_;refine tL 4 ?_;refine tP 5 ?_;refine tP 7 ?_;refine doL 6 (by kernel_rfl) rfl (fun K hK=>?_);rw [if_pos (by rfl)];go_simp;go_at_call 55;refine (pick_c rb _ 4 _ HO.out.l.r (by omega) (by omega) (by omega)).mono ?_;rintro en V1 ⟨xa,rfl,xa0,xa1,hr,hg⟩;have H1:=hI_ (HO.out.pick hr hg);obtain ⟨xa,rfl⟩:=Int.eq_ofNat_of_zero_le xa0;have E3:=hI_ ((World.cell?_of_block (hg.block mb hmb.out.2 (by have:=hmb.out.1;simpa using this)) (a:=⟨mb,f,none⟩)).trans E2.out);have hmb2:=hI_ (Nat.lt_of_lt_of_le hmb.out.2 hg.size);clear hr hg;refine hK.out _ _ ?_ (fun hHeld=>?_)
        · exact ⟨H1.out.l.x3.cell 0,E3.out⟩
        clear hK K;refine nL ?_;refine doL 8 (by kernel_rfl) rfl (fun K hK=>?_);rw [if_pos (by rfl)];go_simp;go_at_call 65;refine (l91Entry_c rb _ _ H1.out.l.r (by omega)).mono ?_;rintro en V2 ⟨xe,rfl,q2,hq2,hr,hg⟩;have H2:=hI_ (H1.out.pick hr hg);have E4:=hI_ ((World.cell?_of_block (hg.block mb hmb2.out (by have:=hmb.out.1;simpa using this)) (a:=⟨mb,f,none⟩)).trans E3.out);clear hr hg;refine hK.out _ _ ?_ (fun hHeld=>?_)
        · exact ⟨H2.out.l.x3.cell 0,E4.out⟩
        clear hK K;refine nL ?_;refine tP 9 ?_;refine tP 10 ?_;obtain ⟨b',c',g',c2',e1,e2,hge,_,_,⟨z,hz⟩,hfz,hK⟩:=Hset.out V2 xa H2.out.ko (by omega);have hgb:=hI_ (show mg=g' by
          have h1:=E4.out;simp only [Value.slice.injEq,Option.some.injEq,Addr.mk.injEq] at e1;obtain ⟨⟨rfl,_⟩,_⟩:=e1;rw [e2] at h1;simp only [Option.some.injEq,Value.slice.injEq,Addr.mk.injEq] at h1;exact h1.1.1.symm)
        obtain rfl:=hgb.out;have HK:=hI_ hK;have hge2:=hI_ hge;clear hK e1 e2 hge;refine lastL 11 (by rfl) (by kernel_rfl) rfl (fun K hK=>?_);rw [if_pos (by rfl)];go_simp;refine hK.out _ _ ?_;clear hK K;refine nL ?_;refine doneL (by kernel_rfl) ?_ _;go_wp2_with fail;go_meet;exact ⟨_,_,_,_,_,_,by omega,hI_ (LO.la ⟨H2.out.l.set1 (by have:=H2.out.hb;have:=hge2.out;omega) _ _,H2.out.hb,HK.out _⟩ Hs.out)⟩
      have n0:(y==0)=false:=by simpa using k0
      clear k0
      by_cases k1:y=1
      · subst k1;obtain ⟨d,hd⟩:∃ d,w8.drew=d:=⟨_,rfl⟩;have Bd:Below w8.heap.size w8 d:=hd ▸ Below.drewB bR_;have Hd:=hI_ hd;replace HO:=hI_ (HO.out.below Bd);clear hd Bd;go_wp2_with fail;obtain ⟨ib,ic,ei,hib1,hib2⟩:=HO.out.ko.i.shape (by rw [H12.out];decide);rw [H12.out] at ei;simp only [Value.slice.injEq] at ei;obtain ⟨rfl,rfl,rfl⟩:=ei;refine wpL (S:=(fun U:World=>U.cell? ⟨g3,1,none⟩=some (.slice (some ⟨ib,0,none⟩) 12 bm1))) (xs:=[6]) (by kernel_rfl) (by rw [Hd.out];exact HO.out.l.x3.cell 1) (fun hHeld=>?_)
        rw [Hd.out];rw [Hd.out] at hHeld;refine tP 0 ?_;refine tL 1 ?_;refine tP 2 ?_;refine tP 3 ?_;refine doL 4 (by kernel_rfl) rfl (fun K hK=>?_);rw [if_pos (by rfl)];go_simp;go_at_call 66;refine (l91Info_c rb _ _ HO.out.l.r (by omega)).mono ?_;rintro en V1 ⟨xi,rfl,hxi,q2,hq2,hr,hg⟩;have H1:=hI_ (HO.out.pick hr hg);clear hr hg;unfold infoV;refine hK.out _ _ ?_ (fun hHeld=>?_)
        · exact H1.out.l.x3.cell 1
        clear hK K;refine nL ?_;refine tP 5 ?_;have O1:=H1.out.ko.i;obtain ⟨⟨z0,hz0⟩,hf0⟩:=O1.cellAt2 f (by rw [H12.out];exact hf12) 0 (by decide);obtain ⟨⟨z1,hz1⟩,hf1⟩:=O1.cellAt2 f (by rw [H12.out];exact hf12) 1 (by decide);obtain ⟨⟨z2,hz2⟩,hf2⟩:=O1.cellAt2 f (by rw [H12.out];exact hf12) 2 (by decide);rw [Nat.add_zero] at hz0 hf0;obtain ⟨hO2,hG2⟩:=O1.storedAt H12.out f xi (by rw [H12.out];exact hf12);have hkd:∃ cs,V1.heap[ib]?=some (.cells cs 45 (0,0)):=O1.kind rfl;have HF:=hI_ (show LA w (((V1.setCell ⟨ib,f*3,none⟩ (.int .i64 xi.kind)).setCell ⟨ib,f*3+1,none⟩ (.string xi.guard)).setCell ⟨ib,f*3+2,none⟩ (.int .i64 xi.refs)) rb q2 w.heap.size g3 { k with infos:=k.infos.set f xi } (.slice b0 bn0 bm0) (.slice (some ⟨ib,0,none⟩) 12 bm1) (.slice b2 bn2 bm2) (.slice b3 bn3 bm3) from by
          obtain ⟨cs,hkd⟩:=hkd;have hgi:g3<ib:=by have:=H1.out.hb;omega
          refine LO.la (base:=w4.heap.size) ⟨((H1.out.l.set1 hgi _ _).set1 hgi _ _).set1 hgi _ _,H1.out.hb,?_,hO2,?_,?_⟩ ⟨saneI_set Hs.out.1 (by omega),Hs.out.2⟩
          · have:=H1.out.ko.m.keptT hG2 hkd (by decide) (by decide)
            rw [show (((V1.setCell ⟨ib,f*3,none⟩ (.int .i64 xi.kind)).setCell ⟨ib,f*3+1,none⟩ (.string xi.guard)).setCell ⟨ib,f*3+2,none⟩ (.int .i64 xi.refs)).heap.size=V1.heap.size by simp [World.setCell]];exact this
          · have:=H1.out.ko.e.keptT hG2 hkd (by decide) (by decide)
            rw [show (((V1.setCell ⟨ib,f*3,none⟩ (.int .i64 xi.kind)).setCell ⟨ib,f*3+1,none⟩ (.string xi.guard)).setCell ⟨ib,f*3+2,none⟩ (.int .i64 xi.refs)).heap.size=V1.heap.size by simp [World.setCell]];exact this
          exact H1.out.ko.c.keptT hG2 hkd (by decide))
        clear O1 hO2 hG2 hkd;refine lastL 6 (by rfl) (by kernel_rfl) rfl (fun K hK=>?_);rw [if_pos (by rfl)];go_simp;refine hK.out _ _ ?_;clear hK K;refine nL ?_;refine doneL (by kernel_rfl) ?_ _;go_wp2_with fail;go_meet;exact ⟨_,_,_,_,_,_,by omega,HF⟩
      have n1:(y==1)=false:=by simpa using k1
      clear k1
      by_cases k2:y=2
      · subst k2;have Hset:=hI_ (fun (V:World) (h:KO V w4.heap.size (.slice b0 bn0 bm0) (.slice b1 bn1 bm1) (.slice b2 bn2 bm2) (.slice b3 bn3 bm3) k)=>KO.setRefs h (f:=f) (by rw [H12.out];exact hf12))
        obtain ⟨ib,ic,ei,hib1,hib2,_,⟨z,hz⟩,hfz,hcz,hK⟩:=Hset.out w8 HO.out.ko;rw [H12.out] at ei;simp only [Value.slice.injEq] at ei;obtain ⟨rfl,rfl,rfl⟩:=ei;have HOd:=hI_ (HO.out.below (Below.drewB (Below.refl w8.heap.size w8)));have HKd:=hI_ (show ∀ x,KO (w8.drew.setCell ⟨ib,f*3+2,none⟩ (.int .i64 x)) w4.heap.size (.slice b0 bn0 bm0) (.slice (some ⟨ib,0,none⟩) 12 bm1) (.slice b2 bn2 bm2) (.slice b3 bn3 bm3) { k with infos:=k.infos.set f { Kx.inf k.infos f with refs:=x } } from fun x=>by
          obtain ⟨ib2,ic2,ei2,_,_,_,_,_,_,hK2⟩:=Hset.out w8.drew HOd.out.ko;simp only [Value.slice.injEq,Option.some.injEq,Addr.mk.injEq] at ei2;obtain ⟨⟨rfl,_⟩,_⟩:=ei2;exact hK2 x)
        have hrr:=(Kx.infosOk_iff.1 (kernelOk_parts Hok.out).2.1).2 f (by omega);have hr50:(Kx.inf k.infos f).refs≤50∧0≤(Kx.inf k.infos f).refs:=by
          rcases Kx.infoOk_iff.1 hrr with h0 | h0
          · rw [h0];decide
          have:=h0.2.2.2;first | (have:=Kx.inR_true.1 this;omega) | omega
        obtain ⟨hr50,hr0⟩:=hr50;generalize hrf:(Kx.inf k.infos f).refs=rf at hcz hr50 hr0;have p1:=HO.out.l.x3.cell 1;simp only [List.getElem?_cons_zero,List.getElem?_cons_succ] at p1;clear hK hrr hrf hz;go_wp2_with fail;go_still_tail 12,(by kernel_rfl)
        go_wp2_with fail;go_meet;exact ⟨_,_,_,_,_,_,by omega,hI_ (LO.la ⟨HOd.out.l.set1 (by have:=HO.out.hb;omega) _ _,HOd.out.hb,HKd.out _⟩ ⟨saneI_set Hs.out.1 (saneI_inf Hs.out.1 f),Hs.out.2⟩)⟩
      have n2:(y==2)=false:=by simpa using k2
      clear k2
      by_cases k3:y=3
      · subst k3;obtain ⟨d,hd⟩:∃ d,w8.drew=d:=⟨_,rfl⟩;have Bd:Below w8.heap.size w8 d:=hd ▸ Below.drewB bR_;have Hd:=hI_ hd;replace HO:=hI_ (HO.out.below Bd);clear hd Bd;go_wp2_with fail;obtain ⟨eb,ec,ei,heb⟩:=(show ∃ b c,(.slice b2 bn2 bm2:Value)=.slice (some ⟨b,0,none⟩) k.envs.length c∧w4.heap.size≤b from by obtain ⟨b,c,h1,h2,_⟩:=HO.out.ko.setRoot (e:=0) (by rw [H3.out];decide);exact ⟨b,c,h1,h2⟩);rw [H3.out] at ei;simp only [Value.slice.injEq] at ei;obtain ⟨rfl,rfl,rfl⟩:=ei;refine wpL (S:=(fun U:World=>U.cell? ⟨g3,2,none⟩=some (.slice (some ⟨eb,0,none⟩) 3 bm2))) (xs:=[9]) (by kernel_rfl) (by rw [Hd.out];exact HO.out.l.x3.cell 2) (fun hHeld=>?_)
        rw [Hd.out];rw [Hd.out] at hHeld;refine tP 0 ?_;refine tL 1 ?_;refine tP 2 ?_;refine tP 4 ?_;refine doL 3 (by kernel_rfl) rfl (fun K hK=>?_);rw [if_pos (by rfl)];go_simp;go_at_call 55;refine (pick_c rb _ 3 _ HO.out.l.r (by omega) (by omega) (by omega)).mono ?_;rintro en V1 ⟨xa,rfl,xa0,xa1,hr,hg⟩;have H1:=hI_ (HO.out.pick hr hg);obtain ⟨xa,rfl⟩:=Int.eq_ofNat_of_zero_le xa0;clear hr hg;refine hK.out _ _ ?_ (fun hHeld=>?_)
        · exact H1.out.l.x3.cell 2
        clear hK K;refine nL ?_;refine doL 5 (by kernel_rfl) rfl (fun K hK=>?_);rw [if_pos (by rfl)];go_simp;go_at_call 55;refine (pick_c rb _ 13 _ H1.out.l.r (by omega) (by omega) (by omega)).mono ?_;rintro en V2 ⟨xb,rfl,xb0,xb1,hr,hg⟩;have H2:=hI_ (H1.out.pick hr hg);clear hr hg;refine hK.out _ _ ?_ (fun hHeld=>?_)
        · exact H2.out.l.x3.cell 2
        clear hK K;refine nL ?_;have hxa3:xa<3:=by omega
        refine tP 6 ?_;refine tP 7 ?_;refine tP 8 ?_;obtain ⟨eb2,ec2,ei2,_,_,_,⟨z,hz⟩,hfz,hK⟩:=H2.out.ko.setRoot (e:=xa) (by rw [H3.out];omega);simp only [Value.slice.injEq,Option.some.injEq,Addr.mk.injEq] at ei2;obtain ⟨⟨rfl,_⟩,hq3,hq4⟩:=ei2;clear hq3 hq4;have HK:=hI_ hK;clear hK;refine lastL 9 (by rfl) (by kernel_rfl) rfl (fun K hK=>?_);rw [if_pos (by rfl)];go_simp;refine hK.out _ _ ?_;clear hK K;refine nL ?_;refine doneL (by kernel_rfl) ?_ _;go_wp2_with fail;go_meet;exact ⟨_,_,_,_,_,_,by omega,hI_ (LO.la ⟨H2.out.l.set1 (by have:=H2.out.hb;omega) _ _,H2.out.hb,HK.out _⟩ ⟨Hs.out.1,saneE_set Hs.out.2 (by by_cases he:xa<k.envs.length;exact Hs.out.2 xa he;exact absurd (by rw [H3.out];omega) he)⟩)⟩
      have n3:(y==3)=false:=by simpa using k3
      clear k3
      by_cases k4:y=4
      · subst k4;obtain ⟨d,hd⟩:∃ d,w8.drew=d:=⟨_,rfl⟩;have Bd:Below w8.heap.size w8 d:=hd ▸ Below.drewB bR_;have Hd:=hI_ hd;replace HO:=hI_ (HO.out.below Bd);clear hd Bd;go_wp2_with fail;obtain ⟨eb,ec,ei,heb⟩:=(show ∃ b c,(.slice b2 bn2 bm2:Value)=.slice (some ⟨b,0,none⟩) k.envs.length c∧w4.heap.size≤b from by obtain ⟨b,c,h1,h2,_⟩:=HO.out.ko.setRoot (e:=0) (by rw [H3.out];decide);exact ⟨b,c,h1,h2⟩);rw [H3.out] at ei;simp only [Value.slice.injEq] at ei;obtain ⟨rfl,rfl,rfl⟩:=ei;refine wpL (S:=(fun U:World=>U.cell? ⟨g3,2,none⟩=some (.slice (some ⟨eb,0,none⟩) 3 bm2))) (xs:=[8]) (by kernel_rfl) (by rw [Hd.out];exact HO.out.l.x3.cell 2) (fun hHeld=>?_)
        rw [Hd.out];rw [Hd.out] at hHeld;refine tP 0 ?_;refine tL 1 ?_;refine tP 2 ?_;refine tP 4 ?_;refine doL 3 (by kernel_rfl) rfl (fun K hK=>?_);rw [if_pos (by rfl)];go_simp;go_at_call 55;refine (pick_c rb _ 3 _ HO.out.l.r (by omega) (by omega) (by omega)).mono ?_;rintro en V1 ⟨xa,rfl,xa0,xa1,hr,hg⟩;have H1:=hI_ (HO.out.pick hr hg);obtain ⟨xa,rfl⟩:=Int.eq_ofNat_of_zero_le xa0;clear hr hg;refine hK.out _ _ ?_ (fun hHeld=>?_)
        · exact H1.out.l.x3.cell 2
        clear hK K;refine nL ?_;refine doL 5 (by kernel_rfl) rfl (fun K hK=>?_);rw [if_pos (by rfl)];go_simp;go_at_call 67;refine (l91Rights_c rb _ _ H1.out.l.r (by omega)).mono ?_;rintro en V2 ⟨_,xr,rfl,hor,hxr,q2,hq2,hr,hg⟩;have H2:=hI_ (H1.out.pick hr hg);have HE2:=hI_ (show OE V2 w4.heap.size V1.heap.size _ k.envs from H1.out.ko.e.up (Up.grown hg (fun g e=>by cases e;have:=H1.out.l.h;have:=H1.out.hb;omega)));obtain ⟨ra,rc,rfl,_,_⟩:=RS.val hor.rs;have HOr:=hI_ hor;have hz12:=hI_ hg.size;have hz11:=hI_ (show w4.heap.size≤V1.heap.size from by have:=H1.out.ko.e;obtain ⟨b,c,_,h2,h3,_⟩:=H1.out.ko.setRoot (e:=0) (by rw [H3.out];decide);omega);clear hr hg hor;refine hK.out _ _ ?_ (fun hHeld=>?_)
        · exact H2.out.l.x3.cell 2
        clear hK K;refine nL ?_;have hxa3:xa<3:=by omega
        refine tP 6 ?_;refine tP 7 ?_;obtain ⟨eb2,ec2,ei2,_,_,_,⟨z,hz⟩,hfz,hK⟩:=H2.out.ko.setRights HE2.out hz11.out hz12.out (e:=xa) (by rw [H3.out];omega) ⟨ra,xr.length,rc⟩ xr HOr.out;simp only [Value.slice.injEq,Option.some.injEq,Addr.mk.injEq] at ei2;obtain ⟨⟨rfl,_⟩,hq3,hq4⟩:=ei2;clear hq3 hq4;have HK:=hI_ (show KO (V2.setCell ⟨eb,xa*2,none⟩ (.slice ra xr.length rc)) _ _ _ _ _ _ from hK);clear hK;refine lastL 8 (by rfl) (by kernel_rfl) rfl (fun K hK=>?_);rw [if_pos (by rfl)];go_simp;refine hK.out _ _ ?_;clear hK K;refine nL ?_;refine doneL (by kernel_rfl) ?_ _;go_wp2_with fail;go_meet;exact ⟨_,_,_,_,_,_,by omega,hI_ (LO.la ⟨H2.out.l.set1 (by have:=H2.out.hb;omega) _ _,H2.out.hb,HK.out⟩ ⟨Hs.out.1,saneE_set Hs.out.2 (fun s hs=>Nat.le_trans (hxr s hs) (by decide))⟩)⟩
      have n4:(y==4)=false:=by simpa using k4
      clear k4
      by_cases k5:y=5
      · subst k5;go_wp2_with fail;refine (l91Cache_c rb _ _ HO.out.l.r (by omega)).mono ?_;rintro en V1 ⟨_,xc,rfl,hoc,q2,hq2,hr,hg⟩;have H1:=hI_ (HO.out.pick hr hg);obtain ⟨ca,cc,rfl,_,_⟩:=RS.val hoc.rs;have hz8:w4.heap.size≤w8.heap.size:=by obtain ⟨b,c,_,h2,h3,_⟩:=HO.out.ko.setRoot (e:=0) (by rw [H3.out];decide);omega
        have HF:=hI_ (show LA w (V1.setCell ⟨g3,3,none⟩ (.slice ca xc.length cc)) rb q2 w.heap.size g3 { k with cache:=xc } (.slice b0 bn0 bm0) (.slice b1 bn1 bm1) (.slice b2 bn2 bm2) (.slice ca xc.length cc) from by
          have hl:=H1.out.l;have hkx:KO V1 w4.heap.size (.slice b0 bn0 bm0) (.slice b1 bn1 bm1) (.slice b2 bn2 bm2) (.slice ca xc.length cc) { k with cache:=xc }:=⟨H1.out.ko.m,H1.out.ko.i,H1.out.ko.e,hoc.mono hz8⟩;refine LO.la (base:=w4.heap.size) ⟨⟨hl.r.grown (grown_set1 V1 g3 3 _) (fun k hk=>by cases hk;have:=hl.h;omega),grownBy_later hl.g (grown_set1 V1 g3 3 _) (fun k hk=>by cases hk;have:=hl.h;omega),hl.x2.other (by have:=hl.h;omega) 3 _,hl.x3.set 3 _,⟨⟨_,_,_,rfl⟩,⟨_,_,_,rfl⟩,⟨_,_,_,rfl⟩,⟨_,_,_,rfl⟩⟩,hl.h⟩,H1.out.hb,hkx.box hl.x3 boxKernel 3 _⟩ Hs.out)
        obtain ⟨c0,c1,c2,c3⟩:=H1.out.l.x3.c4;obtain ⟨y0,y1,y2,y3⟩:=H1.out.l.x3.f4;clear hr hg hoc;go_wp2_with fail;go_meet;exact ⟨_,_,_,_,_,_,by omega,HF⟩
      have n5:(y==5)=false:=by simpa using k5
      clear k5;obtain rfl:y=6:=by simp only [beq_eq_false_iff_ne] at n0 n1 n2 n3 n4 n5;omega
      obtain ⟨d,hd⟩:∃ d,w8.drew=d:=⟨_,rfl⟩;have Bd:Below w8.heap.size w8 d:=hd ▸ Below.drewB bR_;have Hd:=hI_ hd;replace HO:=hI_ (HO.out.below Bd);clear hd Bd;go_wp2_with fail;obtain ⟨eb,ec,ei,heb⟩:=(show ∃ b c,(.slice b2 bn2 bm2:Value)=.slice (some ⟨b,0,none⟩) k.envs.length c∧k.envs.length≤c from by obtain ⟨_,a,c,h1,h2,_⟩:=HO.out.ko.e.re.len;obtain ⟨b,c',h3,_⟩:=HO.out.ko.setRoot (e:=0) (by rw [H3.out];decide);refine ⟨b,c',h3,?_⟩;rw [h3] at h1;simp only [Value.slice.injEq] at h1;omega);rw [H3.out] at ei heb;simp only [Value.slice.injEq] at ei;obtain ⟨rfl,rfl,rfl⟩:=ei;refine wpL (S:=(fun U:World=>U.cell? ⟨g3,2,none⟩=some (.slice (some ⟨eb,0,none⟩) 3 bm2))) (xs:=[6]) (by kernel_rfl) (by rw [Hd.out];exact HO.out.l.x3.cell 2) (fun hHeld=>?_)
      rw [Hd.out];rw [Hd.out] at hHeld;refine tP 0 ?_;refine tL 1 ?_;refine tP 2 ?_;refine doL 3 (by kernel_rfl) rfl (fun K hK=>?_);rw [if_pos (by rfl)];go_simp;go_at_call 55;refine (pick_c rb _ 3 _ HO.out.l.r (by omega) (by omega) (by omega)).mono ?_;rintro en V1 ⟨xa,rfl,xa0,xa1,hr,hg⟩;have H1:=hI_ (HO.out.pick hr hg);obtain ⟨xa,rfl⟩:=Int.eq_ofNat_of_zero_le xa0;clear hr hg;refine hK.out _ _ ?_ (fun hHeld=>?_)
      · exact H1.out.l.x3.cell 2
      clear hK K;refine nL ?_;have hxa3:xa<3:=by omega
      have hxac:xa≤bm2:=by omega
      have hxacI:(xa:Int)≤(bm2:Int):=by omega
      refine tP 4 ?_;refine tP 5 ?_;have HF:=hI_ (show LA w (V1.setCell ⟨g3,2,none⟩ (.slice (some ⟨eb,0,none⟩) xa bm2)) rb _ w.heap.size g3 { k with envs:=k.envs.take xa } (.slice b0 bn0 bm0) (.slice b1 bn1 bm1) (.slice (some ⟨eb,0,none⟩) xa bm2) (.slice b3 bn3 bm3) from by
        have hl:=H1.out.l;have hkx:=H1.out.ko.box hl.x3 boxKernel 2 (.slice (some ⟨eb,0,none⟩) xa bm2);refine ⟨⟨hl.r.grown (grown_set1 V1 g3 2 _) (fun k hk=>by cases hk;have:=hl.h;omega),grownBy_later hl.g (grown_set1 V1 g3 2 _) (fun k hk=>by cases hk;have:=hl.h;omega),hl.x2.other (by have:=hl.h;omega) 2 _,hl.x3.set 2 _,⟨⟨_,_,_,rfl⟩,⟨_,_,_,rfl⟩,⟨_,_,_,rfl⟩,⟨_,_,_,rfl⟩⟩,hl.h⟩,⟨w4.heap.size,(V1.setCell ⟨g3,2,none⟩ (.slice (some ⟨eb,0,none⟩) xa bm2)).heap.size,by have:=hl.h;have:=H1.out.hb;omega,.inl H1.out.hb,Nat.le_refl _,fun V hs hk=>?_⟩,⟨Hs.out.1,saneE_take Hs.out.2 xa⟩⟩
        have h:=hkx.rko.r V hs hk;exact ⟨h.m,h.i,h.e.take xa (by omega),h.c⟩)
      obtain ⟨c0,c1,c2,c3⟩:=H1.out.l.x3.c4;obtain ⟨y0,y1,y2,y3⟩:=H1.out.l.x3.f4;refine lastL 6 (by rfl) (by kernel_rfl) rfl (fun K hK=>?_);rw [if_pos (by rfl)];go_simp;refine hK.out _ _ ?_;clear hK K;refine nL ?_;refine doneL (by kernel_rfl) ?_ _;go_wp2_with fail;go_meet;exact ⟨_,_,_,_,_,_,by omega,HF⟩
    case rest =>
      clear HO;obtain ⟨q,k,v0,v1,v2,v3,hq,H⟩:=hcut;obtain ⟨⟨a0,n0,m0,rfl⟩,⟨a1,n1,m1,rfl⟩,⟨a2,n2,m2,rfl⟩,⟨a3,n3,m3,rfl⟩⟩:=H.out.l.sl;obtain ⟨base2,hbase2,hko,hrd,hgr,hbx⟩:=H.out.fin;have Hko:=hI_ hko;have Hrd:=hI_ hrd;have Hgr:=hI_ hgr;have Hbx:=hI_ hbx;have Hsn:=hI_ H.out.sane;have Hbase:=hI_ hbase2;obtain ⟨c0,c1,c2,c3⟩:=H.out.l.x3.c4;obtain ⟨r0,r1,r2,r3⟩:=H.out.l.x2.c4;obtain ⟨fr0,fr1,fr2,fr3⟩:=H.out.l.x2.f4;clear hko hrd hgr hbx hbase2;go_wp2_with fail;obtain ⟨F,hF⟩:∃ V,sets wc w.heap.size 0 [.slice a0 n0 m0,.slice a1 n1 m1,.slice a2 n2 m2,.slice a3 n3 m3]=V:=⟨_,rfl⟩;rw [show ((((wc.setCell ⟨w.heap.size,0,none⟩ (.slice a0 n0 m0)).setCell ⟨w.heap.size,1,none⟩ (.slice a1 n1 m1)).setCell ⟨w.heap.size,2,none⟩ (.slice a2 n2 m2)).setCell ⟨w.heap.size,3,none⟩ (.slice a3 n3 m3))=F from hF];rw [hF] at Hko Hrd Hgr Hbx;obtain ⟨e0,e1,e2,e3⟩:=Hbx.out.c4
      refine bodyPost_ret (v:=.agg #[.slice a0 n0 m0,.slice a1 n1 m1,.slice a2 n2 m2,.slice a3 n3 m3]) (by simp [results,Tryz.results31,go_sem,e0,e1,e2,e3]) rfl ?_;exact ⟨_,_,_,_,_,base2,rfl,⟨⟨_,_,_,rfl⟩,⟨_,_,_,rfl⟩,⟨_,_,_,rfl⟩,⟨_,_,_,rfl⟩⟩,Hsn.out,Nat.le_of_lt Hbase.out,Hko.out,_,by omega,Hrd.out,Hgr.out⟩
  have hx1:0<x:=by omega
  replace H:=hI_ H.out.la;obtain ⟨base2,hbase2,hko,hrd,hgr,hbx⟩:=H.out.fin;have Hko:=hI_ hko;have Hrd:=hI_ hrd;have Hgr:=hI_ hgr;have Hbx:=hI_ hbx;have Hsn:=hI_ H.out.sane;have Hbase:=hI_ hbase2;obtain ⟨c0,c1,c2,c3⟩:=H.out.l.x3.c4;obtain ⟨r0,r1,r2,r3⟩:=H.out.l.x2.c4;obtain ⟨fr0,fr1,fr2,fr3⟩:=H.out.l.x2.f4;clear hko hrd hgr hbx hbase2;go_wp2_with fail;obtain ⟨F,hF⟩:∃ V,sets w4 w.heap.size 0 [.slice a0 n0 m0,.slice a1 n1 m1,.slice a2 n2 m2,.slice a3 n3 m3]=V:=⟨_,rfl⟩;rw [show ((((w4.setCell ⟨w.heap.size,0,none⟩ (.slice a0 n0 m0)).setCell ⟨w.heap.size,1,none⟩ (.slice a1 n1 m1)).setCell ⟨w.heap.size,2,none⟩ (.slice a2 n2 m2)).setCell ⟨w.heap.size,3,none⟩ (.slice a3 n3 m3))=F from hF];rw [hF] at Hko Hrd Hgr Hbx;obtain ⟨e0,e1,e2,e3⟩:=Hbx.out.c4
  refine bodyPost_ret (v:=.agg #[.slice a0 n0 m0,.slice a1 n1 m1,.slice a2 n2 m2,.slice a3 n3 m3]) (by simp [results,Tryz.results31,go_sem,e0,e1,e2,e3]) rfl ?_;exact ⟨_,_,_,_,_,base2,rfl,⟨⟨_,_,_,rfl⟩,⟨_,_,_,rfl⟩,⟨_,_,_,rfl⟩,⟨_,_,_,rfl⟩⟩,Hsn.out,Nat.le_of_lt Hbase.out,Hko.out,_,by omega,Hrd.out,Hgr.out⟩
def YesB (w:World) (e:Ending) (w':World):Prop:=e=.returned (.bool true)∧Below w.heap.size w w'
def DrewK (w:World) (en:Ending) (w':World):Prop:=∃ (k:Kx.Kernel) (um ui ue uc:Value),en=.returned (.agg #[um,ui,ue,uc])∧(Sl um∧Sl ui∧Sl ue∧Sl uc)∧SaneK k∧RK w' um ui ue uc k∧Below w.heap.size w w'
end Go.Proofs.YtenebmeaoidnoaaGreatDoor
