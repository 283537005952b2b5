/- KD6, KD7, KD8, joined. -/
import Derived.Test.YthcmmoibpgcgaaaGreatDoorKDa
set_option maxHeartbeats 4000000
set_option maxRecDepth 100000
set_option linter.all false
open List renaming set_cons_zero->A1,set_cons_succ->A2,nil_append->A3
open Nat renaming le_trans->A4,zero_le->A5,zero_add->A6,add_zero->A9
open Go.Value renaming slice->A0
open Go.Proofs.Tryz
namespace Go.Proofs.YthcmmoibpgcgaaaGreatDoor
open Go.RowKit Kx
variable {w w' V W:World}{base g cap:Nat}{um ui ue uc us ul:Value}{p:aH}{cs:List Value}
def tY (s:List (List Int)):Int:=match jc s with | some i=>(i:Int) | none=>-1
theorem C9 {s:List (List Int)} {k:Nat} (hk:k<s.length) (h:s[k].length=0) (hall:∀ j (hj:j<s.length),j<k->s[j].length≠0):jc s=some k:=by
 unfold jc;rw [List.findIdx?_eq_some_iff_getElem];refine ⟨hk,by simp [List.isEmpty_iff,List.eq_nil_of_length_eq_zero h],fun j hj=>?_⟩
 have:=hall j (by omega) hj
 exact fun e=>by
  have h2:s[j]=[]:=List.isEmpty_iff.1 e;rw [h2] at this;exact this rfl
theorem Ag {s:List (List Int)} (hall:∀ j (hj:j<s.length),s[j].length≠0):jc s=none:=by
 unfold jc;rw [List.findIdx?_eq_none_iff];intro x hx;obtain ⟨j,hj,rfl⟩:=List.getElem_of_mem hx;have:=hall j hj
 cases he:s[j] with
 | nil=>rw [he] at this;exact absurd rfl this
 | cons a l=>rfl
theorem Jn (s:List (List Int)) (v:Value) (w:World) (h:RM w v s):Calls prog 334 #[v] w fun e w'=>e=.returned (I_ (tY s))/\w=w':=by
 obtain ⟨hl,a,cap,rfl,_,_⟩:=h.len;have H:=af h;clear h;go_enter func334,ntmps334;go_wp2_with fail;go_loop [3] (fun i=>∃ k:Nat,i=I_ k/\k<=s.length/\TI (∀ j (hj:j<s.length),j<k->s[j].length≠0)) (fun i=>s.length - (intOf i).toNat)
 case atStart=>exact ⟨0,rfl,A5 _,fun j _ hj=>absurd hj (Nat.not_lt_zero _)⟩
 case round =>
  obtain ⟨k,rfl,hk,hall⟩:=hrel
  by_cases hlt:k<s.length
  ·have kQ:(k:Int)<(s.length:Int):=by omega
   obtain ⟨b,off,cap',u,ev,_,g0,hr⟩:=H.o.at (k:=k) hlt;obtain ⟨rfl,_,rfl⟩:=Za ev;clear ev;rw [show Kx.row s k=s[k] from by simp [Kx.row,hlt]] at hr;obtain ⟨a9,c9,rfl⟩:=hr.val;clear hr;have BC:=af (show s[k].length=0->tY s=k from fun h=>by unfold tY;rw [C9 hlt h hall.o]);have ET:=af (show s[k].length≠0->∀ j (hj:j<s.length),j<k+1->s[j].length≠0 from fun h j hj hjk=>by
    by_cases ej:j=k
    ·subst ej;exact h
    exact hall.o j hj (by omega))
   generalize s[k].length=x at g0 BC ET
   by_cases hx:x=0
   ·have HF:=af (BC.o hx);subst hx;clear BC ET;go_wp2_with fail;go_ret;exact ⟨aZ HF.o.symm,rfl⟩
   have HM:=af (ET.o hx);have hxb:((x:Int)==0)=false:=by simpa using hx
   clear hx BC ET;go_wp2_with fail;go_round
   case rel=>exact ⟨k+1,by go_num,by omega,HM.o⟩
   case measure=>simp [intOf];omega
  have HF:=af (show tY s=-1 by unfold tY;rw [Ag fun j hj=>hall.o j hj (by omega)])
  go_wp2_with fail;go_ret;exact ⟨aZ HF.o.symm,rfl⟩
theorem p_ (l:List aG) (v:Value) (w:World) (h:bV w v l) (hs:jo l) (hok:bC l=true):Calls prog 310 #[v] w fun e w'=>e=.returned (I_ (oH l:Nat))/\Below w.heap.size w w':=by
 have HV:=af (dX l v w h hs);rw [hok] at HV;obtain ⟨a,cap,rfl,_,_⟩:=RS.val h;have hl:=h.1;have H:=af (show bV w _ l from h);clear h hok hs;go_enter func310,ntmps310;go_wp2_with fail;go_loop [3,4] (fun n i=>∃ k:Nat,i=I_ k/\k<=l.length/\n=I_ (oH (l.take k):Nat)) (fun _ i=>l.length - (intOf i).toNat)
 case atStart=>exact ⟨0,rfl,A5 _,rfl⟩
 case round =>
  obtain ⟨k,rfl,hk,rfl⟩:=hrel
  by_cases hlt:k<l.length
  ·have kQ:(k:Int)<(l.length:Int):=by omega
   obtain ⟨b,off,cap',ev,_,hc⟩:=RS.at H.o hlt;obtain ⟨rfl,_,rfl⟩:=Za ev;clear ev;have g0:=hc 0 _ rfl;rw [A9] at g0;clear hc;have hn:oH (l.take (k+1))=oH (l.take k)+if l[k].kind==0 then 1 else 0:=by
    unfold oH;rw [List.take_succ_eq_append_getElem hlt,List.countP_append,List.countP_singleton]
   have hle:oH (l.take k)<=k:=A4 List.countP_le_length (List.length_take_le _ _);have Hn:=af hn;clear hn;generalize oH (l.take k)=n at hle Hn;generalize l[k].kind=x at g0 Hn
   by_cases hx:x=0
   ·subst hx;have HF:=af (show oH (l.take (k+1))=n+1 by rw [Hn.o];simp);clear Hn;go_wp2_with fail;go_round
    case rel=>exact ⟨k+1,by go_num,by omega,by rw [HF.o];go_num⟩
    case measure=>simp [intOf];omega
   have hxb:(x==0)=false:=by simpa using hx
   have HF:=af (show oH (l.take (k+1))=n by rw [Hn.o,hxb];simp);clear Hn hx;go_wp2_with fail;go_round
   case rel=>exact ⟨k+1,by go_num,by omega,by rw [HF.o]⟩
   case measure=>simp [intOf];omega
  have hkn:k=l.length:=by omega
  have HF:=af (show oH (l.take k)=oH l by rw [hkn,List.take_length]);clear hkn;go_wp2_with fail;refine HV.o.mono ?_;rintro e w1 ⟨rfl,hb⟩;have Hb:=af hb;clear hb;go_wp2_with fail;go_ret;exact ⟨aZ (by first | rfl | rw [HF.o]),Hb.o⟩
theorem Iz (s:List (List Int)) (ws:List Int) (i:Nat) (v u:Value) (w:World) (h:RM w v s) (hu:RI w u ws) (hok:jE s=true) (hw:dQ ws=true) (hf:jc s=some i) :
  Calls prog 326 #[v,u] w fun e w'=>∃ us,e=.returned (.tuple #[us,I_ i,.bool true])/\OM w' w.heap.size w'.heap.size us (s.set i ws)/\Below w.heap.size w w':=by
 have Yc:=(gy.1 hok).1;have hi:i<s.length:=by
  unfold jc at hf;exact (List.findIdx?_eq_some_iff_getElem.1 hf).1
 have HF:=af (show tY s=i by unfold tY;rw [hf]);have HV:=af (lY s v w h);rw [hok] at HV;have HW:=af (oJ ws u w hu);rw [lh,hw] at HW;have HC:=af (yN s v w h (by omega));have HR:=af hu;have IB:=af (show ([]:List Int).length+ws.length<=1099511627776 by have:=hu.1;simp;omega);have Ru:=af (Jn s v w h);rw [HF.o] at Ru;have Hi:=af hi;obtain ⟨_,a,cap,rfl,_,_⟩:=h.len;obtain ⟨a2,c2,rfl⟩:=hu.val;have hi0:((i:Int)<0)=False:=by simp
 clear h hu hok hw hf Yc hi;go_enter func326,ntmps326;go_wp2_with fail;refine Ru.o.mono ?_;rintro e w1 ⟨rfl,rfl⟩;go_wp2_with fail;refine HV.o.mono ?_;rintro e w1 ⟨rfl,rfl⟩;go_wp2_with fail;refine HW.o.mono ?_;rintro e w1 ⟨rfl,rfl⟩;go_wp2_with fail;refine HC.o.mono ?_;rintro e w1 ⟨us,rfl,ho,hb⟩;have hsz:=hb.size;have B1:Below w1.heap.size w1 (w1.alloc (.cells #[] 3)):=dm;obtain ⟨_,a3,c3,rfl,_,_⟩:=ho.rm.len;have Ho:=af ho;have Hb:=af hb;clear ho hb Ru HV HW HC HF;have hiI:(i:Int)<(s.length:Int):=by have:=Hi.o;omega
 have abu:(0:Int)<=(i:Int):=by omega
 go_upto_region 6 with (at_builtin;refine nC rfl _ _ rfl w1.heap.size _ [] rfl (OI.d_ aW) _ ws rfl (HR.o.below (Hb.o.trans (B1.mono hsz))) IB.o (by simp) ?_;intro v2 w2 ho2 hg2;rw [A3] at ho2;obtain ⟨a8,c8,rfl⟩:=ho2.ri.val;have B2:Below w1.heap.size w1 w2:=Below.app B1 (OI.d_ aW) hg2 aW (by simp);obtain ⟨b,cap',eu,hbb,hbk,⟨z,hz⟩,hfz,hset⟩:=(Ho.o.below B2).setRow (hi:=w1.heap.size) (by omega) B2.size (f:=i) Hi.o ⟨a8,ws.length,c8⟩ ws ho2;obtain ⟨rfl,_,rfl⟩:=Za eu;clear eu;have zO:=af hset;have Hb2:=af (Hb.o.trans (B2.mono hsz));have S_:=af hbb;clear ho2 hg2 hset hbk);have HF:=af zO.o;go_wp2_with fail;refine af7 (by simp [results,results326,go_sem]<;>rfl) ?_
 exact ⟨_,rfl,by rw [show ∀ W:World,∀ p v,(W.setCell p v).heap.size=W.heap.size from fun W p v=>by simp [World.setCell]];exact HF.o,Hb2.o.setCell (p:=⟨b,i,none⟩) S_.o _⟩
structure PO (w:World) (base:Nat) (um ui ue uc us ul up:Value) (p:aH):Prop where
 k:KO w base um ui ue uc p.k
 s:OM w base w.heap.size us p.swap
 l:OI w base ul p.low
 g:OS jr 3 42 w base up p.pages
theorem PO.rp {up:Value} (h:PO w base um ui ue uc us ul up p):RP w um ui ue uc us ul up p:=⟨h.k.rk,h.s.rm,h.l.ri,h.g.rs⟩
theorem PO.below {up:Value} (h:PO w base um ui ue uc us ul up p) (hb:Below w.heap.size w w'):PO w' base um ui ue uc us ul up p:=⟨h.k.below hb,h.s.go hb,h.l.below hb,h.g.below hb⟩
theorem PO.mono {base':Nat} {up:Value} (h:PO w base um ui ue uc us ul up p) (hb:base'<=base):PO w base' um ui ue uc us ul up p:=⟨h.k.mono hb,h.s.mono hb aW,h.l.mono hb,h.g.mono hb⟩
theorem PO.sets {t:Nat} {up:Value} (h:PO w base um ui ue uc us ul up p) (hb:BX w g t cs) (ht:t=32\/t=28) (i:Nat) (l:List Value):PO (Go.Proofs.YthcmmoibpgcgaaaGreatDoor.sets w g i l) base um ui ue uc us ul up p:=by
 rcases ht with rfl | rfl
 ·exact ⟨KO.sets iZ l i hb h.k,by rw [kD];exact OM.sets (by decide) (by decide) l i hb h.s,(OS.sets (by decide) l i hb h.l.os).oi,OS.sets (by decide) l i hb h.g⟩
 exact ⟨KO.sets aJ l i hb h.k,by rw [kD];exact OM.sets (by decide) (by decide) l i hb h.s,(OS.sets (by decide) l i hb h.l.os).oi,OS.sets (by decide) l i hb h.g⟩
theorem PO.ac4 {F:World} {t:Nat} {up:Value} {l:List Value} (h:PO w base um ui ue uc us ul up p) (hb:BX w g t cs) (ht:t=32\/t=28) (_e:Go.Proofs.YthcmmoibpgcgaaaGreatDoor.sets w g 0 l=F):PO (Go.Proofs.YthcmmoibpgcgaaaGreatDoor.sets w g 0 l) base um ui ue uc us ul up p:=h.sets hb ht 0 l
theorem PO.up {up:Value} (h:PO w base um ui ue uc us ul up p) (hu:Up base w V):PO V base um ui ue uc us ul up p:=⟨h.k.up hu,(h.s.up hu).mono aW hu.1,(h.l.os.up hu).oi,h.g.up hu⟩
theorem PO.UG {up:Value} (h:PO w base um ui ue uc us ul up p):IE w base um ui ue uc us ul up p:=fun _ hu=>(h.up hu).rp
theorem QV:aaG 30 42 (.agg #[I_ 0,I_ 0,.bool false]) 3:=aaG.mk underlying30 (b:=24) (by kernel_rfl) (by decide) rfl
theorem fM (h:bI p=true):az p.k=true/\p.swap.length=16/\p.low.length=4/\p.pages.length=16:=by
 have h1:=iD.1 h;exact ⟨nN.2 h1.low.ok,(gy.1 h1.swap).1,h1.low.l4,h1.p16⟩
theorem Aq (p:aH) (vm vi ve vc vs vl vp:Value) (w:World) (h:RP w vm vi ve vc vs vl vp p) (hok:bI p=true) :
  Calls prog 122 #[bU vm vi ve vc vs vl vp p.hand p.limit] w fun en w'=>∃ um ui ue uc us ul up,en=.returned (bU um ui ue uc us ul up p.hand p.limit)/\PO w' w.heap.size um ui ue uc us ul up p/\Below w.heap.size w w':=by
 obtain ⟨hk,h16,h4,nS⟩:=fM hok;obtain ⟨hl1,hl2,hl3,hl4,hl5⟩:=nR hk;obtain ⟨_,am,cm,rfl,_,_⟩:=h.k.m.len;obtain ⟨ai,ci,rfl,_,_⟩:=RS.val h.k.i;obtain ⟨_,ae,ce,rfl,_,_⟩:=h.k.e.len;obtain ⟨ac,cq,rfl,_,_⟩:=RS.val h.k.c;obtain ⟨_,xs,ys,rfl,_,_⟩:=h.s.len;obtain ⟨xl,yl,rfl⟩:=h.l.val;obtain ⟨xp,yp,rfl,_,_⟩:=RS.val h.g;unfold bU;obtain ⟨w0,hw0⟩:=XP (w.alloc (.cells #[A0 am p.k.mem.length cm,A0 ai p.k.ag.length ci,A0 ae p.k.ah.length ce,A0 ac p.k.cache.length cq,A0 xs p.swap.length ys,A0 xl p.low.length yl,A0 xp p.pages.length yp,I_ p.hand,I_ p.limit] 32));obtain ⟨w1,hw1⟩:=XP (w0.alloc (.cells #[A0 none 0 0,A0 none 0 0,A0 none 0 0,A0 none 0 0,A0 none 0 0,A0 none 0 0,A0 none 0 0,I_ 0,I_ 0] 32));have B0:Below w.heap.size w w0:=hw0 ▸ dm
 have B1:Below w0.heap.size w0 w1:=hw1 ▸ dm;have bw:Below w.heap.size w w1:=B0.trans (B1.mono B0.size);have X1:=af (show BX w1 w.heap.size 32 _ from (hw0 ▸ BX.new w _ _:BX w0 _ _ _).below B1);have X2:=af (show BX w1 w0.heap.size 32 [A0 none 0 0,A0 none 0 0,A0 none 0 0,A0 none 0 0,A0 none 0 0,A0 none 0 0,A0 none 0 0,I_ 0,I_ 0] from (hw1 ▸ BX.new w0 _ _:BX w1 _ _ _));have s0:w.heap.size<w0.heap.size:=by rw [<-hw0];simp
 have s1:w0.heap.size<w1.heap.size:=by rw [<-hw1];simp
 have H:=af h;have Bw:=af bw;have HC:=af (vg p.k _ _ _ _ w1 (H.o.below bw).k hl1 hl2 hl3 hl4 hl5);have hxl:=af (show ([]:List Int).length+p.low.length<=1099511627776 by simp;omega);have hxp:=af (show ([]:List dV).length+p.pages.length<=1099511627776 by simp;omega);have Ai:=af h16;clear h hok hk h16 h4 nS hl1 hl2 hl3 hl4 hl5 B0 B1 bw;obtain ⟨z0,z1,z2,z3,z4,z5,z6,z7,z8⟩:=X1.o.c9;obtain ⟨f0,f1,f2,f3,f4,f5,f6,f7,f8⟩:=X1.o.f9;have hlt1:=X1.o.lt;go_enter func122,ntmps122;go_wp2_with fail;refine HC.o.mono ?_;rintro en w2 ⟨_,_,_,_,rfl,ho,hb⟩;obtain ⟨⟨a0,Ar,Au,rfl⟩,⟨a1,Aw,Az,rfl⟩,⟨a2,AA,AB,rfl⟩,⟨a3,AL,AO,rfl⟩⟩:=ho.sl;clear z0 z1 z2 z3 z4 z5 z6 z7 z8 f0 f1 f2 f3 f4 f5 f6 f7 f8 hlt1;replace X1:=af (X1.o.below hb);replace X2:=af (X2.o.below hb);obtain ⟨z0,z1,z2,z3,z4,z5,z6,z7,z8⟩:=X1.o.c9;obtain ⟨f0,f1,f2,f3,f4,f5,f6,f7,f8⟩:=X1.o.f9
 have hlt1:=X1.o.lt;go_upto_region 2 with fail;obtain ⟨w3,hw3⟩:=XP (sets w2 w.heap.size 0 [A0 a0 Ar Au,A0 a1 Aw Az,A0 a2 AA AB,A0 a3 AL AO]);rw [afA w2,hw3];have sG:w0.heap.size≠w.heap.size:=by omega
 have k1:=KO.ac4 iZ hw3 X1.o (ho.mono (Nat.le_of_lt (Nat.lt_trans s0 s1)));have x1:=oK X1.o (A0 a0 Ar Au) (A0 a1 Aw Az) (A0 a2 AA AB) (A0 a3 AL AO);have x2:=BX.aeY sG hw3 X2.o;have b1:=adT (Nat.le_refl w.heap.size) hw3 (Bw.o.trans (hb.mono Bw.o.size));rw [hw3] at k1 x1 x2 b1;replace X1:=af x1;replace X2:=af x2;have HK:=af k1;replace Bw:=af b1;clear k1 x1 x2 b1 ho hb HC hw3 z0 z1 z2 z3 z4 z5 z6 z7 z8 f0 f1 f2 f3 f4 f5 f6 f7 f8 hlt1;obtain ⟨z0,z1,z2,z3,z4,z5,z6,z7,z8⟩:=X1.o.c9;obtain ⟨f0,f1,f2,f3,f4,f5,f6,f7,f8⟩:=X1.o.f9;have hlt1:=X1.o.lt
 have HC:=af (yN p.swap _ w3 (H.o.below Bw.o).s (by have:=Ai.o;omega));go_wp2_with fail;refine HC.o.mono ?_;rintro en w4 ⟨us,rfl,ho,hb⟩;obtain ⟨_,aw,bs,rfl,_,_⟩:=ho.rm.len;clear z0 z1 z2 z3 z4 z5 z6 z7 z8 f0 f1 f2 f3 f4 f5 f6 f7 f8 hlt1;replace X1:=af (X1.o.below hb);replace X2:=af (X2.o.below hb);obtain ⟨z0,z1,z2,z3,z4,z5,z6,z7,z8⟩:=X1.o.c9;obtain ⟨f0,f1,f2,f3,f4,f5,f6,f7,f8⟩:=X1.o.f9;have hlt1:=X1.o.lt;go_upto_region 3 with fail;have hc:=aK w4 w.heap.size 4 (A0 aw p.swap.length bs);have k1:=(HK.o.below hb).box X1.o iZ 4 (A0 aw p.swap.length bs);have o1:=(ho.mono Bw.o.size aW).dh hc X1.o (by decide) (by decide);have x1:=X1.o.set 4 (A0 aw p.swap.length bs);have x2:=X2.o.other sG 4 (A0 aw p.swap.length bs)
 have b1:=(Bw.o.trans (hb.mono Bw.o.size)).setCell (p:=⟨w.heap.size,4,none⟩) aW (A0 aw p.swap.length bs);have z1:w4.heap.size=(w4.setCell ⟨w.heap.size,4,none⟩ (A0 aw p.swap.length bs)).heap.size:=by simp [World.setCell]
 rw [z1] at o1;obtain ⟨w5,hw5⟩:=XP (w4.setCell ⟨w.heap.size,4,none⟩ (A0 aw p.swap.length bs));rw [hw5] at k1 o1 x1 x2 b1 ⊢;replace X1:=af x1;replace X2:=af x2;replace HK:=af k1;replace Bw:=af b1;have HS:=af o1;clear k1 o1 x1 x2 b1 ho hb HC hw5 hc z0 z1 z2 z3 z4 z5 z6 z7 z8 f0 f1 f2 f3 f4 f5 f6 f7 f8 hlt1;simp only [A1,A2] at X1;obtain ⟨z0,z1,z2,z3,z4,z5,z6,z7,z8⟩:=X1.o.c9;obtain ⟨f0,f1,f2,f3,f4,f5,f6,f7,f8⟩:=X1.o.f9;have hlt1:=X1.o.lt;have B1:Below w5.heap.size w5 (w5.alloc (.cells #[] 3)):=dm;have hL1:=af ((H.o.below Bw.o).l.below B1);have hbz:=af Bw.o.size
 go_upto_region 4 with (at_builtin;refine nC rfl _ _ rfl w5.heap.size _ [] rfl (OI.d_ aW) _ p.low rfl hL1.o hxl.o (by simp) ?_;intro v6 w6 yI OT;rw [A3] at yI;obtain ⟨al,bl,rfl⟩:=yI.ri.val;have B6:Below w5.heap.size w5 w6:=Below.app B1 (OI.d_ aW) OT aW (by simp);have y5:=(B6.cell (p:=⟨w.heap.size,5,none⟩) X1.o.lt).trans z5;have yf:=(X1.o.below B6).frozen 5;have Ri:=af yI;have JW:=af B6;clear yI OT B6);have X6:=X1.o.below JW.o;have hc:=aK w6 w.heap.size 5 (A0 al p.low.length bl);have k1:=(HK.o.below JW.o).box X6 iZ 5 (A0 al p.low.length bl);have o1:=(HS.o.go JW.o).dh hc X6 (by decide) (by decide);have l1:=(Ri.o.os.mono hbz.o).dh hc X6 (by decide);have x1:=X6.set 5 (A0 al p.low.length bl);have x2:=(X2.o.below JW.o).other sG 5 (A0 al p.low.length bl)
 have b1:=(Bw.o.trans (JW.o.mono Bw.o.size)).setCell (p:=⟨w.heap.size,5,none⟩) aW (A0 al p.low.length bl);have z1:w6.heap.size=(w6.setCell ⟨w.heap.size,5,none⟩ (A0 al p.low.length bl)).heap.size:=by simp [World.setCell]
 rw [z1] at o1;obtain ⟨w7,hw7⟩:=XP (w6.setCell ⟨w.heap.size,5,none⟩ (A0 al p.low.length bl));rw [hw7] at k1 o1 l1 x1 x2 b1 ⊢;replace X1:=af x1;replace X2:=af x2;replace HK:=af k1;replace Bw:=af b1;replace HS:=af o1;have HL:=af l1;clear k1 o1 l1 x1 x2 b1 hw7 hc B1 hL1 hbz X6 JW Ri y5 yf z0 z1 z2 z3 z4 z5 z6 z7 z8 f0 f1 f2 f3 f4 f5 f6 f7 f8 hlt1;simp only [A1,A2] at X1;obtain ⟨z0,z1,z2,z3,z4,z5,z6,z7,z8⟩:=X1.o.c9;obtain ⟨f0,f1,f2,f3,f4,f5,f6,f7,f8⟩:=X1.o.f9;have hlt1:=X1.o.lt;have B1:Below w7.heap.size w7 (w7.alloc (.cells #[] 42)):=dm;have hL1:=af (RS.below (H.o.below Bw.o).g B1);have hbz:=af Bw.o.size
 go_upto_region 5 with (at_builtin;refine aV QV rfl _ _ rfl w7.heap.size _ [] rfl (OS.d_ aW) _ p.pages rfl hL1.o hxp.o (by simp) ?_;intro v8 w8 xE J5 _;rw [A3] at xE;obtain ⟨ap,bp,rfl,_,_⟩:=RS.val xE.rs;have B8:Below w7.heap.size w7 w8:=Below.dN B1 (OS.d_ (f:=jr) (sz:=3) aW) J5 aW (by simp);have y6:=(B8.cell (p:=⟨w.heap.size,6,none⟩) X1.o.lt).trans z6;have yf:=(X1.o.below B8).frozen 6;have Ot:=af xE;have QW:=af B8;clear xE J5 B8);have X8:=X1.o.below QW.o;have hc:=aK w8 w.heap.size 6 (A0 ap p.pages.length bp);have k1:=(HK.o.below QW.o).box X8 iZ 6 (A0 ap p.pages.length bp);have o1:=(HS.o.go QW.o).dh hc X8 (by decide) (by decide);have l1:=(HL.o.below QW.o).dh hc X8 (by decide);have g1:=(Ot.o.mono hbz.o).dh hc X8 (by decide);have x1:=X8.set 6 (A0 ap p.pages.length bp)
 have x2:=(X2.o.below QW.o).other sG 6 (A0 ap p.pages.length bp);have b1:=(Bw.o.trans (QW.o.mono Bw.o.size)).setCell (p:=⟨w.heap.size,6,none⟩) aW (A0 ap p.pages.length bp);have z1:w8.heap.size=(w8.setCell ⟨w.heap.size,6,none⟩ (A0 ap p.pages.length bp)).heap.size:=by simp [World.setCell]
 rw [z1] at o1;obtain ⟨w9,JX⟩:=XP (w8.setCell ⟨w.heap.size,6,none⟩ (A0 ap p.pages.length bp));rw [JX] at k1 o1 l1 g1 x1 x2 b1 ⊢;have HP:=af (show PO w9 w.heap.size _ _ _ _ _ _ _ p from ⟨k1,o1,l1.oi,g1⟩);replace X1:=af x1;replace X2:=af x2;replace Bw:=af b1;clear k1 o1 l1 g1 x1 x2 b1 JX hc B1 hL1 hbz X8 QW Ot y6 yf HK HS HL z0 z1 z2 z3 z4 z5 z6 z7 z8 f0 f1 f2 f3 f4 f5 f6 f7 f8 hlt1;simp only [A1,A2] at X1;obtain ⟨z0,z1,z2,z3,z4,z5,z6,z7,z8⟩:=X1.o.c9;obtain ⟨f0,f1,f2,f3,f4,f5,f6,f7,f8⟩:=X2.o.f9;have hlt1:=X1.o.lt;have r0:=X2.o.c9;go_wp2_with fail;obtain ⟨F,hF⟩:=XP (sets w9 w0.heap.size 0 [A0 a0 Ar Au,A0 a1 Aw Az,A0 a2 AA AB,A0 a3 AL AO,A0 aw p.swap.length bs,A0 al p.low.length bl,A0 ap p.pages.length bp,I_ p.hand,I_ p.limit])
 rw [afC w9,hF];have x2:=X2.o.ac4 hF
 have p1:=HP.o.ac4 X2.o (.inl rfl) hF;have b1:=adT (by omega) hF Bw.o;rw [hF] at x2 p1 b1;refine af7 (by simp [results,results122,go_sem,x2.c9]<;>rfl) ?_;exact ⟨_,_,_,_,_,_,_,rfl,p1,b1⟩
structure dD (base:Nat) (w w':World):Prop where
 b:Below base w w'
 x:∀ g t l,(t=32\/t=28)->BX w g t l->BX w' g t l
theorem dD.size (h:dD base w w'):w.heap.size<=w'.heap.size:=h.b.size
theorem dD.of (hb:Below w.heap.size w w') (hbase:base<=w.heap.size):dD base w w':=⟨hb.mono hbase,fun _ _ _ _ h=>h.below hb⟩
theorem dD.trans (h:dD base w W) (h':dD base W V):dD base w V:=⟨h.b.trans h'.b,fun g t l ht hx=>h'.x g t l ht (h.x g t l ht hx)⟩
theorem dD.go (h:dD base w W) (hb:Below W.heap.size W V) (hbase:base<=w.heap.size):dD base w V:=h.trans (dD.of hb (A4 hbase h.size))
theorem dD.new (hg:base<=g/\w.heap.size<=g) (l:List Value):∀ (i:Nat) {W:World},dD base w W->dD base w (sets W g i l):=by
 induction l with
 | nil=>intro i W h;exact h
 | cons v l ih=>intro i W h;exact ih (i+1) ⟨h.b.setCell (p:=⟨g,i,none⟩) hg.1 v,fun g' t l ht hx=>(h.x g' t l ht hx).other (by have:=hx.lt;omega) i v⟩
theorem dD.ag_ {F:World} {l:List Value} (hg:base<=g/\w.heap.size<=g) (_e:sets W g 0 l=F) (h:dD base w W):dD base w (sets W g 0 l):=dD.new hg l 0 h
theorem dD.put (h:dD base w W) {b t':Nat} {cs:Array Value} (hk:W.heap[b]?=some (.cells cs t' (0,0))) (hg:base<=b) (h3:t'≠32/\t'≠28) (o:Nat) (v:Value):dD base w (W.setCell ⟨b,o,none⟩ v):=
 ⟨h.b.setCell (p:=⟨b,o,none⟩) hg v,fun g t l ht hx=>(h.x g t l ht hx).other ((h.x g t l ht hx).ne hk (fun e=>by rcases ht with ht | ht;exact h3.1 (e.symm.trans ht);exact h3.2 (e.symm.trans ht))) o v⟩
def TV (base:Nat) (w:World) (p:aH) (more:List Value) (en:Ending) (w':World):Prop:=
 ∃ um ui ue uc us ul up,en=.returned (.tuple (bU um ui ue uc us ul up p.hand p.limit :: more).toArray)/\PO w' base um ui ue uc us ul up p/\dD base w w'
theorem OS.N_ {n:Nat} {l:List dV} (h:OS jr 3 42 w base (A0 (some ⟨g,0,none⟩) n cap) l) (hn:l.length=n) (f:Nat) (u:Bool) (hf:f<l.length) :
  OS jr 3 42 (w.setCell ⟨g,f*3+2,none⟩ (.bool u)) base (A0 (some ⟨g,0,none⟩) n cap) (a_ l f ((aA l f).mark u)):=by
 subst hn;have h2:=(h.1.stored (f*3+2) (.bool u)).1;refine ⟨?_,by simpa [a_] using h.2⟩;have e0:=flat_get (f:=jr) (sz:=3) (fun _=>rfl) l f 0 hf (by decide);have e1:=flat_get (f:=jr) (sz:=3) (fun _=>rfl) l f 1 hf (by decide);have ei:aA l f=l[f]:=by simp [aA,hf]
 have e2:flat jr (a_ l f ((aA l f).mark u))=(flat jr l).set (f*3+2) (.bool u):=by
  unfold a_;rw [oz (sz:=3) (fun _=>rfl) l f _ hf,ei];show ((((flat jr l).set (f*3) (I_ l[f].wh)).set (f*3+1) (I_ l[f].at_)).set (f*3+1+1) (.bool u))=_;rw [lM (show (flat jr l)[f*3]?=some (I_ l[f].wh) from e0),lM (show (flat jr l)[f*3+1]?=some (I_ l[f].at_) from e1)]
 rw [e2,show (a_ l f ((aA l f).mark u)).length=l.length from by simp [a_]];exact h2
theorem PO.mark {N:Nat} (h:PO w base um ui ue uc us ul (A0 (some ⟨g,0,none⟩) N cap) p) (hN:p.pages.length=N) (f:Nat) (u:Bool) (hf:f<p.pages.length) :
  PO (w.setCell ⟨g,f*3+2,none⟩ (.bool u)) base um ui ue uc us ul (A0 (some ⟨g,0,none⟩) N cap) { p with pages:=a_ p.pages f ((aA p.pages f).mark u) }/\base<=g/\(∃ cs,w.heap[g]?=some (.cells cs 42 (0,0))):=by
 obtain ⟨cs,hk⟩:=h.g.kind rfl;have hg:=aK w g (f*3+2) (.bool u);have hz:(w.setCell ⟨g,f*3+2,none⟩ (.bool u)).heap.size=w.heap.size:=by simp [World.setCell]
 obtain ⟨⟨k1,k2,k3,k4⟩,s,l,gg⟩:=h;refine ⟨⟨⟨?_,k2.dh hg hk (by decide),?_,k4.dh hg hk (by decide)⟩,?_,(l.os.dh hg hk (by decide)).oi,gg.N_ hN f u hf⟩,(gg.lt g rfl).1,cs,hk⟩
 ·rw [hz];exact k1.dh hg hk (by decide) (by decide)
 ·rw [hz];exact k3.dh hg hk (by decide) (by decide)
 rw [hz];exact s.dh hg hk (by decide) (by decide)
theorem ER (i:Nat) (q:aH) (n:Nat) (h:q.hand=(n:Int)):eP (i+1) q=if (aA q.pages n).wh=1/\(aA q.pages n).used=false then (Kx.pass q,(n:Int)) else eP i (jV q):=by
 show (if (aA q.pages q.hand.toNat).wh=1/\(aA q.pages q.hand.toNat).used=false then (Kx.pass q,q.hand) else eP i (jV q))=_
 rw [h];rfl
theorem wP (p:aH) (base:Nat) (um ui ue uc us ul up:Value) (w:World) (h:PO w base um ui ue uc us ul up p) (hbase:base<=w.heap.size) (nS:p.pages.length=16) (hh:0<=p.hand/\p.hand<=15) :
  Calls prog 311 #[bU um ui ue uc us ul up p.hand p.limit] w (TV base w (eP 32 p).1 [I_ (eP 32 p).2]):=by
 obtain ⟨⟨xm,nm,cm,rfl⟩,⟨xi,ni,ci,rfl⟩,⟨xe,ne,ce,rfl⟩,⟨xc,nc,cc,rfl⟩⟩:=h.k.sl;obtain ⟨_,xs,cs,rfl,_,_⟩:=h.s.rm.len;obtain ⟨xl,cl,rfl⟩:=h.l.ri.val;obtain ⟨gp,cp,rfl,PR,Fp⟩:=h.g.shape (by omega);rw [nS] at h ⊢;unfold bU;obtain ⟨w0,hw0⟩:=XP (w.alloc (.cells #[A0 xm nm cm,A0 xi ni ci,A0 xe ne ce,A0 xc nc cc,A0 xs p.swap.length cs,A0 xl p.low.length cl,A0 (some ⟨gp,0,none⟩) 16 cp,I_ p.hand,I_ p.limit] 32));obtain ⟨w1,hw1⟩:=XP (w0.alloc (.cells #[A0 none 0 0,A0 none 0 0,A0 none 0 0,A0 none 0 0,A0 none 0 0,A0 none 0 0,A0 none 0 0,I_ 0,I_ 0] 32));have B0:Below w.heap.size w w0:=hw0 ▸ dm;have B1:Below w0.heap.size w0 w1:=hw1 ▸ dm;have bw:Below w.heap.size w w1:=B0.trans (B1.mono B0.size)
 have X1:=af (show BX w1 w.heap.size 32 [A0 xm nm cm,A0 xi ni ci,A0 xe ne ce,A0 xc nc cc,A0 xs p.swap.length cs,A0 xl p.low.length cl,A0 (some ⟨gp,0,none⟩) 16 cp,I_ p.hand,I_ p.limit] from (hw0 ▸ BX.new w _ _:BX w0 _ _ _).below B1);have X2:=af (show BX w1 w0.heap.size 32 [A0 none 0 0,A0 none 0 0,A0 none 0 0,A0 none 0 0,A0 none 0 0,A0 none 0 0,A0 none 0 0,I_ 0,I_ 0] from (hw1 ▸ BX.new w0 _ _:BX w1 _ _ _));have s0:w.heap.size<w0.heap.size:=by rw [<-hw0];simp
 have s1:w0.heap.size<w1.heap.size:=by rw [<-hw1];simp
 have sG:w0.heap.size≠w.heap.size:=by omega
 have HO:=af (h.below bw);have Bw:=af (dD.of bw hbase);have aC:=af hbase;have Ai:=af nS;have Hh:=af hh;clear h hbase nS hh B0 B1 bw PR Fp;go_enter func311,ntmps311;go_wp2_with fail;clear hw0 hw1
 go_loopw [4] (fun i wr=>∃ (j:Nat) (q:aH),i=I_ j/\j<=32/\TI (eP 32 p=eP (32 - j) q)/\TI (q.pages.length=16/\q.limit=p.limit)/\TI (0<=q.hand/\q.hand<=15)/\TI (PO wr base (A0 xm nm cm) (A0 xi ni ci) (A0 xe ne ce) (A0 xc nc cc) (A0 xs p.swap.length cs) (A0 xl p.low.length cl) (A0 (some ⟨gp,0,none⟩) 16 cp) q)/\TI (BX wr w.heap.size 32 [A0 xm nm cm,A0 xi ni ci,A0 xe ne ce,A0 xc nc cc,A0 xs p.swap.length cs,A0 xl p.low.length cl,A0 (some ⟨gp,0,none⟩) 16 cp,I_ q.hand,I_ q.limit])/\TI (BX wr w0.heap.size 32 [A0 none 0 0,A0 none 0 0,A0 none 0 0,A0 none 0 0,A0 none 0 0,A0 none 0 0,A0 none 0 0,I_ 0,I_ 0])/\TI (dD base w wr)) (fun i _=>32 - (intOf i).toNat)
 case atStart=>exact ⟨0,p,rfl,A5 _,rfl,⟨Ai.o,rfl⟩,Hh.o,HO,X1,X2,Bw⟩
 case round =>
  clear HO X1 X2 Bw Ai Hh;obtain ⟨j,q,rfl,hj,HV,Ai,Hh,HO,X1,X2,Bw⟩:=hrel
  by_cases hlt:j<32
  ·have kQ:(j:Int)<32:=by omega
   obtain ⟨n,hn⟩:=Int.eq_ofNat_of_zero_le Hh.o.1;have hn16:n<16:=by have:=Hh.o.2;omega
   have MJ:(n:Int)<16:=by omega
   have htm:((n:Int)+1).tmod 16=((n:Int)+1) % 16:=Int.tmod_eq_emod_of_nonneg (by omega);have Hn:=af hn;have zG:=af (show eP (32 - j) q=(if (aA q.pages n).wh=1/\(aA q.pages n).used=false then (Kx.pass q,(n:Int)) else eP (32 - (j+1)) (jV q)) by
    rw [show 32 - j=(32 - (j+1))+1 by omega];exact ER _ q n hn)
   have hq7:=HO.o.g.rs.at (k:=n) (by rw [Ai.o.1];exact hn16);obtain ⟨b,off,cap',ev,hbl,hc⟩:=hq7;rw [Ai.o.1] at ev;obtain ⟨⟨rfl,rfl,_⟩,_,rfl⟩:=Zb ev;clear ev;have hpa:q.pages[n]'(by rw [Ai.o.1];exact hn16)=aA q.pages n:=by simp [aA,Ai.o.1,hn16]
   rw [hpa] at hc;have g0:=hc 0 _ rfl;have g2:=hc 2 _ rfl;rw [A6,A9] at g0;rw [A6] at g2;obtain ⟨⟨_,_⟩,hfz⟩:=HO.o.g.bP n (by rw [Ai.o.1];exact hn16) 2 (by decide);have hgk:=HO.o.g.kind (g:=gp) rfl;obtain ⟨Jq,hgk⟩:=hgk;have hne1:w.heap.size≠gp:=X1.o.ne hgk (by decide);have hne2:w0.heap.size≠gp:=X2.o.ne hgk (by decide);rw [hn] at X1;obtain ⟨z0,z1,z2,z3,z4,z5,z6,z7,z8⟩:=X1.o.c9;have f7:=X1.o.frozen 7;have Yd:=af hgk;clear hc hgk hpa hn;go_upto_region 6 with fail;have e1:sets wr w.heap.size 7 [.int .i64 (((n:Int)+1) % 16)]=wr.setCell ⟨w.heap.size,7,none⟩ (.int .i64 (((n:Int)+1) % 16)):=rfl;have o1:=HO.o.sets X1.o (.inl rfl) 7 [.int .i64 (((n:Int)+1) % 16)];have x1:=X1.o.set 7 (.int .i64 (((n:Int)+1) % 16));have x2:=X2.o.other sG 7 (.int .i64 (((n:Int)+1) % 16))
   have b1:=Bw.o.new ⟨aC.o,Nat.le_refl _⟩ [.int .i64 (((n:Int)+1) % 16)] 7;rw [e1] at o1 b1;have g0':=(World.cell?_of_block (Below.heap_setCell wr ⟨w.heap.size,7,none⟩ (.int .i64 (((n:Int)+1) % 16)) gp (Ne.symm hne1)) (a:=⟨gp,n*3,none⟩)).trans g0;have g2':=(World.cell?_of_block (Below.heap_setCell wr ⟨w.heap.size,7,none⟩ (.int .i64 (((n:Int)+1) % 16)) gp (Ne.symm hne1)) (a:=⟨gp,n*3+2,none⟩)).trans g2;have fz':=(World.frozen?_of_block (Below.heap_setCell wr ⟨w.heap.size,7,none⟩ (.int .i64 (((n:Int)+1) % 16)) gp (Ne.symm hne1)) (a:=⟨gp,n*3+2,none⟩)).trans hfz;obtain ⟨W,hW⟩:=XP (wr.setCell ⟨w.heap.size,7,none⟩ (.int .i64 (((n:Int)+1) % 16)));rw [hW] at o1 x1 x2 b1 g0' g2' fz' ⊢;replace HO:=af o1;replace X1:=af x1;replace X2:=af x2;replace Bw:=af b1;clear e1 o1 x1 x2 b1 hW g0 g2 hfz z0 z1 z2 z3 z4 z5 z6 z7 z8 f7 htm Yd
   simp only [A1,A2] at X1;have Hfz:=af fz';clear fz';generalize EU:aA q.pages n=pg at g0' g2' zG;obtain ⟨z0,z1,z2,z3,z4,z5,z6,z7,z8⟩:=X1.o.c9
   by_cases hhit:pg.wh=1/\pg.used=false
   ·obtain ⟨h1,h2⟩:=hhit;have HF:=af (show eP 32 p=(Kx.pass q,(n:Int)) by rw [HV.o,zG.o,if_pos ⟨h1,h2⟩]);rw [h1] at g0';rw [h2] at g2';clear HV zG h1 h2 EU;obtain ⟨p0,p1,p2,p3,p4,p5,p6,p7,p8⟩:=X2.o.c9;obtain ⟨f0,f1,f2,f3,f4,f5,f6,f7,f8⟩:=X2.o.f9;go_wp2_with fail;obtain ⟨F,hF⟩:=XP (sets W w0.heap.size 0 [A0 xm nm cm,A0 xi ni ci,A0 xe ne ce,A0 xc nc cc,A0 xs p.swap.length cs,A0 xl p.low.length cl,A0 (some ⟨gp,0,none⟩) 16 cp,.int .i64 (((n:Int)+1) % 16),I_ q.limit])
    rw [afC W,hF];have x2:=X2.o.ac4 hF
    have p1:=HO.o.ac4 X2.o (.inl rfl) hF;have b1:=Bw.o.new (show base<=w0.heap.size/\w.heap.size<=w0.heap.size by have:=aC.o;omega) [A0 xm nm cm,A0 xi ni ci,A0 xe ne ce,A0 xc nc cc,A0 xs p.swap.length cs,A0 xl p.low.length cl,A0 (some ⟨gp,0,none⟩) 16 cp,.int .i64 (((n:Int)+1) % 16),I_ q.limit] 0;rw [hF] at x2 p1 b1;refine af7 (by simp [results,results311,go_sem,x2.c9]<;>rfl) ?_;rw [HF.o];have hn:=Hn.o;exact ⟨_,_,_,_,_,_,_,by unfold Kx.pass;rw [hn];rfl,⟨p1.k,p1.s,p1.l,p1.g⟩,b1⟩
   have HF:=af (show eP 32 p=eP (32 - (j+1)) (jV q) by rw [HV.o,zG.o,if_neg hhit]);obtain ⟨o1,hgb,VK,hk⟩:=HO.o.mark Ai.o.1 n false (by rw [Ai.o.1];exact hn16);have x1:=X1.o.other hne1 (n*3+2) (.bool false);have x2:=X2.o.other hne2 (n*3+2) (.bool false);have b1:=Bw.o.put hk hgb (by decide) (n*3+2) (.bool false);have fz:=Hfz.o;have QX:=af (show (jV q).hand=((n:Int)+1) % 16/\(jV q).limit=q.limit/\(jV q).pages.length=16/\PO (W.setCell ⟨gp,n*3+2,none⟩ (.bool false)) base (A0 xm nm cm) (A0 xi ni ci) (A0 xe ne ce) (A0 xc nc cc) (A0 xs p.swap.length cs) (A0 xl p.low.length cl) (A0 (some ⟨gp,0,none⟩) 16 cp) (jV q) from by
    have hn:=Hn.o;refine ⟨by show (q.hand+1) % 16=_;rw [hn],rfl,by show (a_ _ _ _).length=16;rw [jL];exact Ai.o.1,?_⟩;have e:jV q={ q with hand:=(q.hand+1) % 16,pages:=a_ q.pages n ((aA q.pages n).mark false) }:=by unfold jV;rw [hn];rfl
    rw [e];exact ⟨o1.k,o1.s,o1.l,o1.g⟩)
   have Q8:=af x1;have ZB:=af x2;have HB1:=af b1;clear o1 x1 x2 b1 hk hgb HV zG
   have qo:=af (show eP 32 p=eP (32 - (j+1)) (jV q)/\((jV q).pages.length=16/\(jV q).limit=p.limit)/\(0<=(jV q).hand/\(jV q).hand<=15)/\PO (W.setCell ⟨gp,n*3+2,none⟩ (.bool false)) base (A0 xm nm cm) (A0 xi ni ci) (A0 xe ne ce) (A0 xc nc cc) (A0 xs p.swap.length cs) (A0 xl p.low.length cl) (A0 (some ⟨gp,0,none⟩) 16 cp) (jV q)/\BX (W.setCell ⟨gp,n*3+2,none⟩ (.bool false)) w.heap.size 32 [A0 xm nm cm,A0 xi ni ci,A0 xe ne ce,A0 xc nc cc,A0 xs p.swap.length cs,A0 xl p.low.length cl,A0 (some ⟨gp,0,none⟩) 16 cp,I_ (jV q).hand,I_ (jV q).limit]/\BX (W.setCell ⟨gp,n*3+2,none⟩ (.bool false)) w0.heap.size 32 [A0 none 0 0,A0 none 0 0,A0 none 0 0,A0 none 0 0,A0 none 0 0,A0 none 0 0,A0 none 0 0,I_ 0,I_ 0]/\dD base w (W.setCell ⟨gp,n*3+2,none⟩ (.bool false)) from ⟨HF.o,⟨QX.o.2.2.1,QX.o.2.1.trans Ai.o.2⟩,by rw [QX.o.1];omega,QX.o.2.2.2,by rw [QX.o.1,QX.o.2.1];exact Q8.o,ZB.o,HB1.o⟩)
   clear HF QX Q8 ZB HB1
   by_cases hw:pg.wh=1
   ·have hu:pg.used=true:=by
     cases hu:pg.used with
     | true=>rfl
     | false=>exact absurd ⟨hw,hu⟩ hhit
    rw [hw] at g0';rw [hu] at g2';clear hhit hw hu EU;go_wp2_with fail;go_roundw
    case rel=>exact ⟨j+1,jV q,by go_num,by omega,qo.o.1,qo.o.2.1,qo.o.2.2.1,qo.o.2.2.2.1,qo.o.2.2.2.2.1,qo.o.2.2.2.2.2.1,qo.o.2.2.2.2.2.2⟩
    case measure=>simp [intOf];omega
   have hwb:(pg.wh==1)=false:=by simpa using hw
   clear hhit hw EU;go_wp2_with fail;go_roundw
   case rel=>exact ⟨j+1,jV q,by go_num,by omega,qo.o.1,qo.o.2.1,qo.o.2.2.1,qo.o.2.2.2.1,qo.o.2.2.2.2.1,qo.o.2.2.2.2.2.1,qo.o.2.2.2.2.2.2⟩
   case measure=>simp [intOf];omega
  have HF:=af (show eP 32 p=(q,-1) by rw [HV.o,show 32 - j=0 by omega];rfl);obtain ⟨z0,z1,z2,z3,z4,z5,z6,z7,z8⟩:=X1.o.c9;obtain ⟨p0,p1,p2,p3,p4,p5,p6,p7,p8⟩:=X2.o.c9;obtain ⟨f0,f1,f2,f3,f4,f5,f6,f7,f8⟩:=X2.o.f9;clear HV;go_wp2_with fail;obtain ⟨F,hF⟩:=XP (sets wr w0.heap.size 0 [A0 xm nm cm,A0 xi ni ci,A0 xe ne ce,A0 xc nc cc,A0 xs p.swap.length cs,A0 xl p.low.length cl,A0 (some ⟨gp,0,none⟩) 16 cp,I_ q.hand,I_ q.limit])
  rw [afC wr,hF];have x2:=X2.o.ac4 hF
  have p1:=HO.o.ac4 X2.o (.inl rfl) hF;have b1:=Bw.o.new (show base<=w0.heap.size/\w.heap.size<=w0.heap.size by have:=aC.o;omega) [A0 xm nm cm,A0 xi ni ci,A0 xe ne ce,A0 xc nc cc,A0 xs p.swap.length cs,A0 xl p.low.length cl,A0 (some ⟨gp,0,none⟩) 16 cp,I_ q.hand,I_ q.limit] 0;rw [hF] at x2 p1 b1;refine af7 (by simp [results,results311,go_sem,x2.c9]<;>rfl) ?_
  rw [HF.o];exact ⟨_,_,_,_,_,_,_,rfl,p1,b1⟩
end Go.Proofs.YthcmmoibpgcgaaaGreatDoor
