/- KD6, KD7, KD8, joined. -/
import Derived.Test.YtenebmeaoidnoaaGreatDoorKD5
import Derived.Test.YtenebmeaoidnoaaGreatDoorKY
namespace Go.Proofs.YtenebmeaoidnoaaGreatDoor
open Go.RowKit
/-- the first free place, -1 if there is none -/
def freeSI (s:List (List Int)):Int:=match Kx.swapFree s with | some i=>(i:Int) | none=>-1
theorem swapFree_hit {s:List (List Int)} {k:Nat} (hk:k<s.length) (h:s[k].length=0) (hall:∀ j (hj:j<s.length),j<k→s[j].length≠0):Kx.swapFree s=some k:=by
  unfold Kx.swapFree;rw [List.findIdx?_eq_some_iff_getElem];refine ⟨hk,by simp [List.eq_nil_of_length_eq_zero h],fun j hj=>?_⟩
  have:=hall j (by omega) hj
  exact fun e=>by
    have h2:s[j]=[]:=List.isEmpty_iff.1 e;rw [h2] at this;exact this rfl
theorem swapFree_none {s:List (List Int)} (hall:∀ j (hj:j<s.length),s[j].length≠0):Kx.swapFree s=none:=by
  unfold Kx.swapFree;rw [List.findIdx?_eq_none_iff];intro x hx;obtain ⟨j,hj,rfl⟩:=List.getElem_of_mem hx;have:=hall j hj
  cases he:s[j] with
  | nil=>rw [he] at this;exact absurd rfl this
  | cons a l=>rfl
set_option maxHeartbeats 1000000 in
set_option maxRecDepth 100000 in
theorem l31Free_c (s:List (List Int)) (v:Value) (w:World) (h:RM w v s):Calls Tryz.prog 215 #[v] w fun e w'=>e=.returned (.int .i64 (freeSI s))∧w=w':=by
  obtain ⟨hl,a,cap,rfl,_,_⟩:=h.len;have H:=hI_ h;clear h;go_enter Tryz.func215,Tryz.ntmps215;go_wp2_with fail;go_loop [3] (fun i=>∃ k:Nat,i=.int .i64 k∧k≤s.length∧Hid (∀ j (hj:j<s.length),j<k→s[j].length≠0)) (fun i=>s.length - (intOf i).toNat)
  case atStart=>exact ⟨0,rfl,Nat.zero_le _,fun j _ hj=>absurd hj (Nat.not_lt_zero _)⟩
  case round =>
    obtain ⟨k,rfl,hk,hall⟩:=hrel
    by_cases hlt:k<s.length
    · have hlI:(k:Int)<(s.length:Int):=by omega
      obtain ⟨b,off,cap',u,ev,_,g0,hr⟩:=H.out.at (k:=k) hlt;simp only [Value.slice.injEq] at ev;obtain ⟨rfl,_,rfl⟩:=ev;rw [show Kx.row s k=s[k] from by simp [Kx.row,hlt]] at hr;obtain ⟨a9,c9,rfl⟩:=hr.val;clear hr;have Hit:=hI_ (show s[k].length=0→freeSI s=k from fun h=>by unfold freeSI;rw [swapFree_hit hlt h hall.out]);have Mis:=hI_ (show s[k].length≠0→∀ j (hj:j<s.length),j<k+1→s[j].length≠0 from fun h j hj hjk=>by
        by_cases ej:j=k
        · subst ej;exact h
        · exact hall.out j hj (by omega))
      generalize s[k].length=x at g0 Hit Mis
      by_cases hx:x=0
      · have HF:=hI_ (Hit.out hx);subst hx;clear Hit Mis;go_wp2_with fail;go_ret;exact ⟨ret_int HF.out.symm,rfl⟩
      · have HM:=hI_ (Mis.out hx);have hxb:((x:Int)==0)=false:=by simpa using hx
        clear hx Hit Mis;go_wp2_with fail;go_round
        case rel=>exact ⟨k+1,by go_num,by omega,HM.out⟩
        case measure=>simp [intOf];omega
    · have HF:=hI_ (show freeSI s=-1 by unfold freeSI;rw [swapFree_none fun j hj=>hall.out j hj (by omega)])
      go_wp2_with fail;go_ret;exact ⟨ret_int HF.out.symm,rfl⟩
set_option maxHeartbeats 1000000 in
set_option maxRecDepth 100000 in
theorem specInfosFree_c (l:List Kx.Info) (v:Value) (w:World) (h:RInfo w v l) (hs:SaneI l) (hok:Kx.infosOk l=true):Calls Tryz.prog 192 #[v] w fun e w'=>e=.returned (.int .i64 (Kx.freeN l:Nat))∧Below w.heap.size w w':=by
  have HV:=hI_ (specInfosValid_c l v w h hs);rw [hok] at HV;obtain ⟨a,cap,rfl,_,_⟩:=RS.val h;have hl:=h.1;have H:=hI_ (show RInfo w _ l from h);clear h hok hs;go_enter Tryz.func192,Tryz.ntmps192;go_wp2_with fail;go_loop [3,4] (fun n i=>∃ k:Nat,i=.int .i64 k∧k≤l.length∧n=.int .i64 (Kx.freeN (l.take k):Nat)) (fun _ i=>l.length - (intOf i).toNat)
  case atStart=>exact ⟨0,rfl,Nat.zero_le _,rfl⟩
  case round =>
    obtain ⟨k,rfl,hk,rfl⟩:=hrel
    by_cases hlt:k<l.length
    · have hlI:(k:Int)<(l.length:Int):=by omega
      obtain ⟨b,off,cap',ev,_,hc⟩:=RS.at H.out hlt;simp only [Value.slice.injEq] at ev;obtain ⟨rfl,_,rfl⟩:=ev;have g0:=hc 0 _ rfl;rw [Nat.add_zero] at g0;clear hc;have hn:Kx.freeN (l.take (k+1))=Kx.freeN (l.take k)+if l[k].kind==0 then 1 else 0:=by
        unfold Kx.freeN;rw [List.take_succ_eq_append_getElem hlt,List.countP_append,List.countP_singleton]
      have hle:Kx.freeN (l.take k)≤k:=Nat.le_trans List.countP_le_length (List.length_take_le _ _);have Hn:=hI_ hn;clear hn;generalize Kx.freeN (l.take k)=n at hle Hn;generalize l[k].kind=x at g0 Hn
      by_cases hx:x=0
      · subst hx;have HF:=hI_ (show Kx.freeN (l.take (k+1))=n+1 by rw [Hn.out];simp);clear Hn;go_wp2_with fail;go_round
        case rel=>exact ⟨k+1,by go_num,by omega,by rw [HF.out];go_num⟩
        case measure=>simp [intOf];omega
      · have hxb:(x==0)=false:=by simpa using hx
        have HF:=hI_ (show Kx.freeN (l.take (k+1))=n by rw [Hn.out,hxb];simp);clear Hn hx;go_wp2_with fail;go_round
        case rel=>exact ⟨k+1,by go_num,by omega,by rw [HF.out]⟩
        case measure=>simp [intOf];omega
    · have hkn:k=l.length:=by omega
      have HF:=hI_ (show Kx.freeN (l.take k)=Kx.freeN l by rw [hkn,List.take_length]);clear hkn;go_wp2_with fail;refine HV.out.mono ?_;rintro e w1 ⟨rfl,hb⟩;have Hb:=hI_ hb;clear hb;go_wp2_with fail;go_ret;exact ⟨ret_int (by first | rfl | rw [HF.out]),Hb.out⟩
set_option maxHeartbeats 4000000 in
set_option maxRecDepth 100000 in
theorem SwapPut_c (s:List (List Int)) (ws:List Int) (i:Nat) (v u:Value) (w:World) (h:RM w v s) (hu:RI w u ws) (hok:Kx.swapOk s=true) (hw:Kx.wordsOk ws=true) (hf:Kx.swapFree s=some i) :
    Calls Tryz.prog 211 #[v,u] w fun e w'=>∃ us,e=.returned (.tuple #[us,.int .i64 i,.bool true])∧OM w' w.heap.size w'.heap.size us (s.set i ws)∧Below w.heap.size w w':=by
  have hs16:=(Kx.swapOk_iff.1 hok).1;have hi:i<s.length:=by
    unfold Kx.swapFree at hf;exact (List.findIdx?_eq_some_iff_getElem.1 hf).1
  have HF:=hI_ (show freeSI s=i by unfold freeSI;rw [hf]);have HV:=hI_ (specSwapValid_c s v w h);rw [hok] at HV;have HW:=hI_ (l2Words_c ws u w hu);rw [wordsOk_eq,hw] at HW;have HC:=hI_ (l2Copy_c s v w h (by omega));have HR:=hI_ hu;have hlw:=hI_ (show ([]:List Int).length+ws.length≤1099511627776 by have:=hu.1;simp;omega);have HFr:=hI_ (l31Free_c s v w h);rw [HF.out] at HFr;have Hi:=hI_ hi;obtain ⟨_,a,cap,rfl,_,_⟩:=h.len;obtain ⟨a2,c2,rfl⟩:=hu.val;have hi0:((i:Int)<0)=False:=by simp
  clear h hu hok hw hf hs16 hi;go_enter Tryz.func211,Tryz.ntmps211;go_wp2_with fail;refine HFr.out.mono ?_;rintro e w1 ⟨rfl,rfl⟩;go_wp2_with fail;refine HV.out.mono ?_;rintro e w1 ⟨rfl,rfl⟩;go_wp2_with fail;refine HW.out.mono ?_;rintro e w1 ⟨rfl,rfl⟩;go_wp2_with fail;refine HC.out.mono ?_;rintro e w1 ⟨us,rfl,ho,hb⟩;have hsz:=hb.size;have B1:Below w1.heap.size w1 (w1.alloc (.cells #[] 3)):=bL_;obtain ⟨_,a3,c3,rfl,_,_⟩:=ho.rm.len;have Ho:=hI_ ho;have Hb:=hI_ hb;clear ho hb HFr HV HW HC HF;have hiI:(i:Int)<(s.length:Int):=by have:=Hi.out;omega
  have hi0':(0:Int)≤(i:Int):=by omega
  go_upto_region 6 with (at_builtin;refine wpList_appR rfl _ _ rfl w1.heap.size _ [] rfl (OI.lit0 nR_) _ ws rfl (HR.out.below (Hb.out.trans (B1.mono hsz))) hlw.out (by simp) ?_;intro v2 w2 ho2 hg2;rw [List.nil_append] at ho2;obtain ⟨a8,c8,rfl⟩:=ho2.ri.val;have B2:Below w1.heap.size w1 w2:=Below.app B1 (OI.lit0 nR_) hg2 nR_ (by simp);obtain ⟨b,cap',eu,hbb,hbk,⟨z,hz⟩,hfz,hset⟩:=(Ho.out.below B2).setRow (hi:=w1.heap.size) (by omega) B2.size (f:=i) Hi.out ⟨a8,ws.length,c8⟩ ws ho2;simp only [Value.slice.injEq] at eu;obtain ⟨rfl,_,rfl⟩:=eu;have Hset:=hI_ hset;have Hb2:=hI_ (Hb.out.trans (B2.mono hsz));have Hbb:=hI_ hbb;clear ho2 hg2 hset hbk);have HF:=hI_ Hset.out;go_wp2_with fail;refine bodyPost_ret (v:=.tuple #[.slice (some ⟨b,0,none⟩) s.length c3,.int .i64 i,.bool true]) (by simp [results,Tryz.results211,go_sem]) rfl ?_
  exact ⟨_,rfl,by rw [show ∀ W:World,∀ p v,(W.setCell p v).heap.size=W.heap.size from fun W p v=>by simp [World.setCell]];exact HF.out,Hb2.out.setCell (p:=⟨b,i,none⟩) Hbb.out _⟩
/-- a pager of the call's own -/
structure PO (w:World) (base:Nat) (um ui ue uc us ul up:Value) (p:Kx.Pager):Prop where
  k:KO w base um ui ue uc p.k
  s:OM w base w.heap.size us p.swap
  l:OI w base ul p.low
  g:OS pageC 3 169 w base up p.pages
theorem PO.rp {w:World} {base:Nat} {um ui ue uc us ul up:Value} {p:Kx.Pager} (h:PO w base um ui ue uc us ul up p):RP w um ui ue uc us ul up p:=⟨h.k.rk,h.s.rm,h.l.ri,h.g.rs⟩
theorem PO.below {w w':World} {base:Nat} {um ui ue uc us ul up:Value} {p:Kx.Pager} (h:PO w base um ui ue uc us ul up p) (hb:Below w.heap.size w w'):PO w' base um ui ue uc us ul up p:=⟨h.k.below hb,h.s.go hb,h.l.below hb,h.g.below hb⟩
theorem PO.mono {w:World} {base base':Nat} {um ui ue uc us ul up:Value} {p:Kx.Pager} (h:PO w base um ui ue uc us ul up p) (hb:base'≤base):PO w base' um ui ue uc us ul up p:=⟨h.k.mono hb,h.s.mono hb nR_,h.l.mono hb,h.g.mono hb⟩
theorem PO.sets {w:World} {base g t:Nat} {um ui ue uc us ul up:Value} {p:Kx.Pager} {cs:List Value} (h:PO w base um ui ue uc us ul up p) (hb:BX w g t cs) (ht:t=103∨t=28) (i:Nat) (l:List Value):PO (Go.Proofs.YtenebmeaoidnoaaGreatDoor.sets w g i l) base um ui ue uc us ul up p:=by
  rcases ht with rfl | rfl
  · exact ⟨KO.sets boxPager l i hb h.k,by rw [size_sets];exact OM.sets (by decide) (by decide) l i hb h.s,(OS.sets (by decide) l i hb h.l.os).oi,OS.sets (by decide) l i hb h.g⟩
  · exact ⟨KO.sets boxKernel l i hb h.k,by rw [size_sets];exact OM.sets (by decide) (by decide) l i hb h.s,(OS.sets (by decide) l i hb h.l.os).oi,OS.sets (by decide) l i hb h.g⟩
theorem PO.up {w V:World} {base:Nat} {um ui ue uc us ul up:Value} {p:Kx.Pager} (h:PO w base um ui ue uc us ul up p) (hu:Up base w V):PO V base um ui ue uc us ul up p:=⟨h.k.up hu,(h.s.up hu).mono nR_ hu.1,(h.l.os.up hu).oi,h.g.up hu⟩
theorem PO.rpo {w:World} {base:Nat} {um ui ue uc us ul up:Value} {p:Kx.Pager} (h:PO w base um ui ue uc us ul up p):RPo w base um ui ue uc us ul up p:=fun _ hu=>(h.up hu).rp
theorem tiPage:TI 101 169 (.agg #[.int .i64 0,.int .i64 0,.bool false]) 3:=TI.mk Tryz.underlying101 (b:=24) (by kernel_rfl) (by decide) rfl
theorem pagerOk_lens {p:Kx.Pager} (h:Kx.pagerOk p=true):Kx.kernelOk p.k=true∧p.swap.length=16∧p.low.length=4∧p.pages.length=16:=by
  have h1:=Kx.pok_iff.1 h;exact ⟨Kx.ok_iff.2 h1.low.ok,(Kx.swapOk_iff.1 h1.swap).1,h1.low.l4,h1.p16⟩
set_option maxHeartbeats 4000000 in
set_option maxRecDepth 100000 in
theorem l32Copy_c (p:Kx.Pager) (vm vi ve vc vs vl vp:Value) (w:World) (h:RP w vm vi ve vc vs vl vp p) (hok:Kx.pagerOk p=true) :
    Calls Tryz.prog 173 #[pagerV vm vi ve vc vs vl vp p.hand p.limit] w fun en w'=>∃ um ui ue uc us ul up,en=.returned (pagerV um ui ue uc us ul up p.hand p.limit)∧PO w' w.heap.size um ui ue uc us ul up p∧Below w.heap.size w w':=by
  obtain ⟨hk,h16,h4,hp16⟩:=pagerOk_lens hok;obtain ⟨hl1,hl2,hl3,hl4,hl5⟩:=kernelOk_lens hk;obtain ⟨_,am,cm,rfl,_,_⟩:=h.k.m.len;obtain ⟨ai,ci,rfl,_,_⟩:=RS.val h.k.i;obtain ⟨_,ae,ce,rfl,_,_⟩:=h.k.e.len;obtain ⟨ac,cq,rfl,_,_⟩:=RS.val h.k.c;obtain ⟨_,xs,ys,rfl,_,_⟩:=h.s.len;obtain ⟨xl,yl,rfl⟩:=h.l.val;obtain ⟨xp,yp,rfl,_,_⟩:=RS.val h.g;unfold pagerV;obtain ⟨w0,hw0⟩:∃ w0,w.alloc (.cells #[.slice am p.k.mem.length cm,.slice ai p.k.infos.length ci,.slice ae p.k.envs.length ce,.slice ac p.k.cache.length cq,.slice xs p.swap.length ys,.slice xl p.low.length yl,.slice xp p.pages.length yp,.int .i64 p.hand,.int .i64 p.limit] 103)=w0:=⟨_,rfl⟩;obtain ⟨w1,hw1⟩:∃ w1,w0.alloc (.cells #[.slice none 0 0,.slice none 0 0,.slice none 0 0,.slice none 0 0,.slice none 0 0,.slice none 0 0,.slice none 0 0,.int .i64 0,.int .i64 0] 103)=w1:=⟨_,rfl⟩;have B0:Below w.heap.size w w0:=hw0 ▸ bL_
  have B1:Below w0.heap.size w0 w1:=hw1 ▸ bL_;have bw:Below w.heap.size w w1:=B0.trans (B1.mono B0.size);have X1:=hI_ (show BX w1 w.heap.size 103 _ from (hw0 ▸ BX.new w _ _:BX w0 _ _ _).below B1);have X2:=hI_ (show BX w1 w0.heap.size 103 [.slice none 0 0,.slice none 0 0,.slice none 0 0,.slice none 0 0,.slice none 0 0,.slice none 0 0,.slice none 0 0,.int .i64 0,.int .i64 0] from (hw1 ▸ BX.new w0 _ _:BX w1 _ _ _));have s0:w.heap.size<w0.heap.size:=by rw [←hw0];simp
  have s1:w0.heap.size<w1.heap.size:=by rw [←hw1];simp
  have H:=hI_ h;have Bw:=hI_ bw;have HC:=hI_ (l21Copy_c p.k _ _ _ _ w1 (H.out.below bw).k hl1 hl2 hl3 hl4 hl5);have hxl:=hI_ (show ([]:List Int).length+p.low.length≤1099511627776 by simp;omega);have hxp:=hI_ (show ([]:List Kx.Page).length+p.pages.length≤1099511627776 by simp;omega);have H16:=hI_ h16;clear h hok hk h16 h4 hp16 hl1 hl2 hl3 hl4 hl5 B0 B1 bw;obtain ⟨z0,z1,z2,z3,z4,z5,z6,z7,z8⟩:=X1.out.c9;obtain ⟨f0,f1,f2,f3,f4,f5,f6,f7,f8⟩:=X1.out.f9;have hlt1:=X1.out.lt;go_enter Tryz.func173,Tryz.ntmps173;go_wp2_with fail;refine HC.out.mono ?_;rintro en w2 ⟨_,_,_,_,rfl,ho,hb⟩;obtain ⟨⟨a0,an0,am0,rfl⟩,⟨a1,an1,am1,rfl⟩,⟨a2,an2,am2,rfl⟩,⟨a3,an3,am3,rfl⟩⟩:=ho.sl;clear z0 z1 z2 z3 z4 z5 z6 z7 z8 f0 f1 f2 f3 f4 f5 f6 f7 f8 hlt1;replace X1:=hI_ (X1.out.below hb);replace X2:=hI_ (X2.out.below hb);obtain ⟨z0,z1,z2,z3,z4,z5,z6,z7,z8⟩:=X1.out.c9;obtain ⟨f0,f1,f2,f3,f4,f5,f6,f7,f8⟩:=X1.out.f9
  have hlt1:=X1.out.lt;go_upto_region 2 with fail;obtain ⟨w3,hw3⟩:∃ V,sets w2 w.heap.size 0 [.slice a0 an0 am0,.slice a1 an1 am1,.slice a2 an2 am2,.slice a3 an3 am3]=V:=⟨_,rfl⟩;rw [show ((((w2.setCell ⟨w.heap.size,0,none⟩ (.slice a0 an0 am0)).setCell ⟨w.heap.size,1,none⟩ (.slice a1 an1 am1)).setCell ⟨w.heap.size,2,none⟩ (.slice a2 an2 am2)).setCell ⟨w.heap.size,3,none⟩ (.slice a3 an3 am3))=w3 from hw3];have hn21:w0.heap.size≠w.heap.size:=by omega
  have k1:=KO.sets boxPager [.slice a0 an0 am0,.slice a1 an1 am1,.slice a2 an2 am2,.slice a3 an3 am3] 0 X1.out (ho.mono (Nat.le_of_lt (Nat.lt_trans s0 s1)));have x1:=bx_sets4 X1.out (.slice a0 an0 am0) (.slice a1 an1 am1) (.slice a2 an2 am2) (.slice a3 an3 am3);have x2:=BX.setsO hn21 [.slice a0 an0 am0,.slice a1 an1 am1,.slice a2 an2 am2,.slice a3 an3 am3] 0 X2.out;have b1:=below_sets (Nat.le_refl w.heap.size) [.slice a0 an0 am0,.slice a1 an1 am1,.slice a2 an2 am2,.slice a3 an3 am3] 0 (Bw.out.trans (hb.mono Bw.out.size));rw [hw3] at k1 x1 x2 b1;replace X1:=hI_ x1;replace X2:=hI_ x2;have HK:=hI_ k1;replace Bw:=hI_ b1;clear k1 x1 x2 b1 ho hb HC hw3 z0 z1 z2 z3 z4 z5 z6 z7 z8 f0 f1 f2 f3 f4 f5 f6 f7 f8 hlt1;obtain ⟨z0,z1,z2,z3,z4,z5,z6,z7,z8⟩:=X1.out.c9;obtain ⟨f0,f1,f2,f3,f4,f5,f6,f7,f8⟩:=X1.out.f9;have hlt1:=X1.out.lt
  have HC:=hI_ (l2Copy_c p.swap _ w3 (H.out.below Bw.out).s (by have:=H16.out;omega));go_wp2_with fail;refine HC.out.mono ?_;rintro en w4 ⟨us,rfl,ho,hb⟩;obtain ⟨_,aw,bs,rfl,_,_⟩:=ho.rm.len;clear z0 z1 z2 z3 z4 z5 z6 z7 z8 f0 f1 f2 f3 f4 f5 f6 f7 f8 hlt1;replace X1:=hI_ (X1.out.below hb);replace X2:=hI_ (X2.out.below hb);obtain ⟨z0,z1,z2,z3,z4,z5,z6,z7,z8⟩:=X1.out.c9;obtain ⟨f0,f1,f2,f3,f4,f5,f6,f7,f8⟩:=X1.out.f9;have hlt1:=X1.out.lt;go_upto_region 3 with fail;have hc:=grown_set1 w4 w.heap.size 4 (.slice aw p.swap.length bs);have k1:=(HK.out.below hb).box X1.out boxPager 4 (.slice aw p.swap.length bs);have o1:=(ho.mono Bw.out.size nR_).keptT hc X1.out (by decide) (by decide);have x1:=X1.out.set 4 (.slice aw p.swap.length bs);have x2:=X2.out.other hn21 4 (.slice aw p.swap.length bs)
  have b1:=(Bw.out.trans (hb.mono Bw.out.size)).setCell (p:=⟨w.heap.size,4,none⟩) nR_ (.slice aw p.swap.length bs);have z1:w4.heap.size=(w4.setCell ⟨w.heap.size,4,none⟩ (.slice aw p.swap.length bs)).heap.size:=by simp [World.setCell]
  rw [z1] at o1;obtain ⟨w5,hw5⟩:∃ V,w4.setCell ⟨w.heap.size,4,none⟩ (.slice aw p.swap.length bs)=V:=⟨_,rfl⟩;rw [hw5] at k1 o1 x1 x2 b1 ⊢;replace X1:=hI_ x1;replace X2:=hI_ x2;replace HK:=hI_ k1;replace Bw:=hI_ b1;have HS:=hI_ o1;clear k1 o1 x1 x2 b1 ho hb HC hw5 hc z0 z1 z2 z3 z4 z5 z6 z7 z8 f0 f1 f2 f3 f4 f5 f6 f7 f8 hlt1;simp only [List.set_cons_zero,List.set_cons_succ] at X1;obtain ⟨z0,z1,z2,z3,z4,z5,z6,z7,z8⟩:=X1.out.c9;obtain ⟨f0,f1,f2,f3,f4,f5,f6,f7,f8⟩:=X1.out.f9;have hlt1:=X1.out.lt;have B1:Below w5.heap.size w5 (w5.alloc (.cells #[] 3)):=bL_;have hL1:=hI_ ((H.out.below Bw.out).l.below B1);have hbz:=hI_ Bw.out.size
  go_upto_region 4 with (at_builtin;refine wpList_appR rfl _ _ rfl w5.heap.size _ [] rfl (OI.lit0 nR_) _ p.low rfl hL1.out hxl.out (by simp) ?_;intro v6 w6 ho6 hg6;rw [List.nil_append] at ho6;obtain ⟨al,bl,rfl⟩:=ho6.ri.val;have B6:Below w5.heap.size w5 w6:=Below.app B1 (OI.lit0 nR_) hg6 nR_ (by simp);have y5:=(B6.cell (p:=⟨w.heap.size,5,none⟩) X1.out.lt).trans z5;have yf:=(X1.out.below B6).frozen 5;have Ho6:=hI_ ho6;have HB6:=hI_ B6;clear ho6 hg6 B6);have X6:=X1.out.below HB6.out;have hc:=grown_set1 w6 w.heap.size 5 (.slice al p.low.length bl);have k1:=(HK.out.below HB6.out).box X6 boxPager 5 (.slice al p.low.length bl);have o1:=(HS.out.go HB6.out).keptT hc X6 (by decide) (by decide);have l1:=(Ho6.out.os.mono hbz.out).keptT hc X6 (by decide);have x1:=X6.set 5 (.slice al p.low.length bl);have x2:=(X2.out.below HB6.out).other hn21 5 (.slice al p.low.length bl)
  have b1:=(Bw.out.trans (HB6.out.mono Bw.out.size)).setCell (p:=⟨w.heap.size,5,none⟩) nR_ (.slice al p.low.length bl);have z1:w6.heap.size=(w6.setCell ⟨w.heap.size,5,none⟩ (.slice al p.low.length bl)).heap.size:=by simp [World.setCell]
  rw [z1] at o1;obtain ⟨w7,hw7⟩:∃ V,w6.setCell ⟨w.heap.size,5,none⟩ (.slice al p.low.length bl)=V:=⟨_,rfl⟩;rw [hw7] at k1 o1 l1 x1 x2 b1 ⊢;replace X1:=hI_ x1;replace X2:=hI_ x2;replace HK:=hI_ k1;replace Bw:=hI_ b1;replace HS:=hI_ o1;have HL:=hI_ l1;clear k1 o1 l1 x1 x2 b1 hw7 hc B1 hL1 hbz X6 HB6 Ho6 y5 yf z0 z1 z2 z3 z4 z5 z6 z7 z8 f0 f1 f2 f3 f4 f5 f6 f7 f8 hlt1;simp only [List.set_cons_zero,List.set_cons_succ] at X1;obtain ⟨z0,z1,z2,z3,z4,z5,z6,z7,z8⟩:=X1.out.c9;obtain ⟨f0,f1,f2,f3,f4,f5,f6,f7,f8⟩:=X1.out.f9;have hlt1:=X1.out.lt;have B1:Below w7.heap.size w7 (w7.alloc (.cells #[] 169)):=bL_;have hL1:=hI_ (RS.below (H.out.below Bw.out).g B1);have hbz:=hI_ Bw.out.size
  go_upto_region 5 with (at_builtin;refine wpList_appS tiPage rfl _ _ rfl w7.heap.size _ [] rfl (OS.lit0 nR_) _ p.pages rfl hL1.out hxp.out (by simp) ?_;intro v8 w8 ho8 hg8 _;rw [List.nil_append] at ho8;obtain ⟨ap,bp,rfl,_,_⟩:=RS.val ho8.rs;have B8:Below w7.heap.size w7 w8:=Below.appS B1 (OS.lit0 (f:=pageC) (sz:=3) nR_) hg8 nR_ (by simp);have y6:=(B8.cell (p:=⟨w.heap.size,6,none⟩) X1.out.lt).trans z6;have yf:=(X1.out.below B8).frozen 6;have Ho8:=hI_ ho8;have HB8:=hI_ B8;clear ho8 hg8 B8);have X8:=X1.out.below HB8.out;have hc:=grown_set1 w8 w.heap.size 6 (.slice ap p.pages.length bp);have k1:=(HK.out.below HB8.out).box X8 boxPager 6 (.slice ap p.pages.length bp);have o1:=(HS.out.go HB8.out).keptT hc X8 (by decide) (by decide);have l1:=(HL.out.below HB8.out).keptT hc X8 (by decide);have g1:=(Ho8.out.mono hbz.out).keptT hc X8 (by decide);have x1:=X8.set 6 (.slice ap p.pages.length bp)
  have x2:=(X2.out.below HB8.out).other hn21 6 (.slice ap p.pages.length bp);have b1:=(Bw.out.trans (HB8.out.mono Bw.out.size)).setCell (p:=⟨w.heap.size,6,none⟩) nR_ (.slice ap p.pages.length bp);have z1:w8.heap.size=(w8.setCell ⟨w.heap.size,6,none⟩ (.slice ap p.pages.length bp)).heap.size:=by simp [World.setCell]
  rw [z1] at o1;obtain ⟨w9,hw9⟩:∃ V,w8.setCell ⟨w.heap.size,6,none⟩ (.slice ap p.pages.length bp)=V:=⟨_,rfl⟩;rw [hw9] at k1 o1 l1 g1 x1 x2 b1 ⊢;have HP:=hI_ (show PO w9 w.heap.size _ _ _ _ _ _ _ p from ⟨k1,o1,l1.oi,g1⟩);replace X1:=hI_ x1;replace X2:=hI_ x2;replace Bw:=hI_ b1;clear k1 o1 l1 g1 x1 x2 b1 hw9 hc B1 hL1 hbz X8 HB8 Ho8 y6 yf HK HS HL z0 z1 z2 z3 z4 z5 z6 z7 z8 f0 f1 f2 f3 f4 f5 f6 f7 f8 hlt1;simp only [List.set_cons_zero,List.set_cons_succ] at X1;obtain ⟨z0,z1,z2,z3,z4,z5,z6,z7,z8⟩:=X1.out.c9;obtain ⟨f0,f1,f2,f3,f4,f5,f6,f7,f8⟩:=X2.out.f9;have hlt1:=X1.out.lt;obtain ⟨r0,r1,r2,r3,r4,r5,r6,r7,r8⟩:=X2.out.c9;go_wp2_with fail;obtain ⟨F,hF⟩:∃ V,sets w9 w0.heap.size 0 [.slice a0 an0 am0,.slice a1 an1 am1,.slice a2 an2 am2,.slice a3 an3 am3,.slice aw p.swap.length bs,.slice al p.low.length bl,.slice ap p.pages.length bp,.int .i64 p.hand,.int .i64 p.limit]=V:=⟨_,rfl⟩
  rw [show (((((((((w9.setCell ⟨w0.heap.size,0,none⟩ (.slice a0 an0 am0)).setCell ⟨w0.heap.size,1,none⟩ (.slice a1 an1 am1)).setCell ⟨w0.heap.size,2,none⟩ (.slice a2 an2 am2)).setCell ⟨w0.heap.size,3,none⟩ (.slice a3 an3 am3)).setCell ⟨w0.heap.size,4,none⟩ (.slice aw p.swap.length bs)).setCell ⟨w0.heap.size,5,none⟩ (.slice al p.low.length bl)).setCell ⟨w0.heap.size,6,none⟩ (.slice ap p.pages.length bp)).setCell ⟨w0.heap.size,7,none⟩ (.int .i64 p.hand)).setCell ⟨w0.heap.size,8,none⟩ (.int .i64 p.limit))=F from hF];have x2:=X2.out.sets [.slice a0 an0 am0,.slice a1 an1 am1,.slice a2 an2 am2,.slice a3 an3 am3,.slice aw p.swap.length bs,.slice al p.low.length bl,.slice ap p.pages.length bp,.int .i64 p.hand,.int .i64 p.limit] rfl
  have p1:=HP.out.sets X2.out (.inl rfl) 0 [.slice a0 an0 am0,.slice a1 an1 am1,.slice a2 an2 am2,.slice a3 an3 am3,.slice aw p.swap.length bs,.slice al p.low.length bl,.slice ap p.pages.length bp,.int .i64 p.hand,.int .i64 p.limit];have b1:=below_sets (show w.heap.size≤w0.heap.size by omega) [.slice a0 an0 am0,.slice a1 an1 am1,.slice a2 an2 am2,.slice a3 an3 am3,.slice aw p.swap.length bs,.slice al p.low.length bl,.slice ap p.pages.length bp,.int .i64 p.hand,.int .i64 p.limit] 0 Bw.out;rw [hF] at x2 p1 b1;obtain ⟨e0,e1,e2,e3,e4,e5,e6,e7,e8⟩:=x2.c9;refine bodyPost_ret (v:=.agg #[.slice a0 an0 am0,.slice a1 an1 am1,.slice a2 an2 am2,.slice a3 an3 am3,.slice aw p.swap.length bs,.slice al p.low.length bl,.slice ap p.pages.length bp,.int .i64 p.hand,.int .i64 p.limit]) (by simp [results,Tryz.results173,go_sem,e0,e1,e2,e3,e4,e5,e6,e7,e8]) rfl ?_;exact ⟨_,_,_,_,_,_,_,rfl,p1,b1⟩
/-- what lies below base stays, and every box of a pager or a kernel -/
structure KeptP (base:Nat) (w w':World):Prop where
  b:Below base w w'
  x:∀ g t l,(t=103∨t=28)→BX w g t l→BX w' g t l
theorem KeptP.size {base:Nat} {w w':World} (h:KeptP base w w'):w.heap.size≤w'.heap.size:=h.b.size
theorem KeptP.of {base:Nat} {w w':World} (hb:Below w.heap.size w w') (hbase:base≤w.heap.size):KeptP base w w':=⟨hb.mono hbase,fun _ _ _ _ h=>h.below hb⟩
theorem KeptP.trans {base:Nat} {w W V:World} (h:KeptP base w W) (h':KeptP base W V):KeptP base w V:=⟨h.b.trans h'.b,fun g t l ht hx=>h'.x g t l ht (h.x g t l ht hx)⟩
theorem KeptP.go {base:Nat} {w W V:World} (h:KeptP base w W) (hb:Below W.heap.size W V) (hbase:base≤w.heap.size):KeptP base w V:=h.trans (KeptP.of hb (Nat.le_trans hbase h.size))
theorem KeptP.new {base:Nat} {w:World} {g:Nat} (hg:base≤g∧w.heap.size≤g) (l:List Value):∀ (i:Nat) {W:World},KeptP base w W→KeptP base w (sets W g i l):=by
  induction l with
  | nil=>intro i W h;exact h
  | cons v l ih=>intro i W h;exact ih (i+1) ⟨h.b.setCell (p:=⟨g,i,none⟩) hg.1 v,fun g' t l ht hx=>(h.x g' t l ht hx).other (by have:=hx.lt;omega) i v⟩
theorem KeptP.put {base:Nat} {w W:World} (h:KeptP base w W) {b t':Nat} {cs:Array Value} (hk:W.heap[b]?=some (.cells cs t' (0,0))) (hg:base≤b) (h3:t'≠103∧t'≠28) (o:Nat) (v:Value):KeptP base w (W.setCell ⟨b,o,none⟩ v):=
  ⟨h.b.setCell (p:=⟨b,o,none⟩) hg v,fun g t l ht hx=>(h.x g t l ht hx).other ((h.x g t l ht hx).ne hk (fun e=>by rcases ht with ht | ht;exact h3.1 (e.symm.trans ht);exact h3.2 (e.symm.trans ht))) o v⟩
/-- the pager is handed back, turned in place -/
def DidP (base:Nat) (w:World) (p:Kx.Pager) (more:List Value) (en:Ending) (w':World):Prop:=
  ∃ um ui ue uc us ul up,en=.returned (.tuple (pagerV um ui ue uc us ul up p.hand p.limit :: more).toArray)∧PO w' base um ui ue uc us ul up p∧KeptP base w w'
theorem OS.setUsed {w:World} {base g n cap:Nat} {l:List Kx.Page} (h:OS pageC 3 169 w base (.slice (some ⟨g,0,none⟩) n cap) l) (hn:l.length=n) (f:Nat) (u:Bool) (hf:f<l.length) :
    OS pageC 3 169 (w.setCell ⟨g,f*3+2,none⟩ (.bool u)) base (.slice (some ⟨g,0,none⟩) n cap) (Kx.setPage l f ((Kx.pageAt l f).mark u)):=by
  subst hn;have h2:=(h.1.stored (f*3+2) (.bool u)).1;refine ⟨?_,by simpa [Kx.setPage] using h.2⟩;have e0:=flat_get (f:=pageC) (sz:=3) (fun _=>rfl) l f 0 hf (by decide);have e1:=flat_get (f:=pageC) (sz:=3) (fun _=>rfl) l f 1 hf (by decide);have ei:Kx.pageAt l f=l[f]:=by simp [Kx.pageAt,hf]
  have e2:flat pageC (Kx.setPage l f ((Kx.pageAt l f).mark u))=(flat pageC l).set (f*3+2) (.bool u):=by
    unfold Kx.setPage;rw [flat_set (sz:=3) (fun _=>rfl) l f _ hf,ei];show ((((flat pageC l).set (f*3) (.int .i64 l[f].wh)).set (f*3+1) (.int .i64 l[f].at_)).set (f*3+1+1) (.bool u))=_;rw [set_same (show (flat pageC l)[f*3]?=some (.int .i64 l[f].wh) from e0),set_same (show (flat pageC l)[f*3+1]?=some (.int .i64 l[f].at_) from e1)]
  rw [e2,show (Kx.setPage l f ((Kx.pageAt l f).mark u)).length=l.length from by simp [Kx.setPage]];exact h2
/-- a page's mark is turned in place -/
theorem PO.mark {w:World} {base g cap:Nat} {um ui ue uc us ul:Value} {p:Kx.Pager} {N:Nat} (h:PO w base um ui ue uc us ul (.slice (some ⟨g,0,none⟩) N cap) p) (hN:p.pages.length=N) (f:Nat) (u:Bool) (hf:f<p.pages.length) :
    PO (w.setCell ⟨g,f*3+2,none⟩ (.bool u)) base um ui ue uc us ul (.slice (some ⟨g,0,none⟩) N cap) { p with pages:=Kx.setPage p.pages f ((Kx.pageAt p.pages f).mark u) }∧base≤g∧(∃ cs,w.heap[g]?=some (.cells cs 169 (0,0))):=by
  obtain ⟨cs,hk⟩:=h.g.kind rfl;have hg:=grown_set1 w g (f*3+2) (.bool u);have hz:(w.setCell ⟨g,f*3+2,none⟩ (.bool u)).heap.size=w.heap.size:=by simp [World.setCell]
  obtain ⟨⟨k1,k2,k3,k4⟩,s,l,gg⟩:=h;refine ⟨⟨⟨?_,k2.keptT hg hk (by decide),?_,k4.keptT hg hk (by decide)⟩,?_,(l.os.keptT hg hk (by decide)).oi,gg.setUsed hN f u hf⟩,(gg.lt g rfl).1,cs,hk⟩
  · rw [hz];exact k1.keptT hg hk (by decide) (by decide)
  · rw [hz];exact k3.keptT hg hk (by decide) (by decide)
  · rw [hz];exact s.keptT hg hk (by decide) (by decide)
theorem victim_succ (i:Nat) (q:Kx.Pager) (n:Nat) (h:q.hand=(n:Int)):Kx.victim (i+1) q=if (Kx.pageAt q.pages n).wh=1∧(Kx.pageAt q.pages n).used=false then (Kx.pass q,(n:Int)) else Kx.victim i (Kx.unuse q):=by
  show (if (Kx.pageAt q.pages q.hand.toNat).wh=1∧(Kx.pageAt q.pages q.hand.toNat).used=false then (Kx.pass q,q.hand) else Kx.victim i (Kx.unuse q))=_
  rw [h];rfl
set_option maxHeartbeats 4000000 in
set_option maxRecDepth 100000 in
theorem l32Victim_c (p:Kx.Pager) (base:Nat) (um ui ue uc us ul up:Value) (w:World) (h:PO w base um ui ue uc us ul up p) (hbase:base≤w.heap.size) (hp16:p.pages.length=16) (hh:0≤p.hand∧p.hand≤15) :
    Calls Tryz.prog 193 #[pagerV um ui ue uc us ul up p.hand p.limit] w (DidP base w (Kx.victim 32 p).1 [.int .i64 (Kx.victim 32 p).2]):=by
  obtain ⟨⟨xm,nm,cm,rfl⟩,⟨xi,ni,ci,rfl⟩,⟨xe,ne,ce,rfl⟩,⟨xc,nc,cc,rfl⟩⟩:=h.k.sl;obtain ⟨_,xs,cs,rfl,_,_⟩:=h.s.rm.len;obtain ⟨xl,cl,rfl⟩:=h.l.ri.val;obtain ⟨gp,cp,rfl,hgp,hgp2⟩:=h.g.shape (by omega);rw [hp16] at h ⊢;unfold pagerV;obtain ⟨w0,hw0⟩:∃ w0,w.alloc (.cells #[.slice xm nm cm,.slice xi ni ci,.slice xe ne ce,.slice xc nc cc,.slice xs p.swap.length cs,.slice xl p.low.length cl,.slice (some ⟨gp,0,none⟩) 16 cp,.int .i64 p.hand,.int .i64 p.limit] 103)=w0:=⟨_,rfl⟩;obtain ⟨w1,hw1⟩:∃ w1,w0.alloc (.cells #[.slice none 0 0,.slice none 0 0,.slice none 0 0,.slice none 0 0,.slice none 0 0,.slice none 0 0,.slice none 0 0,.int .i64 0,.int .i64 0] 103)=w1:=⟨_,rfl⟩;have B0:Below w.heap.size w w0:=hw0 ▸ bL_;have B1:Below w0.heap.size w0 w1:=hw1 ▸ bL_;have bw:Below w.heap.size w w1:=B0.trans (B1.mono B0.size)
  have X1:=hI_ (show BX w1 w.heap.size 103 [.slice xm nm cm,.slice xi ni ci,.slice xe ne ce,.slice xc nc cc,.slice xs p.swap.length cs,.slice xl p.low.length cl,.slice (some ⟨gp,0,none⟩) 16 cp,.int .i64 p.hand,.int .i64 p.limit] from (hw0 ▸ BX.new w _ _:BX w0 _ _ _).below B1);have X2:=hI_ (show BX w1 w0.heap.size 103 [.slice none 0 0,.slice none 0 0,.slice none 0 0,.slice none 0 0,.slice none 0 0,.slice none 0 0,.slice none 0 0,.int .i64 0,.int .i64 0] from (hw1 ▸ BX.new w0 _ _:BX w1 _ _ _));have s0:w.heap.size<w0.heap.size:=by rw [←hw0];simp
  have s1:w0.heap.size<w1.heap.size:=by rw [←hw1];simp
  have hn21:w0.heap.size≠w.heap.size:=by omega
  have HO:=hI_ (h.below bw);have Bw:=hI_ (KeptP.of bw hbase);have Hbase:=hI_ hbase;have H16:=hI_ hp16;have Hh:=hI_ hh;clear h hbase hp16 hh B0 B1 bw hgp hgp2;go_enter Tryz.func193,Tryz.ntmps193;go_wp2_with fail;clear hw0 hw1
  go_loopw [4] (fun i wr=>∃ (j:Nat) (q:Kx.Pager),i=.int .i64 j∧j≤32∧Hid (Kx.victim 32 p=Kx.victim (32 - j) q)∧Hid (q.pages.length=16∧q.limit=p.limit)∧Hid (0≤q.hand∧q.hand≤15)∧Hid (PO wr base (.slice xm nm cm) (.slice xi ni ci) (.slice xe ne ce) (.slice xc nc cc) (.slice xs p.swap.length cs) (.slice xl p.low.length cl) (.slice (some ⟨gp,0,none⟩) 16 cp) q)∧Hid (BX wr w.heap.size 103 [.slice xm nm cm,.slice xi ni ci,.slice xe ne ce,.slice xc nc cc,.slice xs p.swap.length cs,.slice xl p.low.length cl,.slice (some ⟨gp,0,none⟩) 16 cp,.int .i64 q.hand,.int .i64 q.limit])∧Hid (BX wr w0.heap.size 103 [.slice none 0 0,.slice none 0 0,.slice none 0 0,.slice none 0 0,.slice none 0 0,.slice none 0 0,.slice none 0 0,.int .i64 0,.int .i64 0])∧Hid (KeptP base w wr)) (fun i _=>32 - (intOf i).toNat)
  case atStart=>exact ⟨0,p,rfl,Nat.zero_le _,rfl,⟨H16.out,rfl⟩,Hh.out,HO,X1,X2,Bw⟩
  case round =>
    clear HO X1 X2 Bw H16 Hh;obtain ⟨j,q,rfl,hj,HV,H16,Hh,HO,X1,X2,Bw⟩:=hrel
    by_cases hlt:j<32
    · have hlI:(j:Int)<32:=by omega
      obtain ⟨n,hn⟩:=Int.eq_ofNat_of_zero_le Hh.out.1;have hn16:n<16:=by have:=Hh.out.2;omega
      have hnI:(n:Int)<16:=by omega
      have htm:((n:Int)+1).tmod 16=((n:Int)+1) % 16:=Int.tmod_eq_emod_of_nonneg (by omega);have Hn:=hI_ hn;have HV2:=hI_ (show Kx.victim (32 - j) q=(if (Kx.pageAt q.pages n).wh=1∧(Kx.pageAt q.pages n).used=false then (Kx.pass q,(n:Int)) else Kx.victim (32 - (j+1)) (Kx.unuse q)) by
        rw [show 32 - j=(32 - (j+1))+1 by omega];exact victim_succ _ q n hn)
      have hq7:=HO.out.g.rs.at (k:=n) (by rw [H16.out.1];exact hn16);obtain ⟨b,off,cap',ev,hbl,hc⟩:=hq7;rw [H16.out.1] at ev;simp only [Value.slice.injEq,Option.some.injEq,Addr.mk.injEq] at ev;obtain ⟨⟨rfl,rfl,_⟩,_,rfl⟩:=ev;have hpa:q.pages[n]'(by rw [H16.out.1];exact hn16)=Kx.pageAt q.pages n:=by simp [Kx.pageAt,H16.out.1,hn16]
      rw [hpa] at hc;have g0:=hc 0 _ rfl;have g2:=hc 2 _ rfl;rw [Nat.zero_add,Nat.add_zero] at g0;rw [Nat.zero_add] at g2;obtain ⟨⟨_,_⟩,hfz⟩:=HO.out.g.cellAt2 n (by rw [H16.out.1];exact hn16) 2 (by decide);have hgk:=HO.out.g.kind (g:=gp) rfl;obtain ⟨csg,hgk⟩:=hgk;have hne1:w.heap.size≠gp:=X1.out.ne hgk (by decide);have hne2:w0.heap.size≠gp:=X2.out.ne hgk (by decide);rw [hn] at X1;obtain ⟨z0,z1,z2,z3,z4,z5,z6,z7,z8⟩:=X1.out.c9;have f7:=X1.out.frozen 7;have hgk2:=hI_ hgk;clear hc hgk hpa hn;go_upto_region 6 with fail;have e1:sets wr w.heap.size 7 [.int .i64 (((n:Int)+1) % 16)]=wr.setCell ⟨w.heap.size,7,none⟩ (.int .i64 (((n:Int)+1) % 16)):=rfl;have o1:=HO.out.sets X1.out (.inl rfl) 7 [.int .i64 (((n:Int)+1) % 16)];have x1:=X1.out.set 7 (.int .i64 (((n:Int)+1) % 16));have x2:=X2.out.other hn21 7 (.int .i64 (((n:Int)+1) % 16))
      have b1:=Bw.out.new ⟨Hbase.out,Nat.le_refl _⟩ [.int .i64 (((n:Int)+1) % 16)] 7;rw [e1] at o1 b1;have g0':=(World.cell?_of_block (Below.heap_setCell wr ⟨w.heap.size,7,none⟩ (.int .i64 (((n:Int)+1) % 16)) gp (Ne.symm hne1)) (a:=⟨gp,n*3,none⟩)).trans g0;have g2':=(World.cell?_of_block (Below.heap_setCell wr ⟨w.heap.size,7,none⟩ (.int .i64 (((n:Int)+1) % 16)) gp (Ne.symm hne1)) (a:=⟨gp,n*3+2,none⟩)).trans g2;have fz':=(World.frozen?_of_block (Below.heap_setCell wr ⟨w.heap.size,7,none⟩ (.int .i64 (((n:Int)+1) % 16)) gp (Ne.symm hne1)) (a:=⟨gp,n*3+2,none⟩)).trans hfz;obtain ⟨W,hW⟩:∃ V,wr.setCell ⟨w.heap.size,7,none⟩ (.int .i64 (((n:Int)+1) % 16))=V:=⟨_,rfl⟩;rw [hW] at o1 x1 x2 b1 g0' g2' fz' ⊢;replace HO:=hI_ o1;replace X1:=hI_ x1;replace X2:=hI_ x2;replace Bw:=hI_ b1;clear e1 o1 x1 x2 b1 hW g0 g2 hfz z0 z1 z2 z3 z4 z5 z6 z7 z8 f7 htm hgk2
      simp only [List.set_cons_zero,List.set_cons_succ] at X1;have Hfz:=hI_ fz';clear fz';generalize hpg:Kx.pageAt q.pages n=pg at g0' g2' HV2;obtain ⟨z0,z1,z2,z3,z4,z5,z6,z7,z8⟩:=X1.out.c9
      by_cases hhit:pg.wh=1∧pg.used=false
      · obtain ⟨h1,h2⟩:=hhit;have HF:=hI_ (show Kx.victim 32 p=(Kx.pass q,(n:Int)) by rw [HV.out,HV2.out,if_pos ⟨h1,h2⟩]);rw [h1] at g0';rw [h2] at g2';clear HV HV2 h1 h2 hpg;obtain ⟨p0,p1,p2,p3,p4,p5,p6,p7,p8⟩:=X2.out.c9;obtain ⟨f0,f1,f2,f3,f4,f5,f6,f7,f8⟩:=X2.out.f9;go_wp2_with fail;obtain ⟨F,hF⟩:∃ V,sets W w0.heap.size 0 [.slice xm nm cm,.slice xi ni ci,.slice xe ne ce,.slice xc nc cc,.slice xs p.swap.length cs,.slice xl p.low.length cl,.slice (some ⟨gp,0,none⟩) 16 cp,.int .i64 (((n:Int)+1) % 16),.int .i64 q.limit]=V:=⟨_,rfl⟩
        rw [show (((((((((W.setCell ⟨w0.heap.size,0,none⟩ (.slice xm nm cm)).setCell ⟨w0.heap.size,1,none⟩ (.slice xi ni ci)).setCell ⟨w0.heap.size,2,none⟩ (.slice xe ne ce)).setCell ⟨w0.heap.size,3,none⟩ (.slice xc nc cc)).setCell ⟨w0.heap.size,4,none⟩ (.slice xs p.swap.length cs)).setCell ⟨w0.heap.size,5,none⟩ (.slice xl p.low.length cl)).setCell ⟨w0.heap.size,6,none⟩ (.slice (some ⟨gp,0,none⟩) 16 cp)).setCell ⟨w0.heap.size,7,none⟩ (.int .i64 (((n:Int)+1) % 16))).setCell ⟨w0.heap.size,8,none⟩ (.int .i64 q.limit))=F from hF];have x2:=X2.out.sets [.slice xm nm cm,.slice xi ni ci,.slice xe ne ce,.slice xc nc cc,.slice xs p.swap.length cs,.slice xl p.low.length cl,.slice (some ⟨gp,0,none⟩) 16 cp,.int .i64 (((n:Int)+1) % 16),.int .i64 q.limit] rfl
        have p1:=HO.out.sets X2.out (.inl rfl) 0 [.slice xm nm cm,.slice xi ni ci,.slice xe ne ce,.slice xc nc cc,.slice xs p.swap.length cs,.slice xl p.low.length cl,.slice (some ⟨gp,0,none⟩) 16 cp,.int .i64 (((n:Int)+1) % 16),.int .i64 q.limit];have b1:=Bw.out.new (show base≤w0.heap.size∧w.heap.size≤w0.heap.size by have:=Hbase.out;omega) [.slice xm nm cm,.slice xi ni ci,.slice xe ne ce,.slice xc nc cc,.slice xs p.swap.length cs,.slice xl p.low.length cl,.slice (some ⟨gp,0,none⟩) 16 cp,.int .i64 (((n:Int)+1) % 16),.int .i64 q.limit] 0;rw [hF] at x2 p1 b1;obtain ⟨e0,e1,e2,e3,e4,e5,e6,e7,e8⟩:=x2.c9
        refine bodyPost_ret (v:=.tuple #[.agg #[.slice xm nm cm,.slice xi ni ci,.slice xe ne ce,.slice xc nc cc,.slice xs p.swap.length cs,.slice xl p.low.length cl,.slice (some ⟨gp,0,none⟩) 16 cp,.int .i64 (((n:Int)+1) % 16),.int .i64 q.limit],.int .i64 (n:Int)]) (by simp [results,Tryz.results193,go_sem,e0,e1,e2,e3,e4,e5,e6,e7,e8]) rfl ?_;rw [HF.out];have hn:=Hn.out;exact ⟨_,_,_,_,_,_,_,by unfold Kx.pass;rw [hn];rfl,⟨p1.k,p1.s,p1.l,p1.g⟩,b1⟩
      · have HF:=hI_ (show Kx.victim 32 p=Kx.victim (32 - (j+1)) (Kx.unuse q) by rw [HV.out,HV2.out,if_neg hhit]);obtain ⟨o1,hgb,csg2,hk⟩:=HO.out.mark H16.out.1 n false (by rw [H16.out.1];exact hn16);have x1:=X1.out.other hne1 (n*3+2) (.bool false);have x2:=X2.out.other hne2 (n*3+2) (.bool false);have b1:=Bw.out.put hk hgb (by decide) (n*3+2) (.bool false);have fz:=Hfz.out;have Hun:=hI_ (show (Kx.unuse q).hand=((n:Int)+1) % 16∧(Kx.unuse q).limit=q.limit∧(Kx.unuse q).pages.length=16∧PO (W.setCell ⟨gp,n*3+2,none⟩ (.bool false)) base (.slice xm nm cm) (.slice xi ni ci) (.slice xe ne ce) (.slice xc nc cc) (.slice xs p.swap.length cs) (.slice xl p.low.length cl) (.slice (some ⟨gp,0,none⟩) 16 cp) (Kx.unuse q) from by
          have hn:=Hn.out;refine ⟨by show (q.hand+1) % 16=_;rw [hn],rfl,by show (Kx.setPage _ _ _).length=16;rw [Kx.setPage_length];exact H16.out.1,?_⟩;have e:Kx.unuse q={ q with hand:=(q.hand+1) % 16,pages:=Kx.setPage q.pages n ((Kx.pageAt q.pages n).mark false) }:=by unfold Kx.unuse;rw [hn];rfl
          rw [e];exact ⟨o1.k,o1.s,o1.l,o1.g⟩)
        have HX1:=hI_ x1;have HX2:=hI_ x2;have HB1:=hI_ b1;clear o1 x1 x2 b1 hk hgb HV HV2
        have Hrel:=hI_ (show Kx.victim 32 p=Kx.victim (32 - (j+1)) (Kx.unuse q)∧((Kx.unuse q).pages.length=16∧(Kx.unuse q).limit=p.limit)∧(0≤(Kx.unuse q).hand∧(Kx.unuse q).hand≤15)∧PO (W.setCell ⟨gp,n*3+2,none⟩ (.bool false)) base (.slice xm nm cm) (.slice xi ni ci) (.slice xe ne ce) (.slice xc nc cc) (.slice xs p.swap.length cs) (.slice xl p.low.length cl) (.slice (some ⟨gp,0,none⟩) 16 cp) (Kx.unuse q)∧BX (W.setCell ⟨gp,n*3+2,none⟩ (.bool false)) w.heap.size 103 [.slice xm nm cm,.slice xi ni ci,.slice xe ne ce,.slice xc nc cc,.slice xs p.swap.length cs,.slice xl p.low.length cl,.slice (some ⟨gp,0,none⟩) 16 cp,.int .i64 (Kx.unuse q).hand,.int .i64 (Kx.unuse q).limit]∧BX (W.setCell ⟨gp,n*3+2,none⟩ (.bool false)) w0.heap.size 103 [.slice none 0 0,.slice none 0 0,.slice none 0 0,.slice none 0 0,.slice none 0 0,.slice none 0 0,.slice none 0 0,.int .i64 0,.int .i64 0]∧KeptP base w (W.setCell ⟨gp,n*3+2,none⟩ (.bool false)) from ⟨HF.out,⟨Hun.out.2.2.1,Hun.out.2.1.trans H16.out.2⟩,by rw [Hun.out.1];omega,Hun.out.2.2.2,by rw [Hun.out.1,Hun.out.2.1];exact HX1.out,HX2.out,HB1.out⟩)
        clear HF Hun HX1 HX2 HB1
        by_cases hw:pg.wh=1
        · have hu:pg.used=true:=by
            cases hu:pg.used with
            | true=>rfl
            | false=>exact absurd ⟨hw,hu⟩ hhit
          rw [hw] at g0';rw [hu] at g2';clear hhit hw hu hpg;go_wp2_with fail;go_roundw
          case rel=>exact ⟨j+1,Kx.unuse q,by go_num,by omega,Hrel.out.1,Hrel.out.2.1,Hrel.out.2.2.1,Hrel.out.2.2.2.1,Hrel.out.2.2.2.2.1,Hrel.out.2.2.2.2.2.1,Hrel.out.2.2.2.2.2.2⟩
          case measure=>simp [intOf];omega
        · have hwb:(pg.wh==1)=false:=by simpa using hw
          clear hhit hw hpg;go_wp2_with fail;go_roundw
          case rel=>exact ⟨j+1,Kx.unuse q,by go_num,by omega,Hrel.out.1,Hrel.out.2.1,Hrel.out.2.2.1,Hrel.out.2.2.2.1,Hrel.out.2.2.2.2.1,Hrel.out.2.2.2.2.2.1,Hrel.out.2.2.2.2.2.2⟩
          case measure=>simp [intOf];omega
    · have HF:=hI_ (show Kx.victim 32 p=(q,-1) by rw [HV.out,show 32 - j=0 by omega];rfl);obtain ⟨z0,z1,z2,z3,z4,z5,z6,z7,z8⟩:=X1.out.c9;obtain ⟨p0,p1,p2,p3,p4,p5,p6,p7,p8⟩:=X2.out.c9;obtain ⟨f0,f1,f2,f3,f4,f5,f6,f7,f8⟩:=X2.out.f9;clear HV;go_wp2_with fail;obtain ⟨F,hF⟩:∃ V,sets wr w0.heap.size 0 [.slice xm nm cm,.slice xi ni ci,.slice xe ne ce,.slice xc nc cc,.slice xs p.swap.length cs,.slice xl p.low.length cl,.slice (some ⟨gp,0,none⟩) 16 cp,.int .i64 q.hand,.int .i64 q.limit]=V:=⟨_,rfl⟩
      rw [show (((((((((wr.setCell ⟨w0.heap.size,0,none⟩ (.slice xm nm cm)).setCell ⟨w0.heap.size,1,none⟩ (.slice xi ni ci)).setCell ⟨w0.heap.size,2,none⟩ (.slice xe ne ce)).setCell ⟨w0.heap.size,3,none⟩ (.slice xc nc cc)).setCell ⟨w0.heap.size,4,none⟩ (.slice xs p.swap.length cs)).setCell ⟨w0.heap.size,5,none⟩ (.slice xl p.low.length cl)).setCell ⟨w0.heap.size,6,none⟩ (.slice (some ⟨gp,0,none⟩) 16 cp)).setCell ⟨w0.heap.size,7,none⟩ (.int .i64 q.hand)).setCell ⟨w0.heap.size,8,none⟩ (.int .i64 q.limit))=F from hF];have x2:=X2.out.sets [.slice xm nm cm,.slice xi ni ci,.slice xe ne ce,.slice xc nc cc,.slice xs p.swap.length cs,.slice xl p.low.length cl,.slice (some ⟨gp,0,none⟩) 16 cp,.int .i64 q.hand,.int .i64 q.limit] rfl
      have p1:=HO.out.sets X2.out (.inl rfl) 0 [.slice xm nm cm,.slice xi ni ci,.slice xe ne ce,.slice xc nc cc,.slice xs p.swap.length cs,.slice xl p.low.length cl,.slice (some ⟨gp,0,none⟩) 16 cp,.int .i64 q.hand,.int .i64 q.limit];have b1:=Bw.out.new (show base≤w0.heap.size∧w.heap.size≤w0.heap.size by have:=Hbase.out;omega) [.slice xm nm cm,.slice xi ni ci,.slice xe ne ce,.slice xc nc cc,.slice xs p.swap.length cs,.slice xl p.low.length cl,.slice (some ⟨gp,0,none⟩) 16 cp,.int .i64 q.hand,.int .i64 q.limit] 0;rw [hF] at x2 p1 b1;obtain ⟨e0,e1,e2,e3,e4,e5,e6,e7,e8⟩:=x2.c9;refine bodyPost_ret (v:=.tuple #[.agg #[.slice xm nm cm,.slice xi ni ci,.slice xe ne ce,.slice xc nc cc,.slice xs p.swap.length cs,.slice xl p.low.length cl,.slice (some ⟨gp,0,none⟩) 16 cp,.int .i64 q.hand,.int .i64 q.limit],.int .i64 (-1)]) (by simp [results,Tryz.results193,go_sem,e0,e1,e2,e3,e4,e5,e6,e7,e8]) rfl ?_
      rw [HF.out];exact ⟨_,_,_,_,_,_,_,rfl,p1,b1⟩
end Go.Proofs.YtenebmeaoidnoaaGreatDoor
