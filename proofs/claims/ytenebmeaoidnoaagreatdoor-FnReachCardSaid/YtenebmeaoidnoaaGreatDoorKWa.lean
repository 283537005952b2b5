/- KW13, KW14, KW15, KW16, KW17, joined. -/
import Derived.Test.YtenebmeaoidnoaaGreatDoorKW12
import Derived.Test.YtenebmeaoidnoaaGreatDoorKY
namespace Go.Proofs.YtenebmeaoidnoaaGreatDoor
open Go.RowKit
/-- the i-th translation is that of the tables -/
def tOk (k:Kx.Kernel) (i:Nat):Bool:=Kx.cachedTrue k (k.cache.getD i Kx.Cached.zero)
theorem tOk_all (k:Kx.Kernel):Kx.cacheTrue k=(List.range k.cache.length).all (tOk k):=by
  unfold Kx.cacheTrue;rw [Bool.eq_iff_iff,List.all_eq_true,List.all_eq_true];constructor
  · intro h i hi;have hi:i<k.cache.length:=by simpa using hi
    have e:k.cache.getD i Kx.Cached.zero=k.cache[i]:=by simp [hi]
    unfold tOk;rw [e];exact h _ (List.getElem_mem hi)
  · intro h x hx;obtain ⟨i,hi,rfl⟩:=List.getElem_of_mem hx;have:=h i (by simpa using hi);have e:k.cache.getD i Kx.Cached.zero=k.cache[i]:=by simp [hi]
    unfold tOk at this;rwa [e] at this
theorem cachedOk_iff {x:Kx.Cached}:Kx.cachedOk x=true↔(0≤x.env∧x.env≤2)∧(0≤x.page∧x.page≤15)∧(0≤x.frame∧x.frame≤11):=by
  unfold Kx.cachedOk;rw [Bool.and_eq_true,Bool.and_eq_true,Kx.inR_true,Kx.inR_true,Kx.inR_true];constructor
  · rintro ⟨⟨a,b⟩,c⟩;exact ⟨a,b,c⟩
  · rintro ⟨a,b,c⟩;exact ⟨⟨a,b⟩,c⟩
theorem cacheOk_at {c:List Kx.Cached} (h:Kx.cacheOk c=true) {i:Nat} (hi:i<c.length):Kx.cachedOk (c.getD i Kx.Cached.zero)=true:=by
  rw [cacheOk_all,Bool.and_eq_true,List.all_eq_true] at h;have:=h.1 i (by simpa using hi);unfold cOk at this;rw [Bool.and_eq_true] at this;exact this.1
theorem beq_not1 {a b:Bool} (h:(a==b)=false):(!a==b)=true:=by cases a <;> cases b <;> simp_all
theorem beq_not2 {a b:Bool} (h:(a==b)=true):(!a==b)=false:=by cases a <;> cases b <;> simp_all
theorem Box3.new (w:World) (v0 v1 v2:Value) (e:TypeId):(w.alloc (.cells #[v0,v1,v2] e)).cell? ⟨w.heap.size,0,none⟩=some v0∧(w.alloc (.cells #[v0,v1,v2] e)).cell? ⟨w.heap.size,1,none⟩=some v1∧(w.alloc (.cells #[v0,v1,v2] e)).cell? ⟨w.heap.size,2,none⟩=some v2:=by
  have h:(w.alloc (.cells #[v0,v1,v2] e)).heap[w.heap.size]?=some (.cells #[v0,v1,v2] e (0,0)):=heap_alloc_new w _;exact ⟨cell_of_row _ _ 0 _ _ _ h,cell_of_row _ _ 1 _ _ _ h,cell_of_row _ _ 2 _ _ _ h⟩
set_option maxHeartbeats 4000000 in
theorem l21Cache_c (k:Kx.Kernel) (vm vi ve vc:Value) (w:World) (h:RK w vm vi ve vc k) (hmo:Kx.memOk k.mem=true) (hen:k.envs.length=3) (hco:Kx.cacheOk k.cache=true) (hro:∀ e,e<k.envs.length→(Kx.envAt k.envs e).root≤11) :
    Calls Tryz.prog 50 #[.agg #[vm,vi,ve,vc]] w fun e w'=>e=.returned (.bool (Kx.cacheTrue k))∧Below w.heap.size w w':=by
  obtain ⟨w0,hw0⟩:∃ w0,w.alloc (.cells #[vm,vi,ve,vc] 28)=w0:=⟨_,rfl⟩;have Hw0:=hI_ (show Below w.heap.size w w0 from hw0 ▸ (Below.refl w.heap.size w).alloc nR_ _);have Hbx:=hI_ (show Box4 w0 w.heap.size vm vi ve vc from hw0 ▸ Box4.new w vm vi ve vc _);have HK:=hI_ (h.below Hw0.out);obtain ⟨_,ae,ce,rfl,_,_⟩:=h.e.len;obtain ⟨ac,cc,rfl,_,_⟩:=RS.val h.c;have hcl:=h.c.1;have Hen:=hI_ hen;have Hmo:=hI_ hmo;have Hco:=hI_ hco;have Hro:=hI_ hro;clear h hen hmo hco hro;go_enter Tryz.func50,Tryz.ntmps50;go_wp2_with fail;clear hw0;go_loopw [3] (fun i wr=>∃ q:Nat,i=.int .i64 q∧q≤k.cache.length∧Hid (∀ j,j<q→tOk k j=true)∧Hid (Below w0.heap.size w0 wr)) (fun i _=>k.cache.length - (intOf i).toNat)
  case atStart=>exact ⟨0,rfl,Nat.zero_le _,fun j hj=>absurd hj (Nat.not_lt_zero _),Below.refl _ _⟩
  case round =>
    obtain ⟨q,rfl,hq,hall,hb⟩:=hrel
    by_cases hlt:q<k.cache.length
    · obtain ⟨k0,k1,k2,k3,hbl⟩:=Hbx.out.below hb.out;obtain ⟨b,off,cap,ev,hbb,h1,h2,h3,h4⟩:=RCached.at (RS.below HK.out.c hb.out) hlt;simp only [Value.slice.injEq] at ev;obtain ⟨rfl,_,rfl⟩:=ev;have hlI:(q:Int)<(k.cache.length:Int):=by omega
      have HB:=hI_ (show tOk k q=false→Kx.cacheTrue k=false from fun h=>by
        rw [tOk_all,List.all_eq_false];exact ⟨q,by simpa using hlt,by rw [h];simp⟩)
      have HN:=hI_ (show tOk k q=true→∀ j,j<q+1→tOk k j=true from fun h=>scan_step hall.out h);have Hok:=hI_ (show tOk k q=Kx.cachedTrue k (k.cache.getD q Kx.Cached.zero) from rfl);have hxo:=cachedOk_iff.1 (cacheOk_at Hco.out hlt);generalize k.cache.getD q Kx.Cached.zero=x at h1 h2 h3 h4 Hok hxo;obtain ⟨xe,xp,xf,xw⟩:=x;obtain ⟨⟨he0,he2⟩,⟨hp0,hp15⟩,_⟩:=hxo;dsimp only at h1 h2 h3 h4 he0 he2 hp0 hp15;obtain ⟨e0,rfl⟩:=Int.eq_ofNat_of_zero_le he0;obtain ⟨p0,rfl⟩:=Int.eq_ofNat_of_zero_le hp0;have he3:e0<k.envs.length:=by rw [Hen.out];omega
      have heI:(e0:Int)<(k.envs.length:Int):=by omega
      obtain ⟨b2,off2,cap2,u2,ev,hb2,_,h6,_⟩:=(HK.out.e.below hb.out).at he3;simp only [Value.slice.injEq] at ev;obtain ⟨rfl,_,rfl⟩:=ev;have Hr11:=hI_ (Hro.out e0 he3);have hok2:tOk k q=(!decide ((Kx.envAt k.envs e0).root<0)&&((Kx.walk k.mem (Kx.envAt k.envs e0).root.toNat (4*p0)).2==0&&(Kx.walk k.mem (Kx.envAt k.envs e0).root.toNat (4*p0)).1.1==xf&&(Kx.walk k.mem (Kx.envAt k.envs e0).root.toNat (4*p0)).1.2.2==xw)):=Hok.out;have Hok:=hI_ hok2;generalize (Kx.envAt k.envs e0).root=r at h6 Hok Hr11;obtain ⟨W1,hW1⟩:∃ W1,wr.alloc (.cells #[.int .i64 e0,.int .i64 p0,.int .i64 xf,.bool xw] 33)=W1:=⟨_,rfl⟩;have B1:=hI_ (show Below wr.heap.size wr W1 from hW1 ▸ bL_);have Bx:=hI_ (show Box4 W1 wr.heap.size (.int .i64 e0) (.int .i64 p0) (.int .i64 xf) (.bool xw) from hW1 ▸ Box4.new wr _ _ _ _ 33);have B01:=hI_ (hb.out.trans (B1.out.mono hb.out.size));have M1:=hI_ (HK.out.m.below B01.out)
      have Hbx1:=hI_ (Hbx.out.below B01.out);obtain ⟨c0,c1,c2,c3,_⟩:=Bx.out;obtain ⟨m0,m1,m2,m3,_⟩:=Hbx1.out;have n6:W1.cell? ⟨b2,off2+e0*2+1,none⟩=some (.int .i64 r):=(B1.out.cell (p:=⟨b2,off2+e0*2+1,none⟩) hb2).trans h6;clear hbl hbb hb2 hok2 he0 he2 hp0 h6
      by_cases hneg:r<0
      · have HF:=hI_ (HB.out (by rw [Hok.out,show decide (r<0)=true from by simpa using hneg];rfl));clear HB HN Hok;go_wp2_with fail;go_ret;exact ⟨ret_bool HF.out.symm,Hw0.out.trans (B01.out.mono Hw0.out.size)⟩
      · obtain ⟨x0,rfl⟩:=Int.eq_ofNat_of_zero_le (Int.not_lt.1 hneg);have Hwk:=hI_ (show Calls Tryz.prog 59 #[vm,.int .i64 (x0:Int),.int .i64 (4*(p0:Int))] W1 _ from by
          rw [show (4*(p0:Int))=((4*p0:Nat):Int) from by omega];exact l3Walk_c k.mem x0 (4*p0) vm W1 M1.out Hmo.out (by have:=Hr11.out;omega) (by omega))
        rw [Int.toNat_natCast,show decide ((x0:Int)<0)=false from by simp,Bool.not_false,Bool.true_and] at Hok;clear hneg;go_wp2_with fail;refine Hwk.out.mono ?_;rintro e w2 ⟨rfl,hb2⟩;have Bx2:=hI_ (Bx.out.below hb2);have Hb2:=hI_ (B01.out.trans (hb2.mono B01.out.size));clear hb2 Hwk c0 c1 c2 c3 m0 m1 m2 m3 k0 k1 k2 k3 n6 h1 h2 h3 h4;generalize Kx.walk k.mem x0 (4*p0)=res at Hok;obtain ⟨⟨f,a,wt⟩,code⟩:=res;dsimp only at Hok;unfold walkV;dsimp only;obtain ⟨W3,hW3⟩:∃ W3,w2.alloc (.cells #[.int .i64 f,.int .i64 a,.bool wt] 35)=W3:=⟨_,rfl⟩;have B3:=hI_ (show Below w2.heap.size w2 W3 from hW3 ▸ bL_);obtain ⟨p1,p2,p3⟩:=(show W3.cell? ⟨w2.heap.size,0,none⟩=some (.int .i64 f)∧W3.cell? ⟨w2.heap.size,1,none⟩=some (.int .i64 a)∧W3.cell? ⟨w2.heap.size,2,none⟩=some (.bool wt) from hW3 ▸ Box3.new w2 _ _ _ 35);obtain ⟨c0,c1,c2,c3,_⟩:=Bx2.out.below B3.out;have Hb3:=hI_ (Hb2.out.trans (B3.out.mono Hb2.out.size))
        cases hz:code==0 with
        | false =>
          have HF:=hI_ (HB.out (by rw [Hok.out,hz];rfl));have hz2:(code != 0)=true:=by simpa using hz
          clear HB HN Hok hz;go_wp2_with fail;go_ret;exact ⟨ret_bool HF.out.symm,Hw0.out.trans (Hb3.out.mono Hw0.out.size)⟩
        | true =>
          have hz2:code=0:=by simpa using hz
          subst hz2;clear hz
          cases hfz:f==xf with
          | false =>
            have HF:=hI_ (HB.out (by rw [Hok.out,hfz];rfl));have hz2:(f != xf)=true:=by simpa using hfz
            clear HB HN Hok hfz;go_wp2_with fail;go_ret;exact ⟨ret_bool HF.out.symm,Hw0.out.trans (Hb3.out.mono Hw0.out.size)⟩
          | true =>
            have hz2:(f != xf)=false:=by simpa using hfz
            cases hwz:wt==xw with
            | false =>
              have HF:=hI_ (HB.out (by rw [Hok.out,hwz,Bool.and_false]));have hz3:(!wt==xw)=true:=beq_not1 hwz;clear HB HN Hok hfz hwz;go_wp2_with fail;go_ret;exact ⟨ret_bool HF.out.symm,Hw0.out.trans (Hb3.out.mono Hw0.out.size)⟩
            | true =>
              have HN2:=hI_ (HN.out (by rw [Hok.out,hfz,hwz];rfl));have hz3:(!wt==xw)=false:=beq_not2 hwz;clear HB HN Hok hfz hwz;go_wp2_with fail;go_roundw
              case rel=>exact ⟨q+1,by go_num,by omega,HN2.out,Hb3.out⟩
              case measure=>simp [intOf];omega
    · have HF:=hI_ (show Kx.cacheTrue k=true by
        rw [tOk_all, List.all_eq_true]; exact fun j hj => hall.out j (by have : j < k.cache.length := by simpa using hj
                                                                         omega))
      obtain ⟨k0,k1,k2,k3,hbl⟩:=Hbx.out.below hb.out;go_wp2_with fail;go_ret;exact ⟨ret_bool HF.out.symm,Hw0.out.trans (hb.out.mono Hw0.out.size)⟩
/-- what is said of the texts that a kernel holds: their lengths are Go's -/
def SaneK (k:Kx.Kernel):Prop:=SaneI k.infos∧SaneE k.envs
set_option maxHeartbeats 4000000 in
theorem specKernelValid_c (k:Kx.Kernel) (vm vi ve vc:Value) (w:World) (h:RK w vm vi ve vc k) (hs:SaneK k) :
    Calls Tryz.prog 13 #[.agg #[vm,vi,ve,vc]] w fun e w'=>e=.returned (.bool (Kx.kernelOk k))∧Below w.heap.size w w':=by
  obtain ⟨w0,hw0⟩:∃ w0,w.alloc (.cells #[vm,vi,ve,vc] 28)=w0:=⟨_,rfl⟩;have Hw0:=hI_ (show Below w.heap.size w w0 from hw0 ▸ (Below.refl w.heap.size w).alloc nR_ _);have Hbx:=hI_ (show Box4 w0 w.heap.size vm vi ve vc from hw0 ▸ Box4.new w vm vi ve vc _);have HK:=hI_ (h.below Hw0.out);have Hs:=hI_ hs;have HV:=hI_ (show Kx.kernelOk k=(Kx.memOk k.mem&&Kx.infosOk k.infos&&Kx.cacheOk k.cache&&Kx.envsOk k&&Kx.tabsOk k&&Kx.refsOk k&&Kx.cacheTrue k) from rfl);obtain ⟨k0,k1,k2,k3,hbl⟩:=Hbx.out;clear h hs hbl;go_enter Tryz.func13,Tryz.ntmps13;go_wp2_with fail;clear hw0;refine (specMemoryValid_c k.mem _ _ HK.out.m).mono ?_;rintro e w1 ⟨rfl,rfl⟩
  cases hm:Kx.memOk k.mem
  · have HF:=hI_ (show Kx.kernelOk k=false by rw [HV.out,hm];rfl);clear hm HV;go_wp2_with fail;go_ret;exact ⟨ret_bool HF.out.symm,Hw0.out⟩
  have Hm:=hI_ hm;clear hm;go_wp2_with fail;refine (specInfosValid_c k.infos _ _ HK.out.i Hs.out.1).mono ?_;rintro e w1 ⟨rfl,hb1⟩;have B1:=hI_ hb1;clear hb1;obtain ⟨a0,a1,a2,a3,_⟩:=Hbx.out.below B1.out;clear k0 k1 k2 k3
  cases hm:Kx.infosOk k.infos
  · have HF:=hI_ (show Kx.kernelOk k=false by rw [HV.out,hm];simp);clear hm HV;go_wp2_with fail;go_ret;exact ⟨ret_bool HF.out.symm,Hw0.out.trans (B1.out.mono Hw0.out.size)⟩
  have Hi:=hI_ hm;clear hm;have Hil:=hI_ (show k.infos.length=12 by have:=Hi.out;unfold Kx.infosOk at this;simp only [Bool.and_eq_true] at this;simpa using this.2);go_wp2_with fail;refine (specCacheValid_c k.cache _ _ (RS.below HK.out.c B1.out)).mono ?_;rintro e w2 ⟨rfl,hb2⟩;have B2:=hI_ (B1.out.trans (hb2.mono B1.out.size));clear hb2;obtain ⟨k0,k1,k2,k3,_⟩:=Hbx.out.below B2.out;clear a0 a1 a2 a3
  cases hm:Kx.cacheOk k.cache
  · have HF:=hI_ (show Kx.kernelOk k=false by rw [HV.out,hm];simp);clear hm HV;go_wp2_with fail;go_ret;exact ⟨ret_bool HF.out.symm,Hw0.out.trans (B2.out.mono Hw0.out.size)⟩
  have Hc:=hI_ hm;clear hm;go_wp2_with fail;refine (l21Envs_c k vm vi ve vc _ (HK.out.below B2.out) Hm.out Hil.out Hs.out.2).mono ?_;rintro e w3 ⟨rfl,hb3⟩;have B3:=hI_ (B2.out.trans (hb3.mono B2.out.size));clear hb3;obtain ⟨a0,a1,a2,a3,_⟩:=Hbx.out.below B3.out;clear k0 k1 k2 k3
  cases hm:Kx.envsOk k
  · have HF:=hI_ (show Kx.kernelOk k=false by rw [HV.out,hm];simp);clear hm HV;go_wp2_with fail;go_ret;exact ⟨ret_bool HF.out.symm,Hw0.out.trans (B3.out.mono Hw0.out.size)⟩
  have Hel:=hI_ (show k.envs.length=3 by have:=hm;unfold Kx.envsOk at this;simp only [Bool.and_eq_true] at this;simpa using this.2);have Hro:=hI_ (show ∀ e,e<k.envs.length→(Kx.envAt k.envs e).root≤11 from fun e he=>by
    have:=hm
    unfold Kx.envsOk at this;rw [eOk_all] at this;simp only [Bool.and_eq_true,List.all_eq_true] at this;have h2:=this.1 e (by simpa using he);unfold eOk Kx.envOk at h2;simp only [Bool.and_eq_true] at h2;exact (Kx.inR_true.1 h2.1.1.2).2)
  have He:=hI_ hm;clear hm;go_wp2_with fail;refine (l21Tables_c k vm vi ve vc _ (HK.out.below B3.out) Hm.out Hil.out).mono ?_;rintro e w4 ⟨rfl,hb4⟩;have B4:=hI_ (B3.out.trans (hb4.mono B3.out.size));clear hb4;obtain ⟨k0,k1,k2,k3,_⟩:=Hbx.out.below B4.out;clear a0 a1 a2 a3
  cases hm:Kx.tabsOk k
  · have HF:=hI_ (show Kx.kernelOk k=false by rw [HV.out,hm];simp);clear hm HV;go_wp2_with fail;go_ret;exact ⟨ret_bool HF.out.symm,Hw0.out.trans (B4.out.mono Hw0.out.size)⟩
  have Ht:=hI_ hm;clear hm;go_wp2_with fail;refine (l21Refs_c k vm vi ve vc _ (HK.out.below B4.out) Hm.out Hil.out (by rw [Hel.out];omega) Hro.out).mono ?_;rintro e w5 ⟨rfl,hb5⟩;have B5:=hI_ (B4.out.trans (hb5.mono B4.out.size));clear hb5;obtain ⟨a0,a1,a2,a3,_⟩:=Hbx.out.below B5.out;clear k0 k1 k2 k3
  cases hm:Kx.refsOk k
  · have HF:=hI_ (show Kx.kernelOk k=false by rw [HV.out,hm];simp);clear hm HV;go_wp2_with fail;go_ret;exact ⟨ret_bool HF.out.symm,Hw0.out.trans (B5.out.mono Hw0.out.size)⟩
  have HF:=hI_ (show Kx.kernelOk k=Kx.cacheTrue k by rw [HV.out,Hm.out,Hi.out,Hc.out,He.out,Ht.out,hm];rfl);clear hm HV;go_wp2_with fail;refine (l21Cache_c k vm vi ve vc _ (HK.out.below B5.out) Hm.out Hel.out Hc.out Hro.out).mono ?_;rintro e w6 ⟨rfl,hb6⟩;have B6:=hI_ (B5.out.trans (hb6.mono B5.out.size));clear hb6 a0 a1 a2 a3;go_wp2_with fail;go_ret;exact ⟨ret_bool HF.out.symm,Hw0.out.trans (B6.out.mono Hw0.out.size)⟩
structure RP (w:World) (vm vi ve vc vs vl vp:Value) (p:Kx.Pager):Prop where
  k:RK w vm vi ve vc p.k
  s:RM w vs p.swap
  l:RI w vl p.low
  g:RPage w vp p.pages
theorem RP.below {w w':World} {vm vi ve vc vs vl vp:Value} {p:Kx.Pager} (h:RP w vm vi ve vc vs vl vp p) (hb:Below w.heap.size w w'):RP w' vm vi ve vc vs vl vp p:=
  ⟨h.k.below hb,h.s.below hb,h.l.below hb,RS.below h.g hb⟩
/-- the value of a pager -/
def pagerV (vm vi ve vc vs vl vp:Value) (hand limit:Int):Value:=.agg #[vm,vi,ve,vc,vs,vl,vp,.int .i64 hand,.int .i64 limit]
/-- a box of a pager -/
def BoxP (w:World) (b:Nat) (vm vi ve vc vs vl vp:Value) (hand limit:Int):Prop:=
  (w.cell? ⟨b,0,none⟩=some vm∧w.cell? ⟨b,1,none⟩=some vi∧w.cell? ⟨b,2,none⟩=some ve∧w.cell? ⟨b,3,none⟩=some vc) ∧
  (w.cell? ⟨b,4,none⟩=some vs∧w.cell? ⟨b,5,none⟩=some vl∧w.cell? ⟨b,6,none⟩=some vp∧w.cell? ⟨b,7,none⟩=some (.int .i64 hand)∧w.cell? ⟨b,8,none⟩=some (.int .i64 limit))∧b<w.heap.size
theorem BoxP.new (w:World) (vm vi ve vc vs vl vp:Value) (hand limit:Int) (e:TypeId):BoxP (w.alloc (.cells #[vm,vi,ve,vc,vs,vl,vp,.int .i64 hand,.int .i64 limit] e)) w.heap.size vm vi ve vc vs vl vp hand limit:=by
  have h:(w.alloc (.cells #[vm,vi,ve,vc,vs,vl,vp,.int .i64 hand,.int .i64 limit] e)).heap[w.heap.size]?=some (.cells #[vm,vi,ve,vc,vs,vl,vp,.int .i64 hand,.int .i64 limit] e (0,0)):=heap_alloc_new w _;exact ⟨⟨cell_of_row _ _ 0 _ _ _ h,cell_of_row _ _ 1 _ _ _ h,cell_of_row _ _ 2 _ _ _ h,cell_of_row _ _ 3 _ _ _ h⟩,⟨cell_of_row _ _ 4 _ _ _ h,cell_of_row _ _ 5 _ _ _ h,cell_of_row _ _ 6 _ _ _ h,cell_of_row _ _ 7 _ _ _ h,cell_of_row _ _ 8 _ _ _ h⟩,by simp⟩
theorem BoxP.below {w w':World} {b:Nat} {vm vi ve vc vs vl vp:Value} {hand limit:Int} (h:BoxP w b vm vi ve vc vs vl vp hand limit) (hb:Below w.heap.size w w'):BoxP w' b vm vi ve vc vs vl vp hand limit:=
  have g {i:Nat} {v:Value} (hc:w.cell? ⟨b,i,none⟩=some v):w'.cell? ⟨b,i,none⟩=some v:=(hb.cell (p:=⟨b,i,none⟩) h.2.2).trans hc
  ⟨⟨g h.1.1,g h.1.2.1,g h.1.2.2.1,g h.1.2.2.2⟩,⟨g h.2.1.1,g h.2.1.2.1,g h.2.1.2.2.1,g h.2.1.2.2.2.1,g h.2.1.2.2.2.2⟩,Nat.lt_of_lt_of_le h.2.2 hb.size⟩
/-- a place of the swap is free or holds the words of a frame -/
def sOk (s:List (List Int)) (j:Nat):Bool:=(Kx.row s j).isEmpty||Kx.wordsOk (Kx.row s j)
theorem sOk_all (s:List (List Int)):Kx.swapOk s=((List.range s.length).all (sOk s)&&s.length==16):=by
  unfold Kx.swapOk;congr 1;rw [Bool.eq_iff_iff,List.all_eq_true,List.all_eq_true];constructor
  · intro h i hi;have hi:i<s.length:=by simpa using hi
    have e:Kx.row s i=s[i]:=by simp [Kx.row,hi]
    unfold sOk;rw [e];exact h _ (List.getElem_mem hi)
  · intro h x hx;obtain ⟨i,hi,rfl⟩:=List.getElem_of_mem hx;have:=h i (by simpa using hi);have e:Kx.row s i=s[i]:=by simp [Kx.row,hi]
    unfold sOk at this;rwa [e] at this
set_option maxHeartbeats 1000000 in
theorem specSwapValid_c (s:List (List Int)) (v:Value) (w:World) (h:RM w v s) :
    Calls Tryz.prog 166 #[v] w fun e w'=>e=.returned (.bool (Kx.swapOk s))∧w=w':=by
  obtain ⟨hl,a,cap,rfl,_,_⟩:=h.len;have H:=hI_ h;clear h;go_enter Tryz.func166,Tryz.ntmps166;go_wp2_with fail;go_loop [3] (fun i=>∃ k:Nat,i=.int .i64 k∧k≤s.length∧Hid (∀ j,j<k→sOk s j=true)) (fun i=>s.length - (intOf i).toNat)
  case atStart=>exact ⟨0,rfl,Nat.zero_le _,fun j hj=>absurd hj (Nat.not_lt_zero _)⟩
  case round =>
    obtain ⟨k,rfl,hk,hall⟩:=hrel
    by_cases hlt:k<s.length
    · obtain ⟨b,off,cap',u,e,_,hc,hr⟩:=H.out.at hlt;simp only [Value.slice.injEq] at e;obtain ⟨rfl,_,rfl⟩:=e;have HB:=hI_ (show sOk s k=false→Kx.swapOk s=false from fun h=>by
        rw [sOk_all,Bool.and_eq_false_iff,List.all_eq_false];exact .inl ⟨k,by simpa using hlt,by rw [h];simp⟩)
      have HN:=hI_ (show sOk s k=true→∀ j,j<k+1→sOk s j=true from fun h=>scan_step hall.out h);have Hok:=hI_ (show sOk s k=((Kx.row s k).isEmpty||Kx.wordsOk (Kx.row s k)) from rfl);have hlI:(k:Int)<(s.length:Int):=by omega
      obtain ⟨a2,cap2,rfl⟩:=hr.val;have Hr:=hI_ hr;clear hr;generalize Kx.row s k=ws at hc Hok Hr
      by_cases hem:0<ws.length
      · have hd:decide (0<ws.length)=true:=by simpa using hem
        have Hd:=hI_ hd
        cases hq:Kx.wordsOk ws with
        | false =>
          have HF:=hI_ (HB.out (by
            rw [Hok.out,hq]
            cases ws with
            | nil=>simp at hem
            | cons=>rfl))
          have Hq:=hI_ ((wordsOk_eq ws).trans hq);clear hq HB HN Hok;go_wp2_with (go_at_call 85;refine (l2Words_c _ _ _ Hr.out).mono ?_;rintro e w' ⟨rfl,rfl⟩;rw [Hq.out]);go_ret;exact ⟨ret_bool HF.out.symm,rfl⟩
        | true =>
          have HN2:=hI_ (HN.out (by rw [Hok.out,hq,Bool.or_true]));have Hq:=hI_ ((wordsOk_eq ws).trans hq);clear hq HB HN Hok;go_wp2_with (go_at_call 85;refine (l2Words_c _ _ _ Hr.out).mono ?_;rintro e w' ⟨rfl,rfl⟩;rw [Hq.out]);go_round
          case rel=>exact ⟨k+1,by go_num,by omega,HN2.out⟩
          case measure=>simp [intOf];omega
      · have he:ws=[]:=List.length_eq_zero_iff.1 (by omega);subst he;have HN2:=hI_ (HN.out (by rw [Hok.out];rfl));clear HB HN Hok hem;go_wp2_with fail;go_round
        case rel=>exact ⟨k+1,by go_num,by omega,HN2.out⟩
        case measure=>simp [intOf];omega
    · have HF:=hI_ (show Kx.swapOk s=(s.length==16) by
        rw [sOk_all,show (List.range s.length).all (sOk s)=true from by
          rw [List.all_eq_true]; exact fun j hj => hall.out j (by have : j < s.length := by simpa using hj
                                                                  omega),Bool.true_and])
      go_wp2_with fail;go_ret;exact ⟨ret_bool (by rw [HF.out];exact Bool.eq_iff_iff.2 (by simp;omega)),rfl⟩
/-- the i-th environment has no right for a -/
def aOk (k:Kx.Kernel) (i:Nat):Bool:=!Kx.may (Kx.envAt k.envs i).rights Kx.sA
theorem alone_all {k:Kx.Kernel} (h:k.envs.length=3):Kx.alone k=(aOk k 1&&aOk k 2&&!aOk k 0):=by
  match hk:k.envs,h with
  | [a,b,c],_=>simp [Kx.alone,aOk,hk,Kx.envAt]
set_option maxHeartbeats 2000000 in
theorem l32Alone_c (k:Kx.Kernel) (vm vi ve vc:Value) (w:World) (h:RK w vm vi ve vc k) (hen:k.envs.length=3) :
    Calls Tryz.prog 167 #[.agg #[vm,vi,ve,vc]] w fun e w'=>e=.returned (.bool (Kx.alone k))∧Below w.heap.size w w':=by
  obtain ⟨w0,hw0⟩:∃ w0,w.alloc (.cells #[vm,vi,ve,vc] 28)=w0:=⟨_,rfl⟩;have Hw0:=hI_ (show Below w.heap.size w w0 from hw0 ▸ (Below.refl w.heap.size w).alloc nR_ _);have Hbx:=hI_ (show Box4 w0 w.heap.size vm vi ve vc from hw0 ▸ Box4.new w vm vi ve vc _);have HK:=hI_ (h.below Hw0.out);obtain ⟨_,ae,ce,rfl,_,_⟩:=h.e.len;have Hen:=hI_ hen;have HA:=hI_ (alone_all hen);obtain ⟨k0,k1,k2,k3,hbl⟩:=Hbx.out;obtain ⟨b,off,cap,x0,ev,hb0,h1,_,r0⟩:=HK.out.e.at (k:=0) (by rw [hen];omega);obtain ⟨b',off',cap',x1,ev1,hb1,h2,_,r1⟩:=HK.out.e.at (k:=1) (by rw [hen];omega);obtain ⟨b'',off'',cap'',x2,ev2,hb2,h3,_,r2⟩:=HK.out.e.at (k:=2) (by rw [hen];omega);simp only [Value.slice.injEq] at ev;obtain ⟨rfl,_,rfl⟩:=ev;simp only [Value.slice.injEq,Option.some.injEq,Addr.mk.injEq] at ev1 ev2;obtain ⟨⟨rfl,rfl,_⟩,_,rfl⟩:=ev1;obtain ⟨⟨rfl,rfl,_⟩,_,rfl⟩:=ev2;have R0:=hI_ r0;have R1:=hI_ r1;have R2:=hI_ r2
  clear r0 r1 r2 hbl hb0 hb1 hb2 h hen;rw [Hen.out] at k2 hw0 ⊢;simp only [Nat.zero_mul,Nat.add_zero] at h1;go_enter Tryz.func167,Tryz.ntmps167;go_wp2_with fail;clear hw0;go_loop [3] (fun i=>∃ q:Nat,i=.int .i64 q∧1≤q∧q≤3∧Hid (∀ j,1≤j→j<q→aOk k j=true)) (fun i=>3 - (intOf i).toNat)
  case atStart=>exact ⟨1,rfl,Nat.le_refl _,by omega,fun j h1 h2=>absurd h1 (by omega)⟩
  case round =>
    obtain ⟨q,rfl,hq1,hq3,hall⟩:=hrel
    by_cases hlt:q<3
    · obtain ⟨u,hu,hr⟩:∃ u,w0.cell? ⟨b,off+q*2,none⟩=some u∧Hid (RStr w0 u (Kx.envAt k.envs q).rights):=by
        rcases (by omega:q=1∨q=2) with rfl | rfl
        · exact ⟨x1,h2,R1⟩
        · exact ⟨x2,h3,R2⟩
      have hlI:(q:Int)<3:=by omega
      cases ha:aOk k q with
      | false =>
        have HF:=hI_ (show Kx.alone k=false by
          rw [HA.out];rcases (by omega:q=1∨q=2) with rfl | rfl
          · rw [ha];rfl
          · rw [ha];simp)
        have Hm:=hI_ (show Kx.may (Kx.envAt k.envs q).rights Kx.sA=true by unfold aOk at ha;simpa using ha);clear ha;go_wp2_with (go_at_call 126;refine (l11May_c _ Kx.sA _ _ hr.out).mono ?_;rintro e w' ⟨rfl,rfl⟩;rw [Hm.out]);go_ret;exact ⟨ret_bool HF.out.symm,Hw0.out⟩
      | true =>
        have HN:=hI_ (show ∀ j,1≤j→j<q+1→aOk k j=true from fun j hj1 hj=>by
          by_cases e:j=q
          · subst e;exact ha
          · exact hall.out j hj1 (by omega))
        have Hm:=hI_ (show Kx.may (Kx.envAt k.envs q).rights Kx.sA=false by unfold aOk at ha;simpa using ha);clear ha;go_wp2_with (go_at_call 126;refine (l11May_c _ Kx.sA _ _ hr.out).mono ?_;rintro e w' ⟨rfl,rfl⟩;rw [Hm.out]);go_round
        case rel=>exact ⟨q+1,by go_num,by omega,by omega,HN.out⟩
        case measure=>simp [intOf];omega
    · have e:q=3:=by omega
      subst e;have HF:=hI_ (show Kx.alone k=Kx.may (Kx.envAt k.envs 0).rights Kx.sA by
        rw [HA.out,hall.out 1 (by omega) (by omega),hall.out 2 (by omega) (by omega)];unfold aOk;simp)
      go_wp2_with (go_at_call 126;refine (l11May_c _ Kx.sA _ _ R0.out).mono ?_;rintro e w' ⟨rfl,rfl⟩);go_ret;exact ⟨ret_bool HF.out.symm,Hw0.out⟩
def getOk (s:List (List Int)) (x:Int):Bool:=Kx.swapOk s&&Kx.inR x 0 15&&!(Kx.row s x.toNat).isEmpty
def getW (s:List (List Int)) (x:Int):List Int:=if getOk s x then Kx.row s x.toNat else []
set_option maxHeartbeats 1000000 in
theorem SwapGet_c (s:List (List Int)) (x:Int) (v:Value) (w:World) (h:RM w v s) :
    Calls Tryz.prog 191 #[v,.int .i64 x] w (MadeIB w (getW s x) (getOk s x)):=by
  obtain ⟨hl,a,cap,rfl,_,_⟩:=h.len;have H:=hI_ h;have Hv:=hI_ (specSwapValid_c s _ w h);clear h;have hok:=hI_ (show getOk s x=(Kx.swapOk s&&Kx.inR x 0 15&&!(Kx.row s x.toNat).isEmpty) from rfl);have Hno:=hI_ (show getOk s x=false→MadeIB w (getW s x) (getOk s x) (.returned (.tuple #[.slice (some ⟨w.heap.size,0,none⟩) 0 0,.bool false])) (w.alloc (.cells #[] 3)) from fun e=>⟨_,by rw [e],by unfold getW;rw [e];exact OI.lit0 nR_,bR_.alloc nR_ _⟩)
  go_enter Tryz.func191,Tryz.ntmps191;go_wp2_with fail;refine Hv.out.mono ?_;rintro e w' ⟨rfl,rfl⟩
  cases h1:Kx.swapOk s with
  | false =>
    have HF:=hI_ (Hno.out (by rw [hok.out,h1];rfl));clear h1 hok Hno;go_wp2_with fail;go_ret2;exact HF.out
  | true =>
    have Hs:=hI_ h1;clear h1;have Hlen:=hI_ (show s.length=16 by have:=Hs.out;rw [sOk_all,Bool.and_eq_true] at this;simpa using this.2);go_wp2_with fail;refine (l6InK_c _ _ _ _).mono ?_;rintro e w' ⟨rfl,rfl⟩
    cases h1:Kx.inR x 0 15 with
    | false =>
      have HF:=hI_ (Hno.out (by rw [hok.out,h1];simp));clear h1 hok Hno;go_wp2_with fail;go_ret2;exact HF.out
    | true =>
      obtain ⟨h0,h15⟩:=Kx.inR_true.1 h1;obtain ⟨n,rfl⟩:=Int.eq_ofNat_of_zero_le h0;have hn:n<s.length:=by rw [Hlen.out];omega
      have hnI:(n:Int)<(s.length:Int):=by omega
      obtain ⟨b,off,cap',u,e,hb,hc,hr⟩:=H.out.at hn;simp only [Value.slice.injEq] at e;obtain ⟨rfl,_,rfl⟩:=e;obtain ⟨a2,cap2,rfl⟩:=hr.val;have Hr:=hI_ hr;have Hx:=hI_ h1;have Hw:=hI_ (show getOk s n=true→getW s n=Kx.row s n from fun e=>by unfold getW;rw [if_pos e];rfl);rw [Int.toNat_natCast] at hok;clear h1 h0 hr;generalize Kx.row s n=ws at hc hok Hr Hw
      by_cases hem:ws=[]
      · subst hem;have HF:=hI_ (Hno.out (by rw [hok.out];simp));clear hok Hno Hw;go_wp2_with fail;go_ret2;exact HF.out
      · have hd:((ws.length:Int)==0)=false:=by simpa using hem
        have hT:=hI_ (show getOk s n=true by
          rw [hok.out,Hs.out,Hx.out]
          cases ws with
          | nil=>exact absurd rfl hem
          | cons=>rfl)
        have hws:=hI_ (Hw.out hT.out);have hwl:=hI_ (show ws.length≤1099511627776 from Hr.out.1);have hc2:(w.alloc (.cells #[] 3)).cell? ⟨b,off+n,none⟩=some (.slice a2 ws.length cap2):=((Below.refl w.heap.size w).alloc nR_ _ |>.cell (p:=⟨b,off+n,none⟩) hb).trans hc;have Hr2:=hI_ (show RI (w.alloc (.cells #[] 3)) (.slice a2 ws.length cap2) ws from Hr.out.below (bR_.alloc nR_ _));clear hok Hno Hw hem;go_wp2_with (at_builtin;refine wpList_appR rfl _ _ rfl w.heap.size _ [] rfl (OI.lit0 nR_) _ ws rfl Hr2.out (by have:=hwl.out;simp;omega) (by simp) ?_;intro v' w4 ho4 hg4;rw [List.nil_append] at ho4;have Ho4:=hI_ ho4;have Hbb:=hI_ (Below.app ((Below.refl w.heap.size w).alloc nR_ _) (OI.lit0 nR_) hg4 nR_ (by simp));clear ho4 hg4);go_ret2;exact ⟨v',by rw [hT.out];rfl,by rw [hws.out];exact Ho4.out,Hbb.out⟩
/-- how many of the first q pages are in a place -/
def cntP (p:Kx.Pager) (wh:Int) (q:Nat):Nat:=(p.pages.take q).countP fun x=>x.wh==wh
theorem cntP_zero (p:Kx.Pager) (wh:Int):cntP p wh 0=0:=by simp [cntP]
theorem cntP_step (p:Kx.Pager) (wh:Int) (q:Nat) (h:q<p.pages.length):cntP p wh (q+1)=cntP p wh q+if (Kx.pageAt p.pages q).wh=wh then 1 else 0:=by
  unfold cntP;rw [List.take_add_one,List.getElem?_eq_getElem h,Option.toList_some,List.countP_append,List.countP_singleton];have e:Kx.pageAt p.pages q=p.pages[q]:=by simp [Kx.pageAt,h]
  rw [e];simp
theorem cntP_all (p:Kx.Pager) (wh:Int):cntP p wh p.pages.length=Kx.countP p wh:=by unfold cntP Kx.countP;rw [List.take_length]
theorem cntP_le (p:Kx.Pager) (wh:Int) (q:Nat):cntP p wh q≤q:=Nat.le_trans List.countP_le_length (by rw [List.length_take];omega)
set_option maxHeartbeats 1000000 in
theorem l32Count_c (p:Kx.Pager) (wh:Int) (vm vi ve vc vs vl vp:Value) (hand limit:Int) (w:World) (h:RPage w vp p.pages) :
    Calls Tryz.prog 171 #[pagerV vm vi ve vc vs vl vp hand limit,.int .i64 wh] w fun e w'=>e=.returned (.int .i64 (Kx.countP p wh))∧Below w.heap.size w w':=by
  obtain ⟨w0,hw0⟩:∃ w0,w.alloc (.cells #[vm,vi,ve,vc,vs,vl,vp,.int .i64 hand,.int .i64 limit] 103)=w0:=⟨_,rfl⟩;have Hw0:=hI_ (show Below w.heap.size w w0 from hw0 ▸ (Below.refl w.heap.size w).alloc nR_ _);have Hbx:=hI_ (show BoxP w0 w.heap.size vm vi ve vc vs vl vp hand limit from hw0 ▸ BoxP.new w vm vi ve vc vs vl vp hand limit _);obtain ⟨ap,cp,rfl,_,_⟩:=RS.val h;have hpl:=h.1;have HG:=hI_ (show RPage w0 _ p.pages from RS.below h Hw0.out);clear h;have k6:=Hbx.out.2.1.2.2.1;unfold pagerV;go_enter Tryz.func171,Tryz.ntmps171;go_wp2_with fail;clear hw0;go_loop [5,6] (fun n i=>∃ q:Nat,i=.int .i64 q∧q≤p.pages.length∧n=.int .i64 (cntP p wh q)) (fun _ i=>p.pages.length - (intOf i).toNat)
  case atStart=>exact ⟨0,rfl,Nat.zero_le _,by rw [cntP_zero];rfl⟩
  case round =>
    obtain ⟨q,rfl,hq,rfl⟩:=hrel
    by_cases hlt:q<p.pages.length
    · obtain ⟨b,off,cap,ev,hbb,h1,_,_⟩:=RPage.at HG.out hlt;simp only [Value.slice.injEq] at ev;obtain ⟨rfl,_,rfl⟩:=ev;have hlI:(q:Int)<(p.pages.length:Int):=by omega
      have hst:=hI_ (cntP_step p wh q hlt);have hle:=cntP_le p wh q;generalize (Kx.pageAt p.pages q).wh=x at h1 hst
      by_cases hx:x=wh
      · have hN:=hI_ (show cntP p wh (q+1)=cntP p wh q+1 by rw [hst.out,if_pos hx]);subst hx;generalize cntP p x q=n0 at hN hle;have hnI:(n0:Int)≤1099511627776:=by omega
        clear hst;go_wp2_with fail;go_round
        case rel=>exact ⟨q+1,by go_num,by omega,by rw [hN.out];go_num⟩
        case measure=>simp [intOf];omega
      · have hN:=hI_ (show cntP p wh (q+1)=cntP p wh q by rw [hst.out,if_neg hx,Nat.add_zero]);have hxb:(x==wh)=false:=by simpa using hx
        clear hst;go_wp2_with fail;go_round
        case rel=>exact ⟨q+1,by go_num,by omega,by rw [hN.out]⟩
        case measure=>simp [intOf];omega
    · have e:q=p.pages.length:=by omega
      subst e;have HF:=hI_ (cntP_all p wh);go_wp2_with fail;go_ret;exact ⟨by rw [HF.out];rfl,Hw0.out⟩
def slP (i:Nat) (x:Kx.Page):Bool:=x.wh==2&&x.at_==(i:Int)
/-- how many of the first q pages lie in the place i of the swap -/
def cntS (p:Kx.Pager) (i q:Nat):Nat:=(p.pages.take q).countP (slP i)
theorem cntS_zero (p:Kx.Pager) (i:Nat):cntS p i 0=0:=by simp [cntS]
theorem cntS_step (p:Kx.Pager) (i q:Nat) (h:q<p.pages.length):cntS p i (q+1)=cntS p i q+if slP i (Kx.pageAt p.pages q)=true then 1 else 0:=by
  unfold cntS;rw [List.take_add_one,List.getElem?_eq_getElem h,Option.toList_some,List.countP_append,List.countP_singleton];have e:Kx.pageAt p.pages q=p.pages[q]:=by simp [Kx.pageAt,h]
  rw [e]
theorem cntS_all (p:Kx.Pager) (i:Nat):cntS p i p.pages.length=Kx.slotN p i:=by unfold cntS Kx.slotN;rw [List.take_length];rfl
theorem cntS_le (p:Kx.Pager) (i q:Nat):cntS p i q≤q:=Nat.le_trans List.countP_le_length (by rw [List.length_take];omega)
def slOk (p:Kx.Pager) (i:Nat):Bool:=Kx.slotN p i==if (Kx.row p.swap i).isEmpty then 0 else 1
theorem slOk_all (p:Kx.Pager):Kx.slotsOk p=(List.range p.swap.length).all (slOk p):=rfl
set_option maxHeartbeats 2000000 in
theorem l32Slots_c (p:Kx.Pager) (vm vi ve vc vs vl vp:Value) (hand limit:Int) (w:World) (h:RPage w vp p.pages) (hs:RM w vs p.swap) :
    Calls Tryz.prog 169 #[pagerV vm vi ve vc vs vl vp hand limit] w fun e w'=>e=.returned (.bool (Kx.slotsOk p))∧Below w.heap.size w w':=by
  obtain ⟨w0,hw0⟩:∃ w0,w.alloc (.cells #[vm,vi,ve,vc,vs,vl,vp,.int .i64 hand,.int .i64 limit] 103)=w0:=⟨_,rfl⟩;have Hw0:=hI_ (show Below w.heap.size w w0 from hw0 ▸ (Below.refl w.heap.size w).alloc nR_ _);have Hbx:=hI_ (show BoxP w0 w.heap.size vm vi ve vc vs vl vp hand limit from hw0 ▸ BoxP.new w vm vi ve vc vs vl vp hand limit _);obtain ⟨ap,cp,rfl,_,_⟩:=RS.val h;obtain ⟨hsl,as',cs,rfl,_,_⟩:=hs.len;have hpl:=h.1;have HG:=hI_ (show RPage w0 _ p.pages from RS.below h Hw0.out);have HS:=hI_ (hs.below Hw0.out);clear h hs;have k6:=Hbx.out.2.1.2.2.1;have k4:=Hbx.out.2.1.1;unfold pagerV;go_enter Tryz.func169,Tryz.ntmps169;go_wp2_with fail;clear hw0;go_loop [3] (fun i=>∃ q:Nat,i=.int .i64 q∧q≤p.swap.length∧Hid (∀ j,j<q→slOk p j=true)) (fun i=>p.swap.length - (intOf i).toNat)
  case atStart=>exact ⟨0,rfl,Nat.zero_le _,fun j hj=>absurd hj (Nat.not_lt_zero _)⟩
  case round =>
    obtain ⟨q,rfl,hq,hall⟩:=hrel
    by_cases hlt:q<p.swap.length
    · obtain ⟨b,off,cap',y,e,_,hc,hr⟩:=HS.out.at hlt;simp only [Value.slice.injEq] at e;obtain ⟨rfl,_,rfl⟩:=e;have HB:=hI_ (show slOk p q=false→Kx.slotsOk p=false from fun h=>by
        rw [slOk_all,List.all_eq_false];exact ⟨q,by simpa using hlt,by rw [h];simp⟩)
      have HN:=hI_ (show slOk p q=true→∀ j,j<q+1→slOk p j=true from fun h=>scan_step hall.out h);have Hok:=hI_ (show slOk p q=(Kx.slotN p q==if (Kx.row p.swap q).isEmpty then 0 else 1) from rfl);have hlI:(q:Int)<(p.swap.length:Int):=by omega
      obtain ⟨a2,cap2,rfl⟩:=hr.val;clear hr;generalize Kx.row p.swap q=ws at hc Hok;go_wp2_with fail;go_loop [4,5] (fun n i=>∃ r:Nat,i=.int .i64 r∧r≤p.pages.length∧n=.int .i64 (cntS p q r)) (fun _ i=>p.pages.length - (intOf i).toNat)
      case atStart=>exact ⟨0,rfl,Nat.zero_le _,by rw [cntS_zero];rfl⟩
      case round =>
        obtain ⟨r,rfl,hr,rfl⟩:=hrel
        by_cases hlt2:r<p.pages.length
        · obtain ⟨bp,op,cap,ev,hbb,h1,h2,_⟩:=RPage.at HG.out hlt2;simp only [Value.slice.injEq] at ev;obtain ⟨rfl,_,rfl⟩:=ev;have hrI:(r:Int)<(p.pages.length:Int):=by omega
          have hst:=hI_ (cntS_step p q r hlt2);have hle:=cntS_le p q r;have hsp:=hI_ (show slP q (Kx.pageAt p.pages r)=((Kx.pageAt p.pages r).wh==2&&(Kx.pageAt p.pages r).at_==(q:Int)) from rfl);generalize (Kx.pageAt p.pages r).wh=x at h1 hsp;generalize (Kx.pageAt p.pages r).at_=z at h2 hsp
          by_cases hx:x=2
          · subst hx
            by_cases hz:z=(q:Int)
            · subst hz;have hN:=hI_ (show cntS p q (r+1)=cntS p q r+1 by rw [hst.out,if_pos (by rw [hsp.out];simp)]);generalize cntS p q r=n0 at hN hle;have hnI:(n0:Int)≤1099511627776:=by omega
              clear hst hsp;go_wp2_with fail;go_round
              case rel=>exact ⟨r+1,by go_num,by omega,by rw [hN.out];go_num⟩
              case measure=>simp [intOf];omega
            · have hzb:(z==(q:Int))=false:=by simpa using hz
              have hN:=hI_ (show cntS p q (r+1)=cntS p q r by rw [hst.out,if_neg (by rw [hsp.out,hzb];simp),Nat.add_zero]);clear hst hsp hz;go_wp2_with fail;go_round
              case rel=>exact ⟨r+1,by go_num,by omega,by rw [hN.out]⟩
              case measure=>simp [intOf];omega
          · have hxb:(x==2)=false:=by simpa using hx
            have hN:=hI_ (show cntS p q (r+1)=cntS p q r by rw [hst.out,if_neg (by rw [hsp.out,hxb];simp),Nat.add_zero]);clear hst hsp hx;go_wp2_with fail;go_round
            case rel=>exact ⟨r+1,by go_num,by omega,by rw [hN.out]⟩
            case measure=>simp [intOf];omega
        · have e:r=p.pages.length:=by omega
          subst e;rw [cntS_all] at *;have hle:Kx.slotN p q≤p.pages.length:=by unfold Kx.slotN;exact List.countP_le_length
          generalize Kx.slotN p q=N at Hok hle ⊢
          by_cases hN2:1<N
          · have HF:=hI_ (HB.out (by rw [Hok.out];simp;split <;> omega));have hNI:(1:Int)<(N:Int):=by omega
            have hNd:decide (1<N)=true:=by simpa using hN2
            clear HB HN Hok;go_wp2_with fail;go_ret;exact ⟨ret_bool HF.out.symm,Hw0.out⟩
          · have hwl:0<ws.length∨ws=[]:=by
              cases ws with
              | nil=>exact .inr rfl
              | cons=>exact .inl (by simp)
            rcases (by omega:N=0∨N=1) with rfl | rfl
            · rcases hwl with hem | rfl
              · have hd:decide (0<ws.length)=true:=by simpa using hem
                have HF:=hI_ (HB.out (by
                  rw [Hok.out]
                  cases ws with
                  | nil=>simp at hem
                  | cons=>rfl))
                clear HB HN Hok;go_wp2_with fail;go_ret;exact ⟨ret_bool HF.out.symm,Hw0.out⟩
              · have HN2:=hI_ (HN.out (by rw [Hok.out];rfl));clear HB HN Hok;go_wp2_with fail;go_round
                case rel=>exact ⟨q+1,by go_num,by omega,HN2.out⟩
                case measure=>simp [intOf];omega
            · rcases hwl with hem | rfl
              · have hd:decide (0<ws.length)=true:=by simpa using hem
                have HN2:=hI_ (HN.out (by
                  rw [Hok.out]
                  cases ws with
                  | nil=>simp at hem
                  | cons=>rfl))
                clear HB HN Hok;go_wp2_with fail;go_round
                case rel=>exact ⟨q+1,by go_num,by omega,HN2.out⟩
                case measure=>simp [intOf];omega
              · have HF:=hI_ (HB.out (by rw [Hok.out];rfl));clear HB HN Hok;go_wp2_with fail;go_ret;exact ⟨ret_bool HF.out.symm,Hw0.out⟩
    · have HF:=hI_ (show Kx.slotsOk p=true by
        rw [slOk_all, List.all_eq_true]; exact fun j hj => hall.out j (by have : j < p.swap.length := by simpa using hj
                                                                          omega))
      go_wp2_with fail;go_ret;exact ⟨ret_bool HF.out.symm,Hw0.out⟩
theorem l1Put_c (f:Nat) (b:Bool) (w:World) (hf:f<12):Calls Tryz.prog 143 #[.int .i64 f,.bool b] w fun e w'=>e=.returned (.int .i64 (Kx.put f b))∧w=w':=by
  have hfI:(f:Int)<12:=by omega
  have HP:=hI_ (show Kx.put f b=4*(f:Int)+if b then 3 else 1 from rfl)
  cases b
  · go_enter Tryz.func143,Tryz.ntmps143;go_wp2_with fail;go_ret;exact ⟨ret_int (by rw [HP.out];simp;try omega),rfl⟩
  · go_enter Tryz.func143,Tryz.ntmps143;go_wp2_with fail;go_ret;exact ⟨ret_int (by rw [HP.out];simp;try omega),rfl⟩
end Go.Proofs.YtenebmeaoidnoaaGreatDoor
