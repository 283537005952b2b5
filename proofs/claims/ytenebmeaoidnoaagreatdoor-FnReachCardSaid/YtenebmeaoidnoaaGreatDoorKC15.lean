/- Contracts: the reference's l22Set. (printed by kc15.py) -/
import Derived.Test.YtenebmeaoidnoaaGreatDoorKC14
import Derived.Deep.CutRange
import Derived.Test.YtenebmeaoidnoaaGreatDoorKY
namespace Go.Proofs.YtenebmeaoidnoaaGreatDoor
open Go.RowKit
theorem frameCode_tab {k:Kx.Kernel} {c:Kx.Call} (h:Kx.frameCode k c 0=0):∃ f:Nat,c.a=f∧f<12∧Kx.isTab (Kx.inf k.infos f).kind=true:=by
  unfold Kx.frameCode at h;split at h
  · exact absurd h (by decide)
  · rename_i h1
    split at h
    · exact absurd h (by decide)
    · split at h
      · exact absurd h (by decide)
      · rename_i h3
        cases hin:Kx.inR c.a 0 11 with
        | false=>rw [hin] at h1;exact absurd rfl h1
        | true =>
          obtain ⟨a0,a11⟩:=Kx.inR_true.1 hin;obtain ⟨f,hf⟩:=Int.eq_ofNat_of_zero_le a0;refine ⟨f,hf,by omega,?_⟩;rw [hf] at h3
          cases ht:Kx.isTab (Kx.inf k.infos f).kind with
          | true=>rfl
          | false=>exact absurd (.inr ⟨rfl,ht⟩) h3
theorem below_drewN (w:World) (n:Nat):Below w.heap.size w (w.drewN n):=let h:=Below.refl w.heap.size w;⟨h.os,h.tape,h.output,h.size,h.block⟩
theorem egK_none {x:Int} (h:Kx.entry x=none):egK x=false:=by have:=EgN h;simp only [Eg,Ending.returned.injEq,Value.tuple.injEq] at this;simp at this;exact this.2.2
theorem egK_some {x:Int} {f:Nat} {b:Bool} (h:Kx.entry x=some (f,b)):egK x=true∧egF x=f:=by have:=EgS h;simp only [Eg,Ending.returned.injEq,Value.tuple.injEq] at this;simp at this;exact ⟨this.2.2,this.1⟩
theorem users_lt {k:Kx.Kernel} {t:Int}:∀ x ∈ Kx.users k t,x<k.envs.length:=fun x hx=>by
  unfold Kx.users at hx;exact List.mem_range.1 (List.mem_filter.1 hx).1
theorem behind_lt {k:Kx.Kernel} {x:Int}:∀ g ∈ Kx.behind k x,g<12:=fun g hg=>by
  unfold Kx.behind at hg;split at hg
  · cases hg
  · rename_i f b he
    have hf:=entry_lt he;split at hg
    · simp only [List.mem_singleton] at hg;omega
    · rcases List.mem_cons.1 hg with rfl | h
      · exact hf
      · exact namedW_lt12 h
theorem slc_ofN {w:World} {base:Nat} {u:Value} {l:List Nat} (h:OI w base u (ofN l)):∃ a c,u=.slice a l.length c:=by
  obtain ⟨a,c,e⟩:=h.ri.val;exact ⟨a,c,by rw [e,ofN_length]⟩
/-- the boxes of a call, its own kernel, and what lies below -/
def KSt (w W:World) (base g0 g1 g2:Nat) (um ui ue uc:Value) (l1 l2:List Value) (k:Kx.Kernel):Prop:=
  BX W g0 28 [um,ui,ue,uc]∧BX W g1 109 l1∧BX W g2 28 l2∧KO W base um ui ue uc k∧Kept base w W
theorem KSt.parts {w W:World} {base g0 g1 g2:Nat} {um ui ue uc:Value} {l1 l2:List Value} {k:Kx.Kernel} (h:KSt w W base g0 g1 g2 um ui ue uc l1 l2 k) :
    Hid (BX W g0 28 [um,ui,ue,uc])∧Hid (BX W g1 109 l1)∧Hid (BX W g2 28 l2)∧Hid (KO W base um ui ue uc k)∧Hid (Kept base w W):=h
def cacheTo (c:List Kx.Cached) (us:List Nat) (j:Nat):List Kx.Cached:=(us.take j).foldl (fun (ca:List Kx.Cached) (e:Nat)=>Kx.cdrop ca (e:Int)) c
theorem cacheTo_succ (c:List Kx.Cached) (us:List Nat) {j:Nat} (hj:j<us.length):cacheTo c us (j+1)=Kx.cdrop (cacheTo c us j) (us[j]:Int):=by
  unfold cacheTo;rw [List.take_succ_eq_append_getElem hj,List.foldl_append];rfl
/-- a cell of a row that is no box is turned: the boxes stay -/
theorem kput {w W:World} {base g0 g1 g2 b t':Nat} {l0 l1 l2:List Value} {cs:Array Value} (o:Nat) (v:Value) (hk:W.heap[b]?=some (.cells cs t' (0,0))) (h1:28≠t') (h2:109≠t') (hg:base≤b) (X0:Hid (BX W g0 28 l0)) (X1:Hid (BX W g1 109 l1)) (X2:Hid (BX W g2 28 l2)) (Bw:Hid (Kept base w W)) (h3:¬ Box? t':=by decide) :
    Hid (BX (W.setCell ⟨b,o,none⟩ v) g0 28 l0)∧Hid (BX (W.setCell ⟨b,o,none⟩ v) g1 109 l1)∧Hid (BX (W.setCell ⟨b,o,none⟩ v) g2 28 l2)∧Hid (Kept base w (W.setCell ⟨b,o,none⟩ v)):=
  ⟨X0.out.other (X0.out.ne hk h1) o v,X1.out.other (X1.out.ne hk h2) o v,X2.out.other (X2.out.ne hk h1) o v,Bw.out.put hk hg h3 o v⟩
theorem setRefsO_none {l:List Kx.Info} {x d:Int} (h:Kx.entry x=none):Kx.setRefsO l x d=l:=by unfold Kx.setRefsO;rw [h]
theorem setRefsO_some {l:List Kx.Info} {x d:Int} {f:Nat} {b:Bool} (h:Kx.entry x=some (f,b)):Kx.setRefsO l x d=l.set f { Kx.inf l f with refs:=(Kx.inf l f).refs+d }:=by unfold Kx.setRefsO;rw [h];rfl
theorem setRefsO_length {l:List Kx.Info} {x d:Int}:(Kx.setRefsO l x d).length=l.length:=by unfold Kx.setRefsO;split <;> simp [Kx.setRefs]
theorem Near.setO {b d:Int} {l:List Kx.Info} {x:Int} (h:Near b l) (hd:d=1∨d=-1) (h12:l.length=12):Near (b+1) (Kx.setRefsO l x d):=by
  cases he:Kx.entry x with
  | none=>rw [setRefsO_none he];intro g;have:=h g;omega
  | some p =>
    obtain ⟨f,bb⟩:=p;rw [setRefsO_some he];exact h.set hd (by rw [h12];exact entry_lt he)
set_option maxHeartbeats 4000000 in
set_option maxRecDepth 100000 in
theorem l22Set_c (k:Kx.Kernel) (c:Kx.Call) (e:Nat) (base:Nat) (um ui ue uc:Value) (w:World) (h:KO w base um ui ue uc k) (hbase:base≤w.heap.size) (hok:Kx.kernelOk k=true) (hs:SaneK k) (hce:c.env=e) (he:e<3) :
    Calls Tryz.prog 178 #[.agg #[um,ui,ue,uc],callV c] w (DidK base w (Kx.setK k c)):=by
  obtain ⟨ckd,cen,ca,cb,cc,cnm⟩:=c;simp only at hce;subst hce;obtain ⟨am,cm,ai,ci,ae,ce,ac,cq,w0,w1,w2,rfl,rfl,rfl,rfl,hw0,hw1,hw2,X0,X1,X2,Bw,HO,s0,s1,s2⟩:=kstart h hbase ckd e ca cb cc cnm;obtain ⟨hmo,hio,h12,hco,h3,hro⟩:=kernelOk_parts hok;have Hmo:=hI_ hmo;have Hrt:=hI_ hro;have Hio:=hI_ hio;have H12:=hI_ h12;have H3:=hI_ h3;have Hok:=hI_ hok;have Hs:=hI_ hs;have Hbase:=hI_ hbase;clear h hok hs hmo hio h12 hco h3 hro;have HV:=hI_ (show Kx.setK k (⟨ckd,e,ca,cb,cc,cnm⟩:Kx.Call)=(if Kx.frameCode k (⟨ckd,e,ca,cb,cc,cnm⟩:Kx.Call) 0≠0 then (k,0,Kx.frameCode k (⟨ckd,e,ca,cb,cc,cnm⟩:Kx.Call) 0)
    else if Kx.setBad k (⟨ckd,e,ca,cb,cc,cnm⟩:Kx.Call) then (k,0,3)
    else if !((Kx.users k ca).all fun e=>Kx.allowed k.infos (Kx.behind k cc) (Kx.envAt k.envs e).rights) then (k,0,1)
    else if Kx.setDeny k (⟨ckd,e,ca,cb,cc,cnm⟩:Kx.Call) then (k,0,1)
    else (⟨Kx.setWord k.mem ca.toNat cb.toNat cc,Kx.setRefsO (Kx.setRefsO k.infos (Kx.word k.mem ca.toNat cb.toNat) (-1)) cc 1,k.envs,(Kx.users k ca).foldl (fun (ca:List Kx.Cached) (e:Nat)=>Kx.cdrop ca (e:Int)) k.cache⟩,0,0)) from rfl)
  have HC:=hI_ (l22Frame_c k (⟨ckd,e,ca,cb,cc,cnm⟩:Kx.Call) e 0 _ _ _ _ w2 HO.out.rk H12.out H3.out rfl he (.inr rfl));obtain ⟨p0,p1,p2,p3⟩:=X0.out.c4;obtain ⟨c0,c1,c2,c3,c4,c5⟩:=X1.out.c6;unfold callV;go_enter Tryz.func178,Tryz.ntmps178;go_wp2_with fail;refine HC.out.mono ?_;rintro en w3 ⟨rfl,hb⟩;clear HC;clear p0 p1 p2 p3;clear c0 c1 c2 c3 c4 c5;obtain ⟨X0,X1,X2,HO,Bw,zz⟩:=kgo hb Hbase.out s0 X0 X1 X2 HO Bw;clear hb zz
  by_cases hc:Kx.frameCode k (⟨ckd,e,ca,cb,cc,cnm⟩:Kx.Call) 0=0
  case neg =>
    have HF:=hI_ (show Kx.setK k (⟨ckd,e,ca,cb,cc,cnm⟩:Kx.Call)=(k,0,Kx.frameCode k (⟨ckd,e,ca,cb,cc,cnm⟩:Kx.Call) 0) by rw [HV.out,if_pos hc]);have hcb:(Kx.frameCode k (⟨ckd,e,ca,cb,cc,cnm⟩:Kx.Call) 0 != 0)=true:=by simpa using hc
    clear HV;generalize Kx.frameCode k (⟨ckd,e,ca,cb,cc,cnm⟩:Kx.Call) 0=code at hc hcb HF ⊢;obtain ⟨p0,p1,p2,p3⟩:=X0.out.c4;obtain ⟨r0,r1,r2,r3⟩:=X2.out.c4;obtain ⟨fr0,fr1,fr2,fr3⟩:=X2.out.f4;go_wp2_with fail;obtain ⟨e0,e1,e2,e3,hB4,hK4⟩:=kend X2.out rfl Bw.out (by have:=Hbase.out;omega) (.slice am k.mem.length cm) (.slice ai k.infos.length ci) (.slice ae k.envs.length ce) (.slice ac k.cache.length cq);refine bodyPost_ret (v:=.tuple #[.agg #[.slice am k.mem.length cm,.slice ai k.infos.length ci,.slice ae k.envs.length ce,.slice ac k.cache.length cq],.int .i64 0,.int .i64 code]) (by simp [results,Tryz.results178,go_sem,e0,e1,e2,e3]) rfl ?_;exact kerr HF.out hc hB4
  replace HV:=hI_ (by have:=HV.out;rw [if_neg (by rw [hc];simp)] at this;exact this);rw [hc];obtain ⟨f,hf,hf12,hft⟩:=frameCode_tab hc;simp only at hf;subst hf;rw [show ((f:Int)).toNat=f from rfl] at HV;clear hc;have hfI:(f:Int)<(k.infos.length:Int):=by have:=H12.out;omega
  obtain ⟨bi,oi,ci',ev,hbil,g0,g1,g2⟩:=RInfo.at HO.out.i.rs (k:=f) (by have:=H12.out;omega);simp only [Value.slice.injEq] at ev;obtain ⟨rfl,_,rfl⟩:=ev;obtain ⟨p0,p1,p2,p3⟩:=X0.out.c4;obtain ⟨c0,c1,c2,c3,c4,c5⟩:=X1.out.c6;go_wp2_with fail;refine (specEntryGet_c _ _).mono ?_;rintro en w4 ⟨rfl,rfl⟩;unfold Eg;go_upto_region 5 with fail;have HB:=hI_ (show Kx.setBad k ⟨ckd,e,f,cb,cc,cnm⟩=(!Kx.inR cb 0 3||Kx.entryKind cc==2||(match Kx.entry cc with | none=>false | some (g,_)=>(Kx.inf k.infos g).kind != (Kx.inf k.infos f).kind - 1)) from rfl)
  obtain ⟨kf,hkf⟩:∃ kf,(Kx.inf k.infos f).kind=kf:=⟨_,rfl⟩;rw [hkf] at g0 HB hft;have hkf3:2≤kf∧kf≤3:=by simp only [Kx.isTab,Bool.or_eq_true,beq_iff_eq] at hft;omega
  have hkw:IntKind.i64.wrap (kf - 1)=kf - 1:=by rw [IntKind.wrap_i64];omega
  obtain ⟨sb,hsb⟩:∃ sb,Kx.setBad k ⟨ckd,e,f,cb,cc,cnm⟩=sb:=⟨_,rfl⟩;rw [hsb] at HB;clear hft;go_cut [8,10,60] from 17 (fun s8 s10 s wx=>s8=.int .i64 (egF cc)∧s10=.bool (egK cc)∧s=.bool sb∧Hid (Below w3.heap.size w3 wx))
  case first =>
    cases hib:Kx.inR cb 0 3 with
    | false =>
      have Hib:=hI_ hib;have HB:=hI_ (show sb=true by rw [HB.out,hib];rfl);clear hib;go_quiet ((go_at_call 90;exact Calls.quiet_of_same ((l6In_c _ _ _ _).mono fun _ _ ⟨he,hw⟩=>⟨by rw [he,show inR cb 0 3=false from Hib.out],hw.symm⟩)))
      go_wp2_with fail;go_meet;exact ⟨rfl,rfl,by rw [HB.out],below_drewN _ _⟩
    | true =>
      cases hek:(Kx.entryKind cc==2) with
      | true =>
        have Hib:=hI_ hib;have HB:=hI_ (show sb=true by rw [HB.out,hib,hek];rfl);have Hek:=hI_ (show Kx.entryKind cc=2 by simpa using hek);clear hib hek;go_quiet (first | (go_at_call 90;exact Calls.quiet_of_same ((l6In_c _ _ _ _).mono fun _ _ ⟨he,hw⟩=>⟨by rw [he,show inR cb 0 3=true from Hib.out],hw.symm⟩)) | (go_at_call 138;exact Calls.quiet_of_same ((specEntryKind_c _ _).mono fun _ _ ⟨he,hw⟩=>⟨by rw [he,Hek.out],hw.symm⟩)))
        go_wp2_with fail;go_meet;exact ⟨rfl,rfl,by rw [HB.out],below_drewN _ _⟩
      | false =>
        cases hen:Kx.entry cc with
        | none =>
          have Hib:=hI_ hib;have HB:=hI_ (show sb=false by rw [HB.out,hib,hek,hen];rfl);have Hk0:=hI_ (egK_none hen);rw [Hk0.out];clear hib hen;go_quiet (first | (go_at_call 90;exact Calls.quiet_of_same ((l6In_c _ _ _ _).mono fun _ _ ⟨he,hw⟩=>⟨by rw [he,show inR cb 0 3=true from Hib.out],hw.symm⟩)) | (go_at_call 138;exact Calls.quiet_of_same ((specEntryKind_c _ _).mono fun _ _ ⟨he,hw⟩=>⟨he,hw.symm⟩)))
          go_wp2_with fail;go_meet;exact ⟨rfl,by rw [Hk0.out],by rw [HB.out],below_drewN _ _⟩
        | some pr =>
          obtain ⟨fr,bw⟩:=pr;have hfr:=entry_lt hen;have Hib:=hI_ hib;have HB:=hI_ (show sb=((Kx.inf k.infos fr).kind != kf - 1) by rw [HB.out,hib,hek,hen];simp);have Hk0:=hI_ (egK_some hen);rw [Hk0.out.1,Hk0.out.2];clear hib hen;have hfrI:(fr:Int)<(k.infos.length:Int):=by have:=H12.out;omega
          obtain ⟨_,_,_,ev,_,q0,_,_⟩:=RInfo.at HO.out.i.rs (k:=fr) (by have:=H12.out;omega);simp only [Value.slice.injEq,Option.some.injEq,Addr.mk.injEq] at ev;obtain ⟨⟨rfl,rfl,_⟩,_,rfl⟩:=ev;generalize (Kx.inf k.infos fr).kind=kr at q0 HB;go_quiet (first | (go_at_call 90;exact Calls.quiet_of_same ((l6In_c _ _ _ _).mono fun _ _ ⟨he,hw⟩=>⟨by rw [he,show inR cb 0 3=true from Hib.out],hw.symm⟩)) | (go_at_call 138;exact Calls.quiet_of_same ((specEntryKind_c _ _).mono fun _ _ ⟨he,hw⟩=>⟨he,hw.symm⟩)))
          go_wp2_with fail;go_meet;exact ⟨by rw [Hk0.out.2],by rw [Hk0.out.1],by rw [HB.out],below_drewN _ _⟩
  case rest =>
    obtain ⟨rfl,rfl,rfl,hbh⟩:=hcut;have hb:=hbh.out;clear hbh;clear g0 g1 g2 p0 p1 p2 p3 c0 c1 c2 c3 c4 c5;obtain ⟨X0,X1,X2,HO,Bw,zz⟩:=kgo hb Hbase.out s0 X0 X1 X2 HO Bw;clear hb zz;have HV:=hI_ (show Kx.setK k ⟨ckd,e,f,cb,cc,cnm⟩=(if sb then (k,0,3) else if !((Kx.users k f).all fun e=>Kx.allowed k.infos (Kx.behind k cc) (Kx.envAt k.envs e).rights) then (k,0,1)
      else if Kx.setDeny k ⟨ckd,e,f,cb,cc,cnm⟩ then (k,0,1)
      else (⟨Kx.setWord k.mem f cb.toNat cc,Kx.setRefsO (Kx.setRefsO k.infos (Kx.word k.mem f cb.toNat) (-1)) cc 1,k.envs,(Kx.users k f).foldl (fun (ca:List Kx.Cached) (e:Nat)=>Kx.cdrop ca (e:Int)) k.cache⟩,0,0)) by rw [←hsb];exact HV.out)
    cases sb with
    | true =>
      have HF:=hI_ (show Kx.setK k ⟨ckd,e,f,cb,cc,cnm⟩=(k,0,3) by rw [HV.out,if_pos rfl]);clear HV HB hsb;obtain ⟨p0,p1,p2,p3⟩:=X0.out.c4;obtain ⟨r0,r1,r2,r3⟩:=X2.out.c4;obtain ⟨fr0,fr1,fr2,fr3⟩:=X2.out.f4;go_wp2_with fail;obtain ⟨e0,e1,e2,e3,hB4,hK4⟩:=kend X2.out rfl Bw.out (by have:=Hbase.out;omega) (.slice am k.mem.length cm) (.slice (some ⟨bi,oi,none⟩) k.infos.length ci) (.slice ae k.envs.length ce) (.slice ac k.cache.length cq);refine bodyPost_ret (v:=.tuple #[.agg #[.slice am k.mem.length cm,.slice (some ⟨bi,oi,none⟩) k.infos.length ci,.slice ae k.envs.length ce,.slice ac k.cache.length cq],.int .i64 0,.int .i64 3]) (by simp [results,Tryz.results178,go_sem,e0,e1,e2,e3]) rfl ?_;exact kerr HF.out (show (3:Int)≠0 by decide) hB4
    | false =>
      have HV:=hI_ (by have:=HV.out;rw [if_neg (by decide)] at this;exact this);obtain ⟨us,hus⟩:∃ us,Kx.users k f=us:=⟨_,rfl⟩;obtain ⟨bs,hbs⟩:∃ bs,Kx.behind k cc=bs:=⟨_,rfl⟩;have Hb12:=hI_ (show ∀ x ∈ bs,x<k.infos.length by rw [H12.out,←hbs];exact behind_lt);have hul:us.length≤3:=by rw [←hus,←H3.out];exact Nat.le_trans (List.length_filter_le _ _) (by simp)
      have Hu3:=hI_ (show ∀ x ∈ us,x<3 by rw [←hus,←H3.out];exact users_lt);have HBh:=hI_ (l22Behind_c k cc _ _ _ _ wc HO.out.rk Hmo.out H12.out);rw [hus,hbs] at HV;rw [hbs] at HBh;obtain ⟨p0,p1,p2,p3⟩:=X0.out.c4;obtain ⟨c0,c1,c2,c3,c4,c5⟩:=X1.out.c6;go_wp2_with fail;refine HBh.out.mono ?_;rintro en w5 ⟨u5,rfl,ho5,hb⟩;obtain ⟨a5,k5,rfl⟩:=slc_ofN ho5;have O5:=hI_ ho5;have zu:=hI_ X0.out.lt;clear ho5 HBh;clear p0 p1 p2 p3;clear c0 c1 c2 c3 c4 c5;have z5:=hI_ hb.size;obtain ⟨X0,X1,X2,HO,Bw,zz⟩:=kgo hb Hbase.out s0 X0 X1 X2 HO Bw;clear hb zz;have HUs:=hI_ (l22Users_c k f _ _ _ _ w5 HO.out.rk Hmo.out Hrt.out H3.out);rw [hus] at HUs;obtain ⟨p0,p1,p2,p3⟩:=X0.out.c4;obtain ⟨c0,c1,c2,c3,c4,c5⟩:=X1.out.c6;go_wp2_with fail;refine HUs.out.mono ?_;rintro en w6 ⟨u6,rfl,ho6,hb⟩;obtain ⟨a6,k6,rfl⟩:=slc_ofN ho6;replace O5:=hI_ (O5.out.below hb);have O6:=hI_ ho6;clear ho6 HUs;clear p0 p1 p2 p3
      clear c0 c1 c2 c3 c4 c5;obtain ⟨X0,X1,X2,HO,Bw,zz⟩:=kgo hb Hbase.out s0 X0 X1 X2 HO Bw;clear hb zz;go_wp2_with fail;go_loopw [13] (fun i wr=>∃ (j:Nat) (aj:Option Addr) (cj:Nat),i=.int .i64 j∧j≤us.length∧Hid (∀ x ∈ us.take j,Kx.allowed k.infos bs (Kx.envAt k.envs x).rights=true)∧Hid (KSt w wr base w.heap.size w0.heap.size w1.heap.size (.slice am k.mem.length cm) (.slice (some ⟨bi,oi,none⟩) k.infos.length ci) (.slice ae k.envs.length ce) ((.slice aj (cacheTo k.cache us j).length cj)) [.int .i64 ckd,.int .i64 e,.int .i64 f,.int .i64 cb,.int .i64 cc,.string cnm] [.slice none 0 0,.slice none 0 0,.slice none 0 0,.slice none 0 0] { k with cache:=cacheTo k.cache us j })∧Hid (OI wr wc.heap.size (.slice a5 bs.length k5) (ofN bs))∧Hid (OI wr w5.heap.size (.slice a6 us.length k6) (ofN us))) (fun i _=>us.length - (intOf i).toNat)
      case atStart=>exact ⟨0,ac,cq,rfl,Nat.zero_le _,hI_ (fun x hx=>by cases hx),hI_ ⟨X0.out,X1.out,X2.out,HO.out,Bw.out⟩,O5,O6⟩
      case round =>
        clear X0 X1 X2 HO Bw O5 O6;obtain ⟨j,aj,cj,rfl,hj,hall,hst,H5,H6⟩:=hrel;obtain ⟨X0,X1,X2,HO,Bw⟩:=hst.out.parts;clear hst
        by_cases hlt:j<us.length
        · have hjI:(j:Int)<(us.length:Int):=by omega
          obtain ⟨bu,ou,cu,ev,hbul,q0⟩:=H6.out.ri.at (k:=j) (by rw [ofN_length];exact hlt);rw [ofN_length] at ev;simp only [Value.slice.injEq] at ev;obtain ⟨rfl,_,rfl⟩:=ev;have hge:wc.heap.size≤bu:=Nat.le_trans z5.out (H6.out.lt bu rfl).1;have hbg:w.heap.size≠bu:=by have:=zu.out;omega
          have hofn:(ofN us)[j]?=some ((us[j]:Nat):Int):=by simp [ofN,hlt]
          rw [(List.getElem_eq_iff _).2 hofn] at q0;have hx3:=Hu3.out _ (List.getElem_mem hlt);have Htk:=hI_ (show us.take (j+1)=us.take j ++ [us[j]] by rw [List.take_succ_eq_append_getElem hlt]);have Hsu:=hI_ (cacheTo_succ k.cache us hlt);have Hmem:=hI_ (List.getElem_mem hlt);clear hofn;generalize us[j]=x at q0 hx3 Htk Hsu Hmem;have hxI:(x:Int)<(k.envs.length:Int):=by have:=H3.out;omega
          obtain ⟨be,oe,ce',ur,ev,hbel,q1,_,hr⟩:=HO.out.e.re.at (k:=x) (by show x<k.envs.length;have:=H3.out;omega);simp only [Value.slice.injEq] at ev;obtain ⟨rfl,_,rfl⟩:=ev;obtain ⟨ar,cr,rfl,_,_⟩:=RS.val hr;have Hr:=hI_ (show RStr wr _ (Kx.envAt k.envs x).rights from hr);clear hr;change wr.cell? _=some (.slice ar (Kx.envAt k.envs x).rights.length cr) at q1;obtain ⟨rs,hrs⟩:∃ rs,(Kx.envAt k.envs x).rights=rs:=⟨_,rfl⟩;rw [hrs] at Hr q1;have Hrs:=hI_ hrs;clear hrs;obtain ⟨p0,p1,p2,p3⟩:=X0.out.c4;go_wp2_with fail;go_still_tail 12,(by kernel_rfl)
          obtain ⟨W4,hW4⟩:∃ W4,wr.drew=W4:=⟨_,rfl⟩;have hb:Below wr.heap.size wr W4:=hW4 ▸ Below.drewB bR_;change wpList _ _ _ _ _ wr.drew;rw [hW4];clear hW4;have q0:=(hb.cell (p:=⟨bu,ou+j,none⟩) hbul).trans q0;replace Hr:=hI_ (RS.below Hr.out hb);have hbul:=Nat.lt_of_lt_of_le hbul hb.size;clear p0 p1 p2 p3 q1;obtain ⟨X0,X1,X2,HO,Bw,zz⟩:=kgo hb Hbase.out s0 X0 X1 X2 HO Bw;replace H5:=hI_ (H5.out.below hb);replace H6:=hI_ (H6.out.below hb);clear hb zz;have HA:=hI_ (l21Allowed_c k.infos bs rs _ _ _ W4 HO.out.i.rs H5.out.ri Hr.out Hb12.out);go_wp2_with fail;refine HA.out.mono ?_;rintro en w7 ⟨rfl,hb⟩;clear HA;have S7:=(hb.cell (p:=⟨bu,ou+j,none⟩) hbul).trans q0;have hbul7:=Nat.lt_of_lt_of_le hbul hb.size;clear Hr q0 hbul;obtain ⟨X0,X1,X2,HO,Bw,zz⟩:=kgo hb Hbase.out s0 X0 X1 X2 HO Bw;replace H5:=hI_ (H5.out.below hb);replace H6:=hI_ (H6.out.below hb);clear hb zz
          cases hal:Kx.allowed k.infos bs rs with
          | false =>
            have HF:=hI_ (show Kx.setK k ⟨ckd,e,f,cb,cc,cnm⟩=(k,0,1) by
              rw [HV.out,if_pos];rw [Bool.not_eq_true',List.all_eq_false];exact ⟨x,Hmem.out,by rw [Hrs.out,hal];decide⟩)
            clear HV hal Hmem Htk Hsu S7;obtain ⟨p0,p1,p2,p3⟩:=X0.out.c4;obtain ⟨r0,r1,r2,r3⟩:=X2.out.c4;obtain ⟨fr0,fr1,fr2,fr3⟩:=X2.out.f4;go_wp2_with fail;obtain ⟨e0,e1,e2,e3,hB4,hK4⟩:=kend X2.out rfl Bw.out (by have:=Hbase.out;omega) (.slice am k.mem.length cm) (.slice (some ⟨bi,oi,none⟩) k.infos.length ci) (.slice (some ⟨be,oe,none⟩) k.envs.length ce) (.slice aj (cacheTo k.cache us j).length cj);refine bodyPost_ret (v:=.tuple #[.agg #[.slice am k.mem.length cm,.slice (some ⟨bi,oi,none⟩) k.infos.length ci,.slice (some ⟨be,oe,none⟩) k.envs.length ce,.slice aj (cacheTo k.cache us j).length cj],.int .i64 0,.int .i64 1]) (by simp [results,Tryz.results178,go_sem,e0,e1,e2,e3]) rfl ?_;exact kerr HF.out (show (1:Int)≠0 by decide) hB4
          | true =>
            have Hal:=hI_ (show Kx.allowed k.infos bs (Kx.envAt k.envs x).rights=true by rw [Hrs.out];exact hal);clear hal Hrs;have p3:=X0.out.cell 3;simp only [List.getElem?_cons_zero,List.getElem?_cons_succ] at p3;go_wp2_with fail;go_still_tail 6,(by kernel_rfl)
            obtain ⟨W7,hW7⟩:∃ W7,w7.drew=W7:=⟨_,rfl⟩;have hb:Below w7.heap.size w7 W7:=hW7 ▸ Below.drewB bR_;change wpList _ _ _ _ _ w7.drew;rw [hW7];clear hW7 S7 p3;obtain ⟨X0,X1,X2,HO,Bw,zz⟩:=kgo hb Hbase.out s0 X0 X1 X2 HO Bw;replace H5:=hI_ (H5.out.below hb);replace H6:=hI_ (H6.out.below hb);clear hb zz;have HD:=hI_ (l4Drop_c (cacheTo k.cache us j) x _ W7 HO.out.c.rs);go_wp2_with fail;refine HD.out.mono ?_;rintro en w8 ⟨u8,rfl,ho8,hb⟩;obtain ⟨a8,c8,rfl,_,_⟩:=RS.val ho8.rs;have z7:=Bw.out.size;have O8:=hI_ ho8;clear ho8 HD;obtain ⟨X0,X1,X2,HO,Bw,zz⟩:=kgo hb Hbase.out s0 X0 X1 X2 HO Bw;replace H5:=hI_ (H5.out.below hb);replace H6:=hI_ (H6.out.below hb);clear hb zz;have HK:=hI_ (show KO w8 base _ _ _ (.slice a8 (cacheTo k.cache us (j+1)).length c8) { k with cache:=cacheTo k.cache us (j+1) } from ⟨HO.out.m,HO.out.i,HO.out.e,by rw [Hsu.out];exact O8.out.mono (by have:=Hbase.out;omega)⟩);rw [←Hsu.out]
            have hz3:=X0.out.cell 3;have hf3:=X0.out.frozen 3;simp only [List.getElem?_cons_zero,List.getElem?_cons_succ] at hz3;obtain ⟨X0,X1,X2,HK,Bw⟩:=kset3 (.slice a8 (cacheTo k.cache us (j+1)).length c8) (by omega) (by omega) (by have:=Hbase.out;omega) X0 X1 X2 HK Bw;have H5:=hI_ (H5.out.setOI (g:=w.heap.size) zu.out 3 (.slice a8 (cacheTo k.cache us (j+1)).length c8));have H6:=hI_ (H6.out.setOI (g:=w.heap.size) (by have:=z5.out;have:=zu.out;omega) 3 (.slice a8 (cacheTo k.cache us (j+1)).length c8));have hall2:=hI_ (show ∀ y ∈ us.take (j+1),Kx.allowed k.infos bs (Kx.envAt k.envs y).rights=true from fun y hy=>by
              rw [Htk.out] at hy;rcases List.mem_append.1 hy with h | h
              · exact hall.out y h
              · rw [List.mem_singleton.1 h];exact Hal.out)
            clear HO O8 hall Hsu Htk;go_wp2_with fail;go_roundw
            case rel=>exact ⟨j+1,a8,c8,by go_num,by omega,hall2,hI_ ⟨X0.out,X1.out,X2.out,HK.out,Bw.out⟩,H5,H6⟩
            case measure=>simp [intOf];omega
        · have hjn:j=us.length:=by omega
          subst hjn;have HV:=hI_ (show Kx.setK k ⟨ckd,e,f,cb,cc,cnm⟩=(if Kx.setDeny k ⟨ckd,e,f,cb,cc,cnm⟩ then (k,0,1) else (⟨Kx.setWord k.mem f cb.toNat cc,Kx.setRefsO (Kx.setRefsO k.infos (Kx.word k.mem f cb.toNat) (-1)) cc 1,k.envs,cacheTo k.cache us us.length⟩,0,0)) by
            have h1:(us.all fun e=>Kx.allowed k.infos bs (Kx.envAt k.envs e).rights)=true:=by
              rw [List.all_eq_true];have:=hall.out;rw [List.take_length] at this;exact this
            have h2:=HV.out;rw [h1] at h2;have h3:cacheTo k.cache us us.length=us.foldl (fun (ca:List Kx.Cached) (e:Nat)=>Kx.cdrop ca (e:Int)) k.cache:=by unfold cacheTo;rw [List.take_length]
            rw [h3];exact h2)
          generalize cacheTo k.cache us us.length=ca at X0 HO HV;have HB:=hI_ (show Kx.inR cb 0 3=true∧(Kx.entryKind cc==2)=false by
            have:=HB.out
            simp only [Bool.false_eq,Bool.or_eq_false_iff,Bool.not_eq_false'] at this;exact this.1)
          clear hall H5 H6;go_upto_region 15 with fail;obtain ⟨sd,hsd⟩:∃ sd,Kx.setDeny k ⟨ckd,e,f,cb,cc,cnm⟩=sd:=⟨_,rfl⟩;have HD:=hI_ (show sd=(match Kx.entry cc with | none=>false | some (g,_)=>!Kx.mayE k e (Kx.inf k.infos g).guard) from hsd.symm.trans rfl)
          go_cut [8,10,112] from 17 (fun s8 s10 s wx=>s8=.int .i64 (egF cc)∧s10=.bool (egK cc)∧s=.bool sd∧Hid (Below wr.heap.size wr wx))
          case first =>
            cases hen:Kx.entry cc with
            | none =>
              have HD:=hI_ (show sd=false by rw [HD.out,hen]);have Hk0:=hI_ (egK_none hen);rw [Hk0.out];clear hen;go_quiet (fail);go_wp2_with fail;go_meet;exact ⟨rfl,by rw [Hk0.out],by rw [HD.out],below_drewN _ _⟩
            | some pr =>
              obtain ⟨fr,bw⟩:=pr;have hfr:=entry_lt hen;have HD:=hI_ (show sd=!Kx.mayE k e (Kx.inf k.infos fr).guard by rw [HD.out,hen]);have Hk0:=hI_ (egK_some hen);rw [Hk0.out.1,Hk0.out.2];clear hen;have hfrI:(fr:Int)<(k.infos.length:Int):=by have:=H12.out;omega
              obtain ⟨_,_,_,ev,_,_,q1,_⟩:=RInfo.at HO.out.i.rs (k:=fr) (by show fr<k.infos.length;have:=H12.out;omega);simp only [Value.slice.injEq,Option.some.injEq,Addr.mk.injEq] at ev;obtain ⟨⟨rfl,rfl,_⟩,_,rfl⟩:=ev;change wr.cell? _=some (.string (Kx.inf k.infos fr).guard) at q1;have HM:=hI_ (l22May_c k e (Kx.inf k.infos fr).guard (.slice am k.mem.length cm) (.slice (some ⟨bi,oi,none⟩) k.infos.length ci) (.slice ae k.envs.length ce) (.slice aj ca.length cj) wr.drew (HO.out.below (Below.drewB (Below.refl _ wr))).rk.e (by have:=H3.out;omega));generalize (Kx.inf k.infos fr).guard=gd at q1 HM HD;obtain ⟨p0,p1,p2,p3⟩:=X0.out.c4;obtain ⟨c0,c1,c2,c3,c4,c5⟩:=X1.out.c6
              go_region_held3 (fun wz=>wz.cell? ⟨w.heap.size,0,none⟩=some (.slice am k.mem.length cm)∧wz.cell? ⟨w.heap.size,1,none⟩=some (.slice (some ⟨bi,oi,none⟩) k.infos.length ci)∧wz.cell? ⟨w.heap.size,2,none⟩=some (.slice ae k.envs.length ce)∧wz.cell? ⟨w.heap.size,3,none⟩=some (.slice aj ca.length cj)∧wz.cell? ⟨w0.heap.size,1,none⟩=some (.int .i64 e)∧wz.cell? ⟨bi,oi+fr*3+1,none⟩=some (.string gd))
                (first | assumption | exact S9.out | go_keep)
                (first | (go_at_call 196;refine HM.out.mono ?_;rintro en w9 ⟨rfl,hb0⟩;have hb:=Below.undrew hb0;have S9:=hI_ (show w9.cell? ⟨w.heap.size,0,none⟩=some (.slice am k.mem.length cm)∧w9.cell? ⟨w.heap.size,1,none⟩=some (.slice (some ⟨bi,oi,none⟩) k.infos.length ci)∧w9.cell? ⟨w.heap.size,2,none⟩=some (.slice ae k.envs.length ce)∧w9.cell? ⟨w.heap.size,3,none⟩=some (.slice aj ca.length cj)∧w9.cell? ⟨w0.heap.size,1,none⟩=some (.int .i64 e)∧w9.cell? ⟨bi,oi+fr*3+1,none⟩=some (.string gd) from ⟨(X0.out.below hb).cell 0,(X0.out.below hb).cell 1,(X0.out.below hb).cell 2,(X0.out.below hb).cell 3,(X1.out.below hb).cell 1,(hb.cell (p:=⟨bi,oi+fr*3+1,none⟩) (World.block_lt_of_cell? wr _ q1)).trans q1⟩)))
              go_wp2_with fail;go_meet;exact ⟨by rw [Hk0.out.2],by rw [Hk0.out.1],by rw [HD.out],hb⟩
          case rest =>
            obtain ⟨rfl,rfl,rfl,hbh⟩:=hcut;have hb:=hbh.out;clear hbh;obtain ⟨X0,X1,X2,HO,Bw,zz⟩:=kgo hb Hbase.out s0 X0 X1 X2 HO Bw;clear hb zz
            cases sd with
            | true =>
              have HF:=hI_ (show Kx.setK k ⟨ckd,e,f,cb,cc,cnm⟩=(k,0,1) by rw [HV.out,if_pos hsd]);clear HV HB hsd HD;obtain ⟨p0,p1,p2,p3⟩:=X0.out.c4;obtain ⟨r0,r1,r2,r3⟩:=X2.out.c4;obtain ⟨fr0,fr1,fr2,fr3⟩:=X2.out.f4;go_wp2_with fail;obtain ⟨e0,e1,e2,e3,hB4,hK4⟩:=kend X2.out rfl Bw.out (by have:=Hbase.out;omega) (.slice am k.mem.length cm) (.slice (some ⟨bi,oi,none⟩) k.infos.length ci) (.slice ae k.envs.length ce) (.slice aj ca.length cj);refine bodyPost_ret (v:=.tuple #[.agg #[.slice am k.mem.length cm,.slice (some ⟨bi,oi,none⟩) k.infos.length ci,.slice ae k.envs.length ce,.slice aj ca.length cj],.int .i64 0,.int .i64 1]) (by simp [results,Tryz.results178,go_sem,e0,e1,e2,e3]) rfl ?_;exact kerr HF.out (show (1:Int)≠0 by decide) hB4
            | false =>
              obtain ⟨hib,_⟩:=HB.out;obtain ⟨b0,b3⟩:=Kx.inR_true.1 hib;obtain ⟨b,rfl⟩:=Int.eq_ofNat_of_zero_le b0;have hb4:b<4:=by omega
              have HV:=hI_ (show Kx.setK k ⟨ckd,e,f,b,cc,cnm⟩=(⟨Kx.setWord k.mem f b cc,Kx.setRefsO (Kx.setRefsO k.infos (Kx.word k.mem f b) (-1)) cc 1,k.envs,ca⟩,0,0) by rw [HV.out,if_neg (by rw [hsd];decide)];rfl);clear HB hsd HD hib b0 b3;obtain ⟨bm,om,cm',um',ev,hcm,hru⟩:=HO.out.m.rm.row Hmo.out hf12;obtain ⟨hm12,hr4,_⟩:=mem_row Hmo.out hf12;simp only [Value.slice.injEq] at ev;obtain ⟨rfl,hmL,rfl⟩:=ev;obtain ⟨br,oR,cr,rfl,hbrl,q0⟩:=hru.at (k:=b) (by rw [hr4];omega);rw [hr4] at hcm;have hw0:(Kx.row k.mem f)[b]'(by rw [hr4];omega)=Kx.word k.mem f b:=by unfold Kx.word;simp [hr4,hb4]
              rw [hw0] at q0;have Hm12:=hI_ hm12;have Hr4:=hI_ hr4;have hfM:(f:Int)<(k.mem.length:Int):=by omega
              have hbI:(b:Int)<4:=by omega
              clear hw0 hru hm12 hr4 hmL;obtain ⟨old,hold⟩:∃ old,Kx.word k.mem f b=old:=⟨_,rfl⟩;rw [hold] at HV q0;obtain ⟨p0,p1,p2,p3⟩:=X0.out.c4;obtain ⟨c0,c1,c2,c3,c4,c5⟩:=X1.out.c6;go_wp2_with fail;go_quiet ((go_at_call 99;exact Calls.quiet_of_same ((specEntryGet_c _ _).mono fun _ _ ⟨he,hw⟩=>⟨(show _=Ending.returned (.tuple #[.int .i64 (egF old),.bool (egW old),.bool (egK old)]) from he),hw.symm⟩)))
              obtain ⟨W1,hW1⟩:∃ W1,wc.drewN nq=W1:=⟨_,rfl⟩;have hb:Below wc.heap.size wc W1:=hW1 ▸ below_drewN wc nq;rw [hW1];clear hW1 q0 hcm;clear p0 p1 p2 p3;clear c0 c1 c2 c3 c4 c5;obtain ⟨X0,X1,X2,HO,Bw,zz⟩:=kgo hb Hbase.out s0 X0 X1 X2 HO Bw;clear hb zz;have HN:=hI_ (Near.ofOk Hio.out);go_upto_if 129 with fail;go_cut [14,16] from 17 (fun s14 s16 wx=>s14=.int .i64 (egF old)∧s16=.bool (egK old)∧Hid (KSt w wx base w.heap.size w0.heap.size w1.heap.size (.slice (some ⟨bm,om,none⟩) k.mem.length cm) (.slice (some ⟨bi,oi,none⟩) k.infos.length ci) (.slice ae k.envs.length ce) (.slice aj ca.length cj) [.int .i64 ckd,.int .i64 e,.int .i64 f,.int .i64 b,.int .i64 cc,.string cnm] [.slice none 0 0,.slice none 0 0,.slice none 0 0,.slice none 0 0] (⟨k.mem,(Kx.setRefsO k.infos old (-1)),k.envs,ca⟩:Kx.Kernel)))
              case first =>
                cases hen:Kx.entry old with
                | none =>
                  have Hk0:=hI_ (egK_none hen);rw [Hk0.out];have HE:=hI_ (setRefsO_none (l:=(⟨k.mem,k.infos,k.envs,ca⟩:Kx.Kernel).infos) (d:=(-1)) hen);clear hen;go_wp2_with fail;go_meet;exact ⟨rfl,by rw [Hk0.out],by rw [HE.out];exact ⟨X0.out,X1.out,X2.out,HO.out,Bw.out⟩⟩
                | some pr =>
                  obtain ⟨fo,bw⟩:=pr;have hfo:=entry_lt hen;have Hk0:=hI_ (egK_some hen);rw [Hk0.out.1,Hk0.out.2];have HE:=hI_ (setRefsO_some (l:=(⟨k.mem,k.infos,k.envs,ca⟩:Kx.Kernel).infos) (d:=(-1)) hen);clear hen;have hL:=hI_ (show (⟨k.mem,k.infos,k.envs,ca⟩:Kx.Kernel).infos.length=k.infos.length from rfl);obtain ⟨_,_,ev,hbg,hbl,⟨csg,hgk⟩,_,hfz,hrf,hset⟩:=(HO.out.below (Below.drewB (Below.refl _ W1))).setRefs (f:=fo) (by rw [hL.out,H12.out];exact hfo);rw [hL.out] at ev;simp only [Value.slice.injEq,Option.some.injEq,Addr.mk.injEq] at ev;obtain ⟨⟨rfl,rfl,_⟩,_,rfl⟩:=ev;have hn:=HN.out fo;obtain ⟨r,hr⟩:∃ r,(Kx.inf (⟨k.mem,k.infos,k.envs,ca⟩:Kx.Kernel).infos fo).refs=r:=⟨_,rfl⟩;rw [hr] at hn hrf HE;have hset:=hI_ (hset (r - 1));have hwr:IntKind.i64.wrap (r - 1)=r - 1:=by rw [IntKind.wrap_i64];omega
                  have hfoI:(fo:Int)<(k.infos.length:Int):=by have:=H12.out;omega
                  obtain ⟨p0,p1,p2,p3⟩:=X0.out.c4;go_wp2_with fail;go_still_tail 12,(by kernel_rfl)
                  change wpList _ _ _ _ _ W1.drew;have hb:Below W1.heap.size W1 W1.drew:=Below.drewB bR_;obtain ⟨X0,X1,X2,Bw⟩:=kput (fo*3+2) (.int .i64 (r - 1)) (show W1.drew.heap[bi]?=_ from hgk) (by decide) (by decide) hbg (hI_ (X0.out.below hb)) (hI_ (X1.out.below hb)) (hI_ (X2.out.below hb)) (hI_ (Bw.out.go (Below.drewB bR_) Hbase.out));go_wp2_with fail;go_meet;exact ⟨by rw [Hk0.out.2],by rw [Hk0.out.1],by rw [HE.out];exact ⟨X0.out,X1.out,X2.out,hset.out,Bw.out⟩⟩
              case rest =>
                obtain ⟨rfl,rfl,hst⟩:=hcut;clear X0 X1 X2 HO Bw;obtain ⟨X0,X1,X2,HO,Bw⟩:=hst.out.parts;clear hst;go_upto_if 142 with fail;go_cut [8,10] from 17 (fun s14 s16 wx=>s14=.int .i64 (egF cc)∧s16=.bool (egK cc)∧Hid (KSt w wx base w.heap.size w0.heap.size w1.heap.size (.slice (some ⟨bm,om,none⟩) k.mem.length cm) (.slice (some ⟨bi,oi,none⟩) k.infos.length ci) (.slice ae k.envs.length ce) (.slice aj ca.length cj) [.int .i64 ckd,.int .i64 e,.int .i64 f,.int .i64 b,.int .i64 cc,.string cnm] [.slice none 0 0,.slice none 0 0,.slice none 0 0,.slice none 0 0] (⟨k.mem,(Kx.setRefsO (Kx.setRefsO k.infos old (-1)) cc 1),k.envs,ca⟩:Kx.Kernel)))
                case first =>
                  cases hen:Kx.entry cc with
                  | none =>
                    have Hk0:=hI_ (egK_none hen);rw [Hk0.out];have HE:=hI_ (setRefsO_none (l:=(⟨k.mem,(Kx.setRefsO k.infos old (-1)),k.envs,ca⟩:Kx.Kernel).infos) (d:=1) hen);clear hen;go_wp2_with fail;go_meet;exact ⟨rfl,by rw [Hk0.out],by rw [HE.out];exact ⟨X0.out,X1.out,X2.out,HO.out,Bw.out⟩⟩
                  | some pr =>
                    obtain ⟨fo,bw⟩:=pr;have hfo:=entry_lt hen;have Hk0:=hI_ (egK_some hen);rw [Hk0.out.1,Hk0.out.2];have HE:=hI_ (setRefsO_some (l:=(⟨k.mem,(Kx.setRefsO k.infos old (-1)),k.envs,ca⟩:Kx.Kernel).infos) (d:=1) hen);clear hen;have hL:=hI_ (show (⟨k.mem,(Kx.setRefsO k.infos old (-1)),k.envs,ca⟩:Kx.Kernel).infos.length=k.infos.length from setRefsO_length);obtain ⟨_,_,ev,hbg,hbl,⟨csg,hgk⟩,_,hfz,hrf,hset⟩:=(HO.out.below (Below.drewB (Below.refl _ wc))).setRefs (f:=fo) (by rw [hL.out,H12.out];exact hfo);rw [hL.out] at ev;simp only [Value.slice.injEq,Option.some.injEq,Addr.mk.injEq] at ev;obtain ⟨⟨rfl,rfl,_⟩,_,rfl⟩:=ev;have hn:=(HN.out.setO (x:=old) (d:=-1) (.inr rfl) H12.out) fo;obtain ⟨r,hr⟩:∃ r,(Kx.inf (⟨k.mem,(Kx.setRefsO k.infos old (-1)),k.envs,ca⟩:Kx.Kernel).infos fo).refs=r:=⟨_,rfl⟩;rw [hr] at hn hrf HE;have hset:=hI_ (hset (r+1))
                    have hwr:IntKind.i64.wrap (r+1)=r+1:=by rw [IntKind.wrap_i64];omega
                    have hfoI:(fo:Int)<(k.infos.length:Int):=by have:=H12.out;omega
                    obtain ⟨p0,p1,p2,p3⟩:=X0.out.c4;go_wp2_with fail;go_still_tail 12,(by kernel_rfl)
                    change wpList _ _ _ _ _ wc.drew;have hb:Below wc.heap.size wc wc.drew:=Below.drewB bR_;obtain ⟨X0,X1,X2,Bw⟩:=kput (fo*3+2) (.int .i64 (r+1)) (show wc.drew.heap[bi]?=_ from hgk) (by decide) (by decide) hbg (hI_ (X0.out.below hb)) (hI_ (X1.out.below hb)) (hI_ (X2.out.below hb)) (hI_ (Bw.out.go (Below.drewB bR_) Hbase.out));go_wp2_with fail;go_meet;exact ⟨by rw [Hk0.out.2],by rw [Hk0.out.1],by rw [HE.out];exact ⟨X0.out,X1.out,X2.out,hset.out,Bw.out⟩⟩
                case rest =>
                  obtain ⟨rfl,rfl,hst⟩:=hcut;clear X0 X1 X2 HO Bw;obtain ⟨X0,X1,X2,HO,Bw⟩:=hst.out.parts;clear hst;obtain ⟨W9,hW9⟩:∃ W9,wc.drew=W9:=⟨_,rfl⟩;have hb:Below wc.heap.size wc W9:=hW9 ▸ Below.drewB bR_;obtain ⟨p0,p1,p2,p3⟩:=X0.out.c4;obtain ⟨c0,c1,c2,c3,c4,c5⟩:=X1.out.c6;obtain ⟨bq,cq',g,cg,eu,hrow,hgb,hbqg,⟨csg,hgk⟩,hz,hfz,hset⟩:=(HO.out.below hb).setWord (f:=f) (a:=b) (by show f<k.mem.length;rw [Hm12.out];exact hf12) (by show b<(Kx.row k.mem f).length;rw [Hr4.out];exact hb4);change W9.cell? _=some (.slice _ (Kx.row k.mem f).length _) at hrow;rw [Hr4.out] at hrow;simp only [Value.slice.injEq,Option.some.injEq,Addr.mk.injEq] at eu;obtain ⟨⟨rfl,rfl,_⟩,_,rfl⟩:=eu;have hset:=hI_ (hset cc);obtain ⟨z,hz⟩:=hz;have hrow0:wc.cell? ⟨bm,f,none⟩=some (.slice (some ⟨g,0,none⟩) 4 cg):=by rw [←hW9] at hrow;exact hrow
                  have HW9:=hI_ hW9;clear hW9;go_wp2_with fail;go_still_tail 11,(by kernel_rfl)
                  change wpList _ _ _ _ _ wc.drew;rw [HW9.out];obtain ⟨X0,X1,X2,Bw⟩:=kput b (.int .i64 cc) hgk (by decide) (by decide) hgb (hI_ (X0.out.below hb)) (hI_ (X1.out.below hb)) (hI_ (X2.out.below hb)) (hI_ (Bw.out.go hb Hbase.out));clear HW9;have HF:=hI_ (show Kx.setK k ⟨ckd,e,f,b,cc,cnm⟩=(⟨Kx.setWord k.mem f b cc,(Kx.setRefsO (Kx.setRefsO k.infos old (-1)) cc 1),k.envs,ca⟩,0,0) from HV.out);clear p0 p1 p2 p3 c0 c1 c2 c3 c4 c5 HV;obtain ⟨p0,p1,p2,p3⟩:=X0.out.c4;obtain ⟨r0,r1,r2,r3⟩:=X2.out.c4;obtain ⟨fr0,fr1,fr2,fr3⟩:=X2.out.f4;go_wp2_with fail;obtain ⟨e0,e1,e2,e3,hB4,hK4⟩:=kend X2.out rfl Bw.out (by have:=Hbase.out;omega) (.slice (some ⟨bm,0,none⟩) k.mem.length cm) (.slice (some ⟨bi,oi,none⟩) k.infos.length ci) (.slice ae k.envs.length ce) (.slice aj ca.length cj)
                  refine bodyPost_ret (v:=.tuple #[.agg #[.slice (some ⟨bm,0,none⟩) k.mem.length cm,.slice (some ⟨bi,oi,none⟩) k.infos.length ci,.slice ae k.envs.length ce,.slice aj ca.length cj],.int .i64 0,.int .i64 0]) (by simp [results,Tryz.results178,go_sem,e0,e1,e2,e3]) rfl ?_;exact kdid HF.out hB4 (hK4 rfl _ _ _ _ _ hset.out)
end Go.Proofs.YtenebmeaoidnoaaGreatDoor
