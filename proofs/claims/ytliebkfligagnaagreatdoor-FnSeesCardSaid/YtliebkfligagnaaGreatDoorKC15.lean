/- Contracts: the reference's l22Set. (printed by kc15.py) -/
import Derived.Test.YtliebkfligagnaaGreatDoorKC14
import Derived.Deep.CutRange
set_option maxHeartbeats 4000000
set_option maxRecDepth 100000
set_option linter.all false
namespace Go.Proofs.YtliebkfligagnaaGreatDoor
open Go.RowKit
theorem zQ {k:Kx.Kernel} {c:Kx.Call} (h:Kx.aO k c 0=0):∃ f:Nat,c.a=f∧f<12∧Kx.aX (Kx.inf k.ag f).kind=true:=by
 unfold Kx.aO at h;split at h
 ·exact absurd h (by decide)
 rename_i h1
 split at h
 ·exact absurd h (by decide)
 split at h
 ·exact absurd h (by decide)
 rename_i h3
 cases hin:Kx.bK c.a 0 11 with
 | false=>rw [hin] at h1;exact absurd rfl h1
 | true =>
  obtain ⟨a0,a11⟩:=Kx.ay.1 hin;obtain ⟨f,hf⟩:=Int.eq_ofNat_of_zero_le a0;refine ⟨f,hf,by omega,?_⟩;rw [hf] at h3
  cases ht:Kx.aX (Kx.inf k.ag f).kind with
  | true=>rfl
  | false=>exact absurd (.inr ⟨rfl,ht⟩) h3
theorem below_drewN (w:World) (n:Nat):Below w.heap.size w (w.drewN n):=let h:=Below.refl w.heap.size w;⟨h.os,h.tape,h.output,h.size,h.block⟩
theorem uB {x:Int} (h:Kx.entry x=none):Ik x=false:=by have:=G7 h;simp only [Eg,Ending.returned.injEq,Value.tuple.injEq] at this;simp at this;exact this.2.2
theorem uC {x:Int} {f:Nat} {b:Bool} (h:Kx.entry x=some (f,b)):Ik x=true∧FK x=f:=by have:=C_ h;simp only [Eg,Ending.returned.injEq,Value.tuple.injEq] at this;simp at this;exact ⟨this.2.2,this.1⟩
theorem J6 {k:Kx.Kernel} {t:Int}:∀ x ∈ Kx.kw k t,x<k.ah.length:=fun x hx=>by
 unfold Kx.kw at hx;exact List.mem_range.1 (List.mem_filter.1 hx).1
theorem Il {k:Kx.Kernel} {x:Int}:∀ g ∈ Kx.behind k x,g<12:=fun g hg=>by
 unfold Kx.behind at hg;split at hg
 ·cases hg
 rename_i f b he
 have hf:=dU he;split at hg
 ·simp only [List.mem_singleton] at hg;omega
 rcases List.mem_cons.1 hg with rfl | h
 ·exact hf
 exact nD h
theorem Gu {w:World} {base:Nat} {u:Value} {l:List Nat} (h:OI w base u (fU l)):∃ a c,u=.slice a l.length c:=by
 obtain ⟨a,c,e⟩:=h.ri.val;exact ⟨a,c,by rw [e,aQ]⟩
def M_ (w W:World) (base g0 g1 g2:Nat) (um ui ue uc:Value) (l1 l2:List Value) (k:Kx.Kernel):Prop:=
 BX W g0 36 [um,ui,ue,uc]∧BX W g1 40 l1∧BX W g2 36 l2∧KO W base um ui ue uc k∧Kept base w W
theorem M_.parts {w W:World} {base g0 g1 g2:Nat} {um ui ue uc:Value} {l1 l2:List Value} {k:Kx.Kernel} (h:M_ w W base g0 g1 g2 um ui ue uc l1 l2 k) :
  Hid (BX W g0 36 [um,ui,ue,uc])∧Hid (BX W g1 40 l1)∧Hid (BX W g2 36 l2)∧Hid (KO W base um ui ue uc k)∧Hid (Kept base w W):=h
def iE (c:List Kx.Cached) (us:List Nat) (j:Nat):List Kx.Cached:=(us.take j).foldl (fun (ca:List Kx.Cached) (e:Nat)=>Kx.fP ca (e:Int)) c
theorem BU (c:List Kx.Cached) (us:List Nat) {j:Nat} (hj:j<us.length):iE c us (j+1)=Kx.fP (iE c us j) (us[j]:Int):=by
 unfold iE;rw [List.take_succ_eq_append_getElem hj,List.foldl_append];rfl
theorem yD {w W:World} {base g0 g1 g2 b t':Nat} {l0 l1 l2:List Value} {cs:Array Value} (o:Nat) (v:Value) (hk:W.heap[b]?=some (.cells cs t' (0,0))) (h1:36≠t') (h2:40≠t') (hg:base≤b) (X0:Hid (BX W g0 36 l0)) (X1:Hid (BX W g1 40 l1)) (X2:Hid (BX W g2 36 l2)) (Bw:Hid (Kept base w W)) (h3:¬ Box? t':=by decide) :
  Hid (BX (W.setCell ⟨b,o,none⟩ v) g0 36 l0)∧Hid (BX (W.setCell ⟨b,o,none⟩ v) g1 40 l1)∧Hid (BX (W.setCell ⟨b,o,none⟩ v) g2 36 l2)∧Hid (Kept base w (W.setCell ⟨b,o,none⟩ v)):=
 ⟨X0.out.other (X0.out.ne hk h1) o v,X1.out.other (X1.out.ne hk h2) o v,X2.out.other (X2.out.ne hk h1) o v,Bw.out.put hk hg h3 o v⟩
theorem nT {l:List Kx.aG} {x d:Int} (h:Kx.entry x=none):Kx.aP l x d=l:=by unfold Kx.aP;rw [h]
theorem nU {l:List Kx.aG} {x d:Int} {f:Nat} {b:Bool} (h:Kx.entry x=some (f,b)):Kx.aP l x d=l.set f { Kx.inf l f with refs:=(Kx.inf l f).refs+d }:=by unfold Kx.aP;rw [h];rfl
theorem fH {l:List Kx.aG} {x d:Int}:(Kx.aP l x d).length=l.length:=by unfold Kx.aP;split <;> simp [Kx.aF]
theorem oI.jb {b d:Int} {l:List Kx.aG} {x:Int} (h:oI b l) (hd:d=1∨d=-1) (h12:l.length=12):oI (b+1) (Kx.aP l x d):=by
 cases he:Kx.entry x with
 | none=>rw [nT he];intro g;have:=h g;omega
 | some p =>
  obtain ⟨f,bb⟩:=p;rw [nU he];exact h.set hd (by rw [h12];exact dU he)
theorem Ox {x:Int} (h:Kx.entry x=none) (h2:(Kx.dY x==2)=false):x=0:=by
 unfold Kx.dY at h2;split at h2
 ·assumption
 rw [h] at h2;simp at h2
theorem J7 (k:Kx.Kernel) (c:Kx.Call) (e:Nat) (base:Nat) (um ui ue uc:Value) (w:World) (h:KO w base um ui ue uc k) (hbase:base≤w.heap.size) (hok:Kx.az k=true) (hs:iQ k) (hce:c.env=e) (he:e<3) :
  Calls Tryz.prog 164 #[.agg #[um,ui,ue,uc],dW c] w (vk base w (Kx.lQ k c)):=by
 obtain ⟨bQ,JF,ca,cb,cc,bg⟩:=c;simp only at hce;subst hce;obtain ⟨am,cm,ai,ci,ae,ce,ac,cq,w0,w1,w2,rfl,rfl,rfl,rfl,hw0,hw1,hw2,X0,X1,X2,Bw,HO,s0,s1,s2⟩:=pF h hbase bQ e ca cb cc bg;obtain ⟨hmo,jI,h12,hco,h3,hro⟩:=aI hok;have kG:=af hmo;have MX:=af hro;have nM:=af jI;have fJ:=af h12;have H3:=af h3;have bF:=af hok;have Hs:=af hs;have aC:=af hbase;clear h hok hs hmo jI h12 hco h3 hro;have HV:=af (show Kx.lQ k (⟨bQ,e,ca,cb,cc,bg⟩:Kx.Call)=(if Kx.aO k (⟨bQ,e,ca,cb,cc,bg⟩:Kx.Call) 0≠0 then (k,0,Kx.aO k (⟨bQ,e,ca,cb,cc,bg⟩:Kx.Call) 0)
  else if Kx.qJ k (⟨bQ,e,ca,cb,cc,bg⟩:Kx.Call) then (k,0,3)
  else if !((Kx.kw k ca).all fun e=>Kx.allowed k.ag (Kx.behind k cc) (Kx.au k.ah e).aB) then (k,0,1)
  else if Kx.lJ k (⟨bQ,e,ca,cb,cc,bg⟩:Kx.Call) then (k,0,1)
  else (⟨Kx.bG k.mem ca.toNat cb.toNat cc,Kx.aP (Kx.aP k.ag (Kx.word k.mem ca.toNat cb.toNat) (-1)) cc 1,k.ah,(Kx.kw k ca).foldl (fun (ca:List Kx.Cached) (e:Nat)=>Kx.fP ca (e:Int)) k.cache⟩,0,0)) from rfl)
 have HC:=af (sZ k (⟨bQ,e,ca,cb,cc,bg⟩:Kx.Call) e 0 _ _ _ _ w2 HO.out.rk fJ.out H3.out rfl he (.inr rfl));obtain ⟨p0,p1,p2,p3⟩:=X0.out.c4;obtain ⟨c0,c1,c2,c3,c4,c5⟩:=X1.out.c6;unfold dW;go_enter Tryz.func164,Tryz.ntmps164;go_wp2_with fail;refine HC.out.mono ?_;rintro en w3 ⟨rfl,hb⟩;clear HC;clear p0 p1 p2 p3;clear c0 c1 c2 c3 c4 c5;obtain ⟨X0,X1,X2,HO,Bw,zz⟩:=ru hb aC.out s0 X0 X1 X2 HO Bw;clear hb zz
 by_cases hc:Kx.aO k (⟨bQ,e,ca,cb,cc,bg⟩:Kx.Call) 0=0
 case neg =>
  have HF:=af (show Kx.lQ k (⟨bQ,e,ca,cb,cc,bg⟩:Kx.Call)=(k,0,Kx.aO k (⟨bQ,e,ca,cb,cc,bg⟩:Kx.Call) 0) by rw [HV.out,if_pos hc]);have hcb:(Kx.aO k (⟨bQ,e,ca,cb,cc,bg⟩:Kx.Call) 0 != 0)=true:=by simpa using hc
  clear HV;generalize Kx.aO k (⟨bQ,e,ca,cb,cc,bg⟩:Kx.Call) 0=code at hc hcb HF ⊢;obtain ⟨p0,p1,p2,p3⟩:=X0.out.c4;obtain ⟨r0,r1,r2,r3⟩:=X2.out.c4;obtain ⟨jh,ji,jk,jl⟩:=X2.out.f4;go_wp2_with fail;obtain ⟨e0,e1,e2,e3,hB4,hK4⟩:=fG X2.out rfl Bw.out (by have:=aC.out;omega) (.slice am k.mem.length cm) (.slice ai k.ag.length ci) (.slice ae k.ah.length ce) (.slice ac k.cache.length cq);refine bodyPost_ret (v:=.tuple #[.agg #[.slice am k.mem.length cm,.slice ai k.ag.length ci,.slice ae k.ah.length ce,.slice ac k.cache.length cq],.int .i64 0,.int .i64 code]) (by simp [results,Tryz.results164,go_sem,e0,e1,e2,e3]) rfl ?_;exact jY HF.out hc hB4
 replace HV:=af (by have:=HV.out;rw [if_neg (by rw [hc];simp)] at this;exact this);rw [hc];obtain ⟨f,hf,dG,hft⟩:=zQ hc;simp only at hf;subst hf;rw [show ((f:Int)).toNat=f from rfl] at HV;clear hc;have wJ:(f:Int)<(k.ag.length:Int):=by have:=fJ.out;omega
 obtain ⟨bi,oi,ci',ev,zN,g0,g1,g2⟩:=bV.at HO.out.i.rs (k:=f) (by have:=fJ.out;omega);simp only [Value.slice.injEq] at ev;obtain ⟨rfl,_,rfl⟩:=ev;obtain ⟨p0,p1,p2,p3⟩:=X0.out.c4;obtain ⟨c0,c1,c2,c3,c4,c5⟩:=X1.out.c6;go_wp2_with fail;refine (bM _ _).mono ?_;rintro en w4 ⟨rfl,rfl⟩;unfold Eg;go_upto_region 5 with fail;have HB:=af (show Kx.qJ k ⟨bQ,e,f,cb,cc,bg⟩=(!Kx.bK cb 0 3||Kx.dY cc==2||(match Kx.entry cc with | none=>false | some (g,_)=>(Kx.inf k.ag g).kind != (Kx.inf k.ag f).kind - 1)) from rfl)
 obtain ⟨kf,Np⟩:∃ kf,(Kx.inf k.ag f).kind=kf:=⟨_,rfl⟩;rw [Np] at g0 HB hft;have aan:2≤kf∧kf≤3:=by simp only [Kx.aX,Bool.or_eq_true,beq_iff_eq] at hft;omega
 have hkw:IntKind.i64.wrap (kf - 1)=kf - 1:=by rw [IntKind.wrap_i64];omega
 obtain ⟨sb,hsb⟩:∃ sb,Kx.qJ k ⟨bQ,e,f,cb,cc,bg⟩=sb:=⟨_,rfl⟩;rw [hsb] at HB;clear hft;go_cut [8,10,60] from 17 (fun s8 s10 s wx=>s8=.int .i64 (FK cc)∧s10=.bool (Ik cc)∧s=.bool sb∧Hid (Below w3.heap.size w3 wx))
 case first =>
  cases hib:Kx.bK cb 0 3 with
  | false =>
   have Io:=af hib;have HB:=af (show sb=true by rw [HB.out,hib];rfl);clear hib;go_quiet ((go_at_call 99;exact Calls.quiet_of_same ((tq _ _ _ _).mono fun _ _ ⟨he,hw⟩=>⟨by rw [he,show bK cb 0 3=false from Io.out],hw.symm⟩)))
   go_wp2_with fail;go_meet;exact ⟨rfl,rfl,by rw [HB.out],below_drewN _ _⟩
  | true =>
   cases Tv:(Kx.dY cc==2) with
   | true =>
    have Io:=af hib;have HB:=af (show sb=true by rw [HB.out,hib,Tv];rfl);have Tz:=af (show Kx.dY cc=2 by simpa using Tv);clear hib Tv;go_quiet (first | (go_at_call 99;exact Calls.quiet_of_same ((tq _ _ _ _).mono fun _ _ ⟨he,hw⟩=>⟨by rw [he,show bK cb 0 3=true from Io.out],hw.symm⟩)) | (go_at_call 185;exact Calls.quiet_of_same ((jA _ _).mono fun _ _ ⟨he,hw⟩=>⟨by rw [he,Tz.out],hw.symm⟩)))
    go_wp2_with fail;go_meet;exact ⟨rfl,rfl,by rw [HB.out],below_drewN _ _⟩
   | false =>
    cases hen:Kx.entry cc with
    | none =>
     have Io:=af hib;have HB:=af (show sb=false by rw [HB.out,hib,Tv,hen];rfl);have oV:=af (uB hen);rw [oV.out];clear hib hen;go_quiet (first | (go_at_call 99;exact Calls.quiet_of_same ((tq _ _ _ _).mono fun _ _ ⟨he,hw⟩=>⟨by rw [he,show bK cb 0 3=true from Io.out],hw.symm⟩)) | (go_at_call 185;exact Calls.quiet_of_same ((jA _ _).mono fun _ _ ⟨he,hw⟩=>⟨he,hw.symm⟩)))
     go_wp2_with fail;go_meet;exact ⟨rfl,by rw [oV.out],by rw [HB.out],below_drewN _ _⟩
    | some pr =>
     obtain ⟨fr,bw⟩:=pr;have hfr:=dU hen;have Io:=af hib;have HB:=af (show sb=((Kx.inf k.ag fr).kind != kf - 1) by rw [HB.out,hib,Tv,hen];simp);have oV:=af (uC hen);rw [oV.out.1,oV.out.2];clear hib hen;have VZ:(fr:Int)<(k.ag.length:Int):=by have:=fJ.out;omega
     obtain ⟨_,_,_,ev,_,q0,_,_⟩:=bV.at HO.out.i.rs (k:=fr) (by have:=fJ.out;omega);simp only [Value.slice.injEq,Option.some.injEq,Addr.mk.injEq] at ev;obtain ⟨⟨rfl,rfl,_⟩,_,rfl⟩:=ev;generalize (Kx.inf k.ag fr).kind=kr at q0 HB;go_quiet (first | (go_at_call 99;exact Calls.quiet_of_same ((tq _ _ _ _).mono fun _ _ ⟨he,hw⟩=>⟨by rw [he,show bK cb 0 3=true from Io.out],hw.symm⟩)) | (go_at_call 185;exact Calls.quiet_of_same ((jA _ _).mono fun _ _ ⟨he,hw⟩=>⟨he,hw.symm⟩)))
     go_wp2_with fail;go_meet;exact ⟨by rw [oV.out.2],by rw [oV.out.1],by rw [HB.out],below_drewN _ _⟩
 case rest =>
  obtain ⟨rfl,rfl,rfl,Dt⟩:=hcut;have hb:=Dt.out;clear Dt;clear g0 g1 g2 p0 p1 p2 p3 c0 c1 c2 c3 c4 c5;obtain ⟨X0,X1,X2,HO,Bw,zz⟩:=ru hb aC.out s0 X0 X1 X2 HO Bw;clear hb zz;have HV:=af (show Kx.lQ k ⟨bQ,e,f,cb,cc,bg⟩=(if sb then (k,0,3) else if !((Kx.kw k f).all fun e=>Kx.allowed k.ag (Kx.behind k cc) (Kx.au k.ah e).aB) then (k,0,1)
   else if Kx.lJ k ⟨bQ,e,f,cb,cc,bg⟩ then (k,0,1)
   else (⟨Kx.bG k.mem f cb.toNat cc,Kx.aP (Kx.aP k.ag (Kx.word k.mem f cb.toNat) (-1)) cc 1,k.ah,(Kx.kw k f).foldl (fun (ca:List Kx.Cached) (e:Nat)=>Kx.fP ca (e:Int)) k.cache⟩,0,0)) by rw [←hsb];exact HV.out)
  cases sb with
  | true =>
   have HF:=af (show Kx.lQ k ⟨bQ,e,f,cb,cc,bg⟩=(k,0,3) by rw [HV.out,if_pos rfl]);clear HV HB hsb;obtain ⟨p0,p1,p2,p3⟩:=X0.out.c4;obtain ⟨r0,r1,r2,r3⟩:=X2.out.c4;obtain ⟨jh,ji,jk,jl⟩:=X2.out.f4;go_wp2_with fail;obtain ⟨e0,e1,e2,e3,hB4,hK4⟩:=fG X2.out rfl Bw.out (by have:=aC.out;omega) (.slice am k.mem.length cm) (.slice (some ⟨bi,oi,none⟩) k.ag.length ci) (.slice ae k.ah.length ce) (.slice ac k.cache.length cq);refine bodyPost_ret (v:=.tuple #[.agg #[.slice am k.mem.length cm,.slice (some ⟨bi,oi,none⟩) k.ag.length ci,.slice ae k.ah.length ce,.slice ac k.cache.length cq],.int .i64 0,.int .i64 3]) (by simp [results,Tryz.results164,go_sem,e0,e1,e2,e3]) rfl ?_;exact jY HF.out (show (3:Int)≠0 by decide) hB4
  | false =>
   have HV:=af (by have:=HV.out;rw [if_neg (by decide)] at this;exact this);obtain ⟨us,hus⟩:∃ us,Kx.kw k f=us:=⟨_,rfl⟩;obtain ⟨bs,hbs⟩:∃ bs,Kx.behind k cc=bs:=⟨_,rfl⟩;have V_:=af (show ∀ x ∈ bs,x<k.ag.length by rw [fJ.out,←hbs];exact Il);have hul:us.length≤3:=by rw [←hus,←H3.out];exact Nat.le_trans (List.length_filter_le _ _) (by simp)
   have MB:=af (show ∀ x ∈ us,x<3 by rw [←hus,←H3.out];exact J6);have We:=af (Dv k cc _ _ _ _ wc HO.out.rk kG.out fJ.out);rw [hus,hbs] at HV;rw [hbs] at We;obtain ⟨p0,p1,p2,p3⟩:=X0.out.c4;obtain ⟨c0,c1,c2,c3,c4,c5⟩:=X1.out.c6;go_wp2_with fail;refine We.out.mono ?_;rintro en w5 ⟨u5,rfl,zK,hb⟩;obtain ⟨a5,k5,rfl⟩:=Gu zK;have O5:=af zK;have zu:=af X0.out.lt;clear zK We;clear p0 p1 p2 p3;clear c0 c1 c2 c3 c4 c5;have z5:=af hb.size;obtain ⟨X0,X1,X2,HO,Bw,zz⟩:=ru hb aC.out s0 X0 X1 X2 HO Bw;clear hb zz;have Wh:=af (E8 k f _ _ _ _ w5 HO.out.rk kG.out MX.out H3.out);rw [hus] at Wh;obtain ⟨p0,p1,p2,p3⟩:=X0.out.c4;obtain ⟨c0,c1,c2,c3,c4,c5⟩:=X1.out.c6;go_wp2_with fail;refine Wh.out.mono ?_;rintro en w6 ⟨u6,rfl,yI,hb⟩;obtain ⟨a6,k6,rfl⟩:=Gu yI;replace O5:=af (O5.out.below hb);have O6:=af yI;clear yI Wh;clear p0 p1 p2 p3
   clear c0 c1 c2 c3 c4 c5;obtain ⟨X0,X1,X2,HO,Bw,zz⟩:=ru hb aC.out s0 X0 X1 X2 HO Bw;clear hb zz;go_wp2_with fail;go_loopw [13] (fun i wr=>∃ (j:Nat) (aj:Option Addr) (cj:Nat),i=.int .i64 j∧j≤us.length∧Hid (∀ x ∈ us.take j,Kx.allowed k.ag bs (Kx.au k.ah x).aB=true)∧Hid (M_ w wr base w.heap.size w0.heap.size w1.heap.size (.slice am k.mem.length cm) (.slice (some ⟨bi,oi,none⟩) k.ag.length ci) (.slice ae k.ah.length ce) ((.slice aj (iE k.cache us j).length cj)) [.int .i64 bQ,.int .i64 e,.int .i64 f,.int .i64 cb,.int .i64 cc,.string bg] [.slice none 0 0,.slice none 0 0,.slice none 0 0,.slice none 0 0] { k with cache:=iE k.cache us j })∧Hid (OI wr wc.heap.size (.slice a5 bs.length k5) (fU bs))∧Hid (OI wr w5.heap.size (.slice a6 us.length k6) (fU us))) (fun i _=>us.length - (intOf i).toNat)
   case atStart=>exact ⟨0,ac,cq,rfl,Nat.zero_le _,af (fun x hx=>by cases hx),af ⟨X0.out,X1.out,X2.out,HO.out,Bw.out⟩,O5,O6⟩
   case round =>
    clear X0 X1 X2 HO Bw O5 O6;obtain ⟨j,aj,cj,rfl,hj,hall,hst,H5,H6⟩:=hrel;obtain ⟨X0,X1,X2,HO,Bw⟩:=hst.out.parts;clear hst
    by_cases hlt:j<us.length
    ·have Q5:(j:Int)<(us.length:Int):=by omega
     obtain ⟨bu,ou,cu,ev,Ip,q0⟩:=H6.out.ri.at (k:=j) (by rw [aQ];exact hlt);rw [aQ] at ev;simp only [Value.slice.injEq] at ev;obtain ⟨rfl,_,rfl⟩:=ev;have hge:wc.heap.size≤bu:=Nat.le_trans z5.out (H6.out.lt bu rfl).1;have hbg:w.heap.size≠bu:=by have:=zu.out;omega
     have J3:(fU us)[j]?=some ((us[j]:Nat):Int):=by simp [fU,hlt]
     rw [(List.getElem_eq_iff _).2 J3] at q0;have hx3:=MB.out _ (List.getElem_mem hlt);have Dc:=af (show us.take (j+1)=us.take j ++ [us[j]] by rw [List.take_succ_eq_append_getElem hlt]);have Qa:=af (BU k.cache us hlt);have Qb:=af (List.getElem_mem hlt);clear J3;generalize us[j]=x at q0 hx3 Dc Qa Qb;have Oa:(x:Int)<(k.ah.length:Int):=by have:=H3.out;omega
     obtain ⟨be,oe,VN,ur,ev,hbel,q1,_,hr⟩:=HO.out.e.re.at (k:=x) (by show x<k.ah.length;have:=H3.out;omega);simp only [Value.slice.injEq] at ev;obtain ⟨rfl,_,rfl⟩:=ev;obtain ⟨ar,cr,rfl,_,_⟩:=RS.val hr;have Hr:=af (show dK wr _ (Kx.au k.ah x).aB from hr);clear hr;change wr.cell? _=some (.slice ar (Kx.au k.ah x).aB.length cr) at q1;obtain ⟨rs,hrs⟩:∃ rs,(Kx.au k.ah x).aB=rs:=⟨_,rfl⟩;rw [hrs] at Hr q1;have Wi:=af hrs;clear hrs;obtain ⟨p0,p1,p2,p3⟩:=X0.out.c4;go_wp2_with fail;go_still_tail 12,(by kernel_rfl)
     obtain ⟨W4,PY⟩:∃ W4,wr.drew=W4:=⟨_,rfl⟩;have hb:Below wr.heap.size wr W4:=PY ▸ Below.bz fZ;change wpList _ _ _ _ _ wr.drew;rw [PY];clear PY;have q0:=(hb.cell (p:=⟨bu,ou+j,none⟩) Ip).trans q0;replace Hr:=af (RS.below Hr.out hb);have Ip:=Nat.lt_of_lt_of_le Ip hb.size;clear p0 p1 p2 p3 q1;obtain ⟨X0,X1,X2,HO,Bw,zz⟩:=ru hb aC.out s0 X0 X1 X2 HO Bw;replace H5:=af (H5.out.below hb);replace H6:=af (H6.out.below hb);clear hb zz;have HA:=af (jw k.ag bs rs _ _ _ W4 HO.out.i.rs H5.out.ri Hr.out V_.out);go_wp2_with fail;refine HA.out.mono ?_;rintro en w7 ⟨rfl,hb⟩;clear HA;have S7:=(hb.cell (p:=⟨bu,ou+j,none⟩) Ip).trans q0;have YB:=Nat.lt_of_lt_of_le Ip hb.size;clear Hr q0 Ip;obtain ⟨X0,X1,X2,HO,Bw,zz⟩:=ru hb aC.out s0 X0 X1 X2 HO Bw;replace H5:=af (H5.out.below hb);replace H6:=af (H6.out.below hb);clear hb zz
     cases hal:Kx.allowed k.ag bs rs with
     | false =>
      have HF:=af (show Kx.lQ k ⟨bQ,e,f,cb,cc,bg⟩=(k,0,1) by
       rw [HV.out,if_pos];rw [Bool.not_eq_true',List.all_eq_false];exact ⟨x,Qb.out,by rw [Wi.out,hal];decide⟩)
      clear HV hal Qb Dc Qa S7;obtain ⟨p0,p1,p2,p3⟩:=X0.out.c4;obtain ⟨r0,r1,r2,r3⟩:=X2.out.c4;obtain ⟨jh,ji,jk,jl⟩:=X2.out.f4;go_wp2_with fail;obtain ⟨e0,e1,e2,e3,hB4,hK4⟩:=fG X2.out rfl Bw.out (by have:=aC.out;omega) (.slice am k.mem.length cm) (.slice (some ⟨bi,oi,none⟩) k.ag.length ci) (.slice (some ⟨be,oe,none⟩) k.ah.length ce) (.slice aj (iE k.cache us j).length cj);refine bodyPost_ret (v:=.tuple #[.agg #[.slice am k.mem.length cm,.slice (some ⟨bi,oi,none⟩) k.ag.length ci,.slice (some ⟨be,oe,none⟩) k.ah.length ce,.slice aj (iE k.cache us j).length cj],.int .i64 0,.int .i64 1]) (by simp [results,Tryz.results164,go_sem,e0,e1,e2,e3]) rfl ?_;exact jY HF.out (show (1:Int)≠0 by decide) hB4
     | true =>
      have Dk:=af (show Kx.allowed k.ag bs (Kx.au k.ah x).aB=true by rw [Wi.out];exact hal);clear hal Wi;have p3:=X0.out.cell 3;simp only [List.getElem?_cons_zero,List.getElem?_cons_succ] at p3;go_wp2_with fail;go_still_tail 6,(by kernel_rfl)
      obtain ⟨W7,Iq⟩:∃ W7,w7.drew=W7:=⟨_,rfl⟩;have hb:Below w7.heap.size w7 W7:=Iq ▸ Below.bz fZ;change wpList _ _ _ _ _ w7.drew;rw [Iq];clear Iq S7 p3;obtain ⟨X0,X1,X2,HO,Bw,zz⟩:=ru hb aC.out s0 X0 X1 X2 HO Bw;replace H5:=af (H5.out.below hb);replace H6:=af (H6.out.below hb);clear hb zz;have HD:=af (DF (iE k.cache us j) x _ W7 HO.out.c.rs);go_wp2_with fail;refine HD.out.mono ?_;rintro en w8 ⟨u8,rfl,xE,hb⟩;obtain ⟨a8,c8,rfl,_,_⟩:=RS.val xE.rs;have z7:=Bw.out.size;have O8:=af xE;clear xE HD;obtain ⟨X0,X1,X2,HO,Bw,zz⟩:=ru hb aC.out s0 X0 X1 X2 HO Bw;replace H5:=af (H5.out.below hb);replace H6:=af (H6.out.below hb);clear hb zz;have HK:=af (show KO w8 base _ _ _ (.slice a8 (iE k.cache us (j+1)).length c8) { k with cache:=iE k.cache us (j+1) } from ⟨HO.out.m,HO.out.i,HO.out.e,by rw [Qa.out];exact O8.out.mono (by have:=aC.out;omega)⟩);rw [←Qa.out]
      have hz3:=X0.out.cell 3;have hf3:=X0.out.frozen 3;simp only [List.getElem?_cons_zero,List.getElem?_cons_succ] at hz3;obtain ⟨X0,X1,X2,HK,Bw⟩:=JP (.slice a8 (iE k.cache us (j+1)).length c8) (by omega) (by omega) (by have:=aC.out;omega) X0 X1 X2 HK Bw;have H5:=af (H5.out.Oy (g:=w.heap.size) zu.out 3 (.slice a8 (iE k.cache us (j+1)).length c8));have H6:=af (H6.out.Oy (g:=w.heap.size) (by have:=z5.out;have:=zu.out;omega) 3 (.slice a8 (iE k.cache us (j+1)).length c8));have TA:=af (show ∀ y ∈ us.take (j+1),Kx.allowed k.ag bs (Kx.au k.ah y).aB=true from fun y hy=>by
       rw [Dc.out] at hy;rcases List.mem_append.1 hy with h | h
       ·exact hall.out y h
       rw [List.mem_singleton.1 h];exact Dk.out)
      clear HO O8 hall Qa Dc;go_wp2_with fail;go_roundw
      case rel=>exact ⟨j+1,a8,c8,by go_num,by omega,TA,af ⟨X0.out,X1.out,X2.out,HK.out,Bw.out⟩,H5,H6⟩
      case measure=>simp [intOf];omega
    have hjn:j=us.length:=by omega
    subst hjn;have HV:=af (show Kx.lQ k ⟨bQ,e,f,cb,cc,bg⟩=(if Kx.lJ k ⟨bQ,e,f,cb,cc,bg⟩ then (k,0,1) else (⟨Kx.bG k.mem f cb.toNat cc,Kx.aP (Kx.aP k.ag (Kx.word k.mem f cb.toNat) (-1)) cc 1,k.ah,iE k.cache us us.length⟩,0,0)) by
     have h1:(us.all fun e=>Kx.allowed k.ag bs (Kx.au k.ah e).aB)=true:=by
      rw [List.all_eq_true];have:=hall.out;rw [List.take_length] at this;exact this
     have h2:=HV.out;rw [h1] at h2;have h3:iE k.cache us us.length=us.foldl (fun (ca:List Kx.Cached) (e:Nat)=>Kx.fP ca (e:Int)) k.cache:=by unfold iE;rw [List.take_length]
     rw [h3];exact h2)
    generalize iE k.cache us us.length=ca at X0 HO HV;have HB:=af (show Kx.bK cb 0 3=true∧(Kx.dY cc==2)=false by
     have:=HB.out
     simp only [Bool.false_eq,Bool.or_eq_false_iff,Bool.not_eq_false'] at this;exact this.1)
    clear hall H5 H6;go_upto_region 15 with fail;obtain ⟨sd,hsd⟩:∃ sd,Kx.lJ k ⟨bQ,e,f,cb,cc,bg⟩=sd:=⟨_,rfl⟩;have HD:=af (show sd=(match Kx.entry cc with | none=>false | some (g,_)=>!Kx.jQ k e (Kx.inf k.ag g).guard) from hsd.symm.trans rfl)
    go_cut [8,10,112] from 17 (fun s8 s10 s wx=>s8=.int .i64 (FK cc)∧s10=.bool (Ik cc)∧s=.bool sd∧Hid (Below wr.heap.size wr wx))
    case first =>
     cases hen:Kx.entry cc with
     | none =>
      have HD:=af (show sd=false by rw [HD.out,hen]);have oV:=af (uB hen);rw [oV.out];clear hen;go_quiet (fail);go_wp2_with fail;go_meet;exact ⟨rfl,by rw [oV.out],by rw [HD.out],below_drewN _ _⟩
     | some pr =>
      obtain ⟨fr,bw⟩:=pr;have hfr:=dU hen;have HD:=af (show sd=!Kx.jQ k e (Kx.inf k.ag fr).guard by rw [HD.out,hen]);have oV:=af (uC hen);rw [oV.out.1,oV.out.2];clear hen;have VZ:(fr:Int)<(k.ag.length:Int):=by have:=fJ.out;omega
      obtain ⟨_,_,_,ev,_,_,q1,_⟩:=bV.at HO.out.i.rs (k:=fr) (by show fr<k.ag.length;have:=fJ.out;omega);simp only [Value.slice.injEq,Option.some.injEq,Addr.mk.injEq] at ev;obtain ⟨⟨rfl,rfl,_⟩,_,rfl⟩:=ev;change wr.cell? _=some (.string (Kx.inf k.ag fr).guard) at q1;have HM:=af (qE k e (Kx.inf k.ag fr).guard (.slice am k.mem.length cm) (.slice (some ⟨bi,oi,none⟩) k.ag.length ci) (.slice ae k.ah.length ce) (.slice aj ca.length cj) wr.drew (HO.out.below (Below.bz (Below.refl _ wr))).rk.e (by have:=H3.out;omega));generalize (Kx.inf k.ag fr).guard=gd at q1 HM HD;obtain ⟨p0,p1,p2,p3⟩:=X0.out.c4;obtain ⟨c0,c1,c2,c3,c4,c5⟩:=X1.out.c6
      go_region_held3 (fun wz=>wz.cell? ⟨w.heap.size,0,none⟩=some (.slice am k.mem.length cm)∧wz.cell? ⟨w.heap.size,1,none⟩=some (.slice (some ⟨bi,oi,none⟩) k.ag.length ci)∧wz.cell? ⟨w.heap.size,2,none⟩=some (.slice ae k.ah.length ce)∧wz.cell? ⟨w.heap.size,3,none⟩=some (.slice aj ca.length cj)∧wz.cell? ⟨w0.heap.size,1,none⟩=some (.int .i64 e)∧wz.cell? ⟨bi,oi+fr*3+1,none⟩=some (.string gd))
       (first | assumption | exact S9.out | go_keep)
       (first | (go_at_call 208;refine HM.out.mono ?_;rintro en w9 ⟨rfl,hb0⟩;have hb:=Below.gG hb0;have S9:=af (show w9.cell? ⟨w.heap.size,0,none⟩=some (.slice am k.mem.length cm)∧w9.cell? ⟨w.heap.size,1,none⟩=some (.slice (some ⟨bi,oi,none⟩) k.ag.length ci)∧w9.cell? ⟨w.heap.size,2,none⟩=some (.slice ae k.ah.length ce)∧w9.cell? ⟨w.heap.size,3,none⟩=some (.slice aj ca.length cj)∧w9.cell? ⟨w0.heap.size,1,none⟩=some (.int .i64 e)∧w9.cell? ⟨bi,oi+fr*3+1,none⟩=some (.string gd) from ⟨(X0.out.below hb).cell 0,(X0.out.below hb).cell 1,(X0.out.below hb).cell 2,(X0.out.below hb).cell 3,(X1.out.below hb).cell 1,(hb.cell (p:=⟨bi,oi+fr*3+1,none⟩) (World.block_lt_of_cell? wr _ q1)).trans q1⟩)))
      go_wp2_with fail;go_meet;exact ⟨by rw [oV.out.2],by rw [oV.out.1],by rw [HD.out],hb⟩
    case rest =>
     obtain ⟨rfl,rfl,rfl,Dt⟩:=hcut;have hb:=Dt.out;clear Dt;obtain ⟨X0,X1,X2,HO,Bw,zz⟩:=ru hb aC.out s0 X0 X1 X2 HO Bw;clear hb zz
     cases sd with
     | true =>
      have HF:=af (show Kx.lQ k ⟨bQ,e,f,cb,cc,bg⟩=(k,0,1) by rw [HV.out,if_pos hsd]);clear HV HB hsd HD;obtain ⟨p0,p1,p2,p3⟩:=X0.out.c4;obtain ⟨r0,r1,r2,r3⟩:=X2.out.c4;obtain ⟨jh,ji,jk,jl⟩:=X2.out.f4;go_wp2_with fail;obtain ⟨e0,e1,e2,e3,hB4,hK4⟩:=fG X2.out rfl Bw.out (by have:=aC.out;omega) (.slice am k.mem.length cm) (.slice (some ⟨bi,oi,none⟩) k.ag.length ci) (.slice ae k.ah.length ce) (.slice aj ca.length cj);refine bodyPost_ret (v:=.tuple #[.agg #[.slice am k.mem.length cm,.slice (some ⟨bi,oi,none⟩) k.ag.length ci,.slice ae k.ah.length ce,.slice aj ca.length cj],.int .i64 0,.int .i64 1]) (by simp [results,Tryz.results164,go_sem,e0,e1,e2,e3]) rfl ?_;exact jY HF.out (show (1:Int)≠0 by decide) hB4
     | false =>
      obtain ⟨hib,_⟩:=HB.out;obtain ⟨b0,b3⟩:=Kx.ay.1 hib;obtain ⟨b,rfl⟩:=Int.eq_ofNat_of_zero_le b0;have hb4:b<4:=by omega
      have HV:=af (show Kx.lQ k ⟨bQ,e,f,b,cc,bg⟩=(⟨Kx.bG k.mem f b cc,Kx.aP (Kx.aP k.ag (Kx.word k.mem f b) (-1)) cc 1,k.ah,ca⟩,0,0) by rw [HV.out,if_neg (by rw [hsd];decide)];rfl);clear HB hsd HD hib b0 b3;obtain ⟨bm,om,TB,um',ev,hcm,m_⟩:=HO.out.m.rm.row kG.out dG;obtain ⟨uk,hr4,_⟩:=mem_row kG.out dG;simp only [Value.slice.injEq] at ev;obtain ⟨rfl,hmL,rfl⟩:=ev;obtain ⟨br,oR,cr,rfl,aao,q0⟩:=m_.at (k:=b) (by rw [hr4];omega);rw [hr4] at hcm;have hw0:(Kx.row k.mem f)[b]'(by rw [hr4];omega)=Kx.word k.mem f b:=by unfold Kx.word;simp [hr4,hb4]
      rw [hw0] at q0;have kX:=af uk;have Oz:=af hr4;have Wj:(f:Int)<(k.mem.length:Int):=by omega
      have MO:(b:Int)<4:=by omega
      clear hw0 m_ uk hr4 hmL;obtain ⟨old,hold⟩:∃ old,Kx.word k.mem f b=old:=⟨_,rfl⟩;rw [hold] at HV q0;obtain ⟨p0,p1,p2,p3⟩:=X0.out.c4;obtain ⟨c0,c1,c2,c3,c4,c5⟩:=X1.out.c6;go_wp2_with fail;go_quiet ((go_at_call 125;exact Calls.quiet_of_same ((bM _ _).mono fun _ _ ⟨he,hw⟩=>⟨(show _=Ending.returned (.tuple #[.int .i64 (FK old),.bool (Qc old),.bool (Ik old)]) from he),hw.symm⟩)))
      obtain ⟨W1,hW1⟩:∃ W1,wc.drewN nq=W1:=⟨_,rfl⟩;have hb:Below wc.heap.size wc W1:=hW1 ▸ below_drewN wc nq;rw [hW1];clear hW1 q0 hcm;clear p0 p1 p2 p3;clear c0 c1 c2 c3 c4 c5;obtain ⟨X0,X1,X2,HO,Bw,zz⟩:=ru hb aC.out s0 X0 X1 X2 HO Bw;clear hb zz;have HN:=af (oI.MZ nM.out);go_upto_if 129 with fail;go_cut [14,16] from 17 (fun s14 s16 wx=>s14=.int .i64 (FK old)∧s16=.bool (Ik old)∧Hid (M_ w wx base w.heap.size w0.heap.size w1.heap.size (.slice (some ⟨bm,om,none⟩) k.mem.length cm) (.slice (some ⟨bi,oi,none⟩) k.ag.length ci) (.slice ae k.ah.length ce) (.slice aj ca.length cj) [.int .i64 bQ,.int .i64 e,.int .i64 f,.int .i64 b,.int .i64 cc,.string bg] [.slice none 0 0,.slice none 0 0,.slice none 0 0,.slice none 0 0] (⟨k.mem,(Kx.aP k.ag old (-1)),k.ah,ca⟩:Kx.Kernel)))
      case first =>
       cases hen:Kx.entry old with
       | none =>
        have oV:=af (uB hen);rw [oV.out];have HE:=af (nT (l:=(⟨k.mem,k.ag,k.ah,ca⟩:Kx.Kernel).ag) (d:=(-1)) hen);clear hen;go_wp2_with fail;go_meet;exact ⟨rfl,by rw [oV.out],by rw [HE.out];exact ⟨X0.out,X1.out,X2.out,HO.out,Bw.out⟩⟩
       | some pr =>
        obtain ⟨fo,bw⟩:=pr;have hfo:=dU hen;have oV:=af (uC hen);rw [oV.out.1,oV.out.2];have HE:=af (nU (l:=(⟨k.mem,k.ag,k.ah,ca⟩:Kx.Kernel).ag) (d:=(-1)) hen);clear hen;have hL:=af (show (⟨k.mem,k.ag,k.ah,ca⟩:Kx.Kernel).ag.length=k.ag.length from rfl);obtain ⟨_,_,ev,hbg,hbl,⟨Jq,hgk⟩,_,hfz,hrf,hset⟩:=(HO.out.below (Below.bz (Below.refl _ W1))).aF (f:=fo) (by rw [hL.out,fJ.out];exact hfo);rw [hL.out] at ev;simp only [Value.slice.injEq,Option.some.injEq,Addr.mk.injEq] at ev;obtain ⟨⟨rfl,rfl,_⟩,_,rfl⟩:=ev;have hn:=HN.out fo;obtain ⟨r,hr⟩:∃ r,(Kx.inf (⟨k.mem,k.ag,k.ah,ca⟩:Kx.Kernel).ag fo).refs=r:=⟨_,rfl⟩;rw [hr] at hn hrf HE;have hset:=af (hset (r - 1));have hwr:IntKind.i64.wrap (r - 1)=r - 1:=by rw [IntKind.wrap_i64];omega
        have PW:(fo:Int)<(k.ag.length:Int):=by have:=fJ.out;omega
        obtain ⟨p0,p1,p2,p3⟩:=X0.out.c4;go_wp2_with fail;go_still_tail 12,(by kernel_rfl)
        change wpList _ _ _ _ _ W1.drew;have hb:Below W1.heap.size W1 W1.drew:=Below.bz fZ;obtain ⟨X0,X1,X2,Bw⟩:=yD (fo*3+2) (.int .i64 (r - 1)) (show W1.drew.heap[bi]?=_ from hgk) (by decide) (by decide) hbg (af (X0.out.below hb)) (af (X1.out.below hb)) (af (X2.out.below hb)) (af (Bw.out.go (Below.bz fZ) aC.out));go_wp2_with fail;go_meet;exact ⟨by rw [oV.out.2],by rw [oV.out.1],by rw [HE.out];exact ⟨X0.out,X1.out,X2.out,hset.out,Bw.out⟩⟩
      case rest =>
       obtain ⟨rfl,rfl,hst⟩:=hcut;clear X0 X1 X2 HO Bw;obtain ⟨X0,X1,X2,HO,Bw⟩:=hst.out.parts;clear hst;go_upto_if 142 with fail;go_cut [8,10] from 17 (fun s14 s16 wx=>s14=.int .i64 (FK cc)∧s16=.bool (Ik cc)∧Hid (M_ w wx base w.heap.size w0.heap.size w1.heap.size (.slice (some ⟨bm,om,none⟩) k.mem.length cm) (.slice (some ⟨bi,oi,none⟩) k.ag.length ci) (.slice ae k.ah.length ce) (.slice aj ca.length cj) [.int .i64 bQ,.int .i64 e,.int .i64 f,.int .i64 b,.int .i64 cc,.string bg] [.slice none 0 0,.slice none 0 0,.slice none 0 0,.slice none 0 0] (⟨k.mem,(Kx.aP (Kx.aP k.ag old (-1)) cc 1),k.ah,ca⟩:Kx.Kernel)))
       case first =>
        cases hen:Kx.entry cc with
        | none =>
         have oV:=af (uB hen);rw [oV.out];have HE:=af (nT (l:=(⟨k.mem,(Kx.aP k.ag old (-1)),k.ah,ca⟩:Kx.Kernel).ag) (d:=1) hen);clear hen;go_wp2_with fail;go_meet;exact ⟨rfl,by rw [oV.out],by rw [HE.out];exact ⟨X0.out,X1.out,X2.out,HO.out,Bw.out⟩⟩
        | some pr =>
         obtain ⟨fo,bw⟩:=pr;have hfo:=dU hen;have oV:=af (uC hen);rw [oV.out.1,oV.out.2];have HE:=af (nU (l:=(⟨k.mem,(Kx.aP k.ag old (-1)),k.ah,ca⟩:Kx.Kernel).ag) (d:=1) hen);clear hen;have hL:=af (show (⟨k.mem,(Kx.aP k.ag old (-1)),k.ah,ca⟩:Kx.Kernel).ag.length=k.ag.length from fH);obtain ⟨_,_,ev,hbg,hbl,⟨Jq,hgk⟩,_,hfz,hrf,hset⟩:=(HO.out.below (Below.bz (Below.refl _ wc))).aF (f:=fo) (by rw [hL.out,fJ.out];exact hfo);rw [hL.out] at ev;simp only [Value.slice.injEq,Option.some.injEq,Addr.mk.injEq] at ev;obtain ⟨⟨rfl,rfl,_⟩,_,rfl⟩:=ev;have hn:=(HN.out.jb (x:=old) (d:=-1) (.inr rfl) fJ.out) fo;obtain ⟨r,hr⟩:∃ r,(Kx.inf (⟨k.mem,(Kx.aP k.ag old (-1)),k.ah,ca⟩:Kx.Kernel).ag fo).refs=r:=⟨_,rfl⟩;rw [hr] at hn hrf HE;have hset:=af (hset (r+1))
         have hwr:IntKind.i64.wrap (r+1)=r+1:=by rw [IntKind.wrap_i64];omega
         have PW:(fo:Int)<(k.ag.length:Int):=by have:=fJ.out;omega
         obtain ⟨p0,p1,p2,p3⟩:=X0.out.c4;go_wp2_with fail;go_still_tail 12,(by kernel_rfl)
         change wpList _ _ _ _ _ wc.drew;have hb:Below wc.heap.size wc wc.drew:=Below.bz fZ;obtain ⟨X0,X1,X2,Bw⟩:=yD (fo*3+2) (.int .i64 (r+1)) (show wc.drew.heap[bi]?=_ from hgk) (by decide) (by decide) hbg (af (X0.out.below hb)) (af (X1.out.below hb)) (af (X2.out.below hb)) (af (Bw.out.go (Below.bz fZ) aC.out));go_wp2_with fail;go_meet;exact ⟨by rw [oV.out.2],by rw [oV.out.1],by rw [HE.out];exact ⟨X0.out,X1.out,X2.out,hset.out,Bw.out⟩⟩
       case rest =>
        obtain ⟨rfl,rfl,hst⟩:=hcut;clear X0 X1 X2 HO Bw;obtain ⟨X0,X1,X2,HO,Bw⟩:=hst.out.parts;clear hst;obtain ⟨W9,t_⟩:∃ W9,wc.drew=W9:=⟨_,rfl⟩;have hb:Below wc.heap.size wc W9:=t_ ▸ Below.bz fZ;obtain ⟨p0,p1,p2,p3⟩:=X0.out.c4;obtain ⟨c0,c1,c2,c3,c4,c5⟩:=X1.out.c6;obtain ⟨bq,cq',g,cg,eu,hrow,hgb,TC,⟨Jq,hgk⟩,hz,hfz,hset⟩:=(HO.out.below hb).bG (f:=f) (a:=b) (by show f<k.mem.length;rw [kX.out];exact dG) (by show b<(Kx.row k.mem f).length;rw [Oz.out];exact hb4);change W9.cell? _=some (.slice _ (Kx.row k.mem f).length _) at hrow;rw [Oz.out] at hrow;simp only [Value.slice.injEq,Option.some.injEq,Addr.mk.injEq] at eu;obtain ⟨⟨rfl,rfl,_⟩,_,rfl⟩:=eu;have hset:=af (hset cc);obtain ⟨z,hz⟩:=hz;have hrow0:wc.cell? ⟨bm,f,none⟩=some (.slice (some ⟨g,0,none⟩) 4 cg):=by rw [←t_] at hrow;exact hrow
        have Ir:=af t_;clear t_;go_wp2_with fail;go_still_tail 11,(by kernel_rfl)
        change wpList _ _ _ _ _ wc.drew;rw [Ir.out];obtain ⟨X0,X1,X2,Bw⟩:=yD b (.int .i64 cc) hgk (by decide) (by decide) hgb (af (X0.out.below hb)) (af (X1.out.below hb)) (af (X2.out.below hb)) (af (Bw.out.go hb aC.out));clear Ir;have HF:=af (show Kx.lQ k ⟨bQ,e,f,b,cc,bg⟩=(⟨Kx.bG k.mem f b cc,(Kx.aP (Kx.aP k.ag old (-1)) cc 1),k.ah,ca⟩,0,0) from HV.out);clear p0 p1 p2 p3 c0 c1 c2 c3 c4 c5 HV;obtain ⟨p0,p1,p2,p3⟩:=X0.out.c4;obtain ⟨r0,r1,r2,r3⟩:=X2.out.c4;obtain ⟨jh,ji,jk,jl⟩:=X2.out.f4;go_wp2_with fail;obtain ⟨e0,e1,e2,e3,hB4,hK4⟩:=fG X2.out rfl Bw.out (by have:=aC.out;omega) (.slice (some ⟨bm,0,none⟩) k.mem.length cm) (.slice (some ⟨bi,oi,none⟩) k.ag.length ci) (.slice ae k.ah.length ce) (.slice aj ca.length cj)
        refine bodyPost_ret (v:=.tuple #[.agg #[.slice (some ⟨bm,0,none⟩) k.mem.length cm,.slice (some ⟨bi,oi,none⟩) k.ag.length ci,.slice ae k.ah.length ce,.slice aj ca.length cj],.int .i64 0,.int .i64 0]) (by simp [results,Tryz.results164,go_sem,e0,e1,e2,e3]) rfl ?_;exact yE HF.out hB4 (hK4 rfl _ _ _ _ _ hset.out)
end Go.Proofs.YtliebkfligagnaaGreatDoor
