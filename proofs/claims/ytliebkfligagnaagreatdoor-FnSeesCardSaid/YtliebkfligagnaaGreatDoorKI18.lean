/- Contracts: what the laws call of the program: Walk, TableCount, TableOk, RightsMay, KernelReach, WalkTables, WalkFrames, MemoryGet. -/
import Derived.Test.YtliebkfligagnaaGreatDoorKI12
import Derived.Test.YtliebkfligagnaaGreatDoorKC13
set_option maxHeartbeats 2000000
set_option maxRecDepth 100000
set_option linter.all false
namespace Go.Proofs.YtliebkfligagnaaGreatDoor
open Go.RowKit
theorem UO {m:List (List Int)} {r:Nat}:∀ f ∈ Kx.tables m r,f<12:=fun f hf=>by unfold Kx.tables at hf;exact (Kx.nG.1 hf).1
theorem Tu (m:List (List Int)) (r:Nat):(Kx.tables m r).length≤12:=by unfold Kx.tables Kx.fE;exact Nat.le_trans (List.length_filter_le _ _) (by simp)
theorem ng (m:List (List Int)) (root ad:Nat) (v:Value) (w:World) (h:RM w v m) (hm:Kx.bW m=true) (hr:root<12) (ha:ad<64) :
  Calls Tryz.prog 30 #[v,.int .i64 root,.int .i64 ad] w fun e w'=>e=.returned (kM (Kx.walk m root ad))∧Below w.heap.size w w':=by
 obtain ⟨w0,hw0⟩:∃ w0,w.alloc (.cells #[.int .i64 0,.int .i64 0,.bool false] 66)=w0:=⟨_,rfl⟩;have B0:=af (show Below w.heap.size w w0 from hw0 ▸ dm);have X0:=af (show BX w0 w.heap.size 66 [.int .i64 0,.int .i64 0,.bool false] from (hw0 ▸ BX.new w _ _:BX w0 _ _ _));have Me:Kx.bK (root:Int) 0 11=true:=Kx.ay.2 (by omega);have Oo:Kx.bK (ad:Int) 0 63=true:=Kx.ay.2 (by omega);have HrI:=af Me;have VY:=af Oo;obtain ⟨_,av,cv,rfl,_,_⟩:=h.len;have HM:=af (h.below B0.out);have Hm:=af hm;clear h hm Me Oo;obtain ⟨⟨⟨f,a,b⟩,code⟩,hres⟩:∃ r,Kx.walk m root ad=r:=⟨_,rfl⟩;have kS:=af hres;clear hres;go_enter Tryz.func30,Tryz.ntmps30;go_wp2_with fail;clear hw0;refine (kL m _ _ HM.out).mono ?_;rintro e w1 ⟨rfl,hb⟩;rw [Hm.out];replace B0:=af (B0.out.trans (hb.mono B0.out.size));replace X0:=af (X0.out.below hb);replace HM:=af (HM.out.below hb);clear hb
 go_wp2_with fail;refine (jO _ _).mono ?_;rintro e w' ⟨rfl,rfl⟩;rw [HrI.out];go_wp2_with fail;refine (qI _ _).mono ?_;rintro e w' ⟨rfl,rfl⟩;rw [VY.out];go_wp2_with fail;refine (o_ m root ad _ _ HM.out Hm.out hr ha).mono ?_;rintro e w2 ⟨rfl,hb⟩;rw [kS.out];unfold kM;replace B0:=af (B0.out.trans (hb.mono B0.out.size));replace X0:=af (X0.out.below hb);clear hb;obtain ⟨z0,z1,z2⟩:w2.frozen? ⟨w.heap.size,0,none⟩=false∧w2.frozen? ⟨w.heap.size,1,none⟩=false∧w2.frozen? ⟨w.heap.size,2,none⟩=false:=⟨X0.out.frozen 0,X0.out.frozen 1,X0.out.frozen 2⟩;obtain ⟨k0,k1,k2⟩:w2.cell? ⟨w.heap.size,0,none⟩=some (.int .i64 0)∧w2.cell? ⟨w.heap.size,1,none⟩=some (.int .i64 0)∧w2.cell? ⟨w.heap.size,2,none⟩=some (.bool false):=⟨X0.out.cell 0,X0.out.cell 1,X0.out.cell 2⟩;have HZ:=af (((X0.out.set 0 (.int .i64 f)).set 1 (.int .i64 a)).set 2 (.bool b))
 have HB:=af (((B0.out.setCell (p:=⟨w.heap.size,0,none⟩) aW (.int .i64 f)).setCell (p:=⟨w.heap.size,1,none⟩) aW (.int .i64 a)).setCell (p:=⟨w.heap.size,2,none⟩) aW (.bool b));go_wp2_with fail;have e0:=HZ.out.cell 0;have e1:=HZ.out.cell 1;have e2:=HZ.out.cell 2;simp only [List.set_cons_zero,List.set_cons_succ,List.getElem?_cons_zero,List.getElem?_cons_succ] at e0 e1 e2;refine bodyPost_ret (v:=.tuple #[.agg #[.int .i64 f,.int .i64 a,.bool b],.int .i64 code]) (by simp [results,Tryz.results30,go_sem,e0,e1,e2]) rfl ?_;exact ⟨by rw [kS.out];rfl,HB.out⟩
theorem Dz (m:List (List Int)) (f a:Nat) (v:Value) (w:World) (h:RM w v m) (hm:Kx.bW m=true) (hf:f<12) (ha:a<4) :
  Calls Tryz.prog 31 #[v,.int .i64 f,.int .i64 a] w fun e w'=>e=.returned (.tuple #[.int .i64 (Kx.word m f a),.bool true])∧Below w.heap.size w w':=by
 have HM:=af h;have Hm:=af hm;have HfI:=af (show Kx.bK (f:Int) 0 11=true from Kx.ay.2 (by omega));have VY:=af (show Kx.bK (a:Int) 0 3=true from Kx.ay.2 (by omega));obtain ⟨_,av,cv,rfl,_,_⟩:=h.len;clear h hm;go_enter Tryz.func31,Tryz.ntmps31;go_wp2_with fail;refine (kL m _ _ HM.out).mono ?_;rintro e w1 ⟨rfl,hb⟩;rw [Hm.out];have B0:=af hb;clear hb;go_wp2_with fail;refine (jO _ _).mono ?_;rintro e w' ⟨rfl,rfl⟩;rw [HfI.out];go_wp2_with fail;refine (FH _ _).mono ?_;rintro e w' ⟨rfl,rfl⟩;rw [VY.out];obtain ⟨b1,FI,cap1,b2,mP,cap2,ev,g1,g2,g3,g4⟩:=(HM.out.below B0.out).word Hm.out hf ha;simp only [Value.slice.injEq] at ev;obtain ⟨rfl,hl,rfl⟩:=ev;have wJ:(f:Int)<12:=by omega
 have Oo:(a:Int)<4:=by omega
 rw [hl];obtain ⟨ans,hans⟩:∃ b,Kx.word m f a=b:=⟨_,rfl⟩;rw [hans] at g2 g3 g4;have pI:=af hans;clear hans;go_wp2_with fail;go_ret2;exact ⟨by rw [pI.out];rfl,B0.out⟩
theorem uw (k:Kx.Kernel) (env:Int) (vm vi ve vc:Value) (w:World) (h:RK w vm vi ve vc k) (hs:iQ k) :
  Calls Tryz.prog 33 #[.agg #[vm,vi,ve,vc],.int .i64 env] w (mZ w (fU (qx k env))):=by
 obtain ⟨w0,hw0⟩:∃ w0,w.alloc (.cells #[vm,vi,ve,vc] 36)=w0:=⟨_,rfl⟩;have B0:=af (show Below w.heap.size w w0 from hw0 ▸ dm);have X0:=af (show BX w0 w.heap.size 36 [vm,vi,ve,vc] from (hw0 ▸ BX.new w _ _:BX w0 _ _ _));have HK:=af (h.below B0.out);obtain ⟨_,ae,ce,rfl,_,_⟩:=h.e.len;have HV:=af (show qx k env=if !Kx.az k||!Kx.bK env 0 2 then [] else Kx.reach k.mem (Kx.au k.ah env.toNat).root from rfl);have HC:=af (mX k vm vi _ vc w0 HK.out hs);have Hno:=af (show ∀ W,Below w.heap.size w W→qx k env=[]→mZ w (fU (qx k env)) (.returned (.slice none 0 0)) W from fun W hb e=>⟨_,rfl,by rw [e];exact ⟨World.ownsRow_nil _ _ _ _,by decide⟩,hb⟩)
 obtain ⟨k0,k1,k2,k3⟩:=X0.out.c4;clear h hs;go_enter Tryz.func33,Tryz.ntmps33;go_wp2_with fail;clear hw0;refine HC.out.mono ?_;rintro e w1 ⟨rfl,hb⟩;replace B0:=af (B0.out.trans (hb.mono B0.out.size));replace X0:=af (X0.out.below hb);replace HK:=af (HK.out.below hb);clear hb HC k0 k1 k2 k3
 cases hv:Kx.az k with
 | false =>
  have HF:=af (Hno.out w1 B0.out (by rw [HV.out,hv];rfl));clear hv HV Hno;go_wp2_with fail;go_ret;exact HF.out
 | true =>
  have V1:=af hv;clear hv;go_wp2_with fail;refine (BR _ _).mono ?_;rintro e w' ⟨rfl,rfl⟩
  cases hv:Kx.bK env 0 2 with
  | false =>
   have HF:=af (Hno.out w1 B0.out (by rw [HV.out,hv];simp));clear hv HV Hno;go_wp2_with fail;go_ret;exact HF.out
  | true =>
   obtain ⟨h0,h2⟩:=Kx.ay.1 hv;obtain ⟨a,rfl⟩:=Int.eq_ofNat_of_zero_le h0;obtain ⟨hmo,jI,h12,hco,h3,hro⟩:=aI V1.out;have PX:a<3:=by omega
   have mW:=af (hro a PX);have HF:=af (show qx k a=Kx.reach k.mem (Kx.au k.ah a).root by rw [HV.out,V1.out,hv];simp);have Oo:(a:Int)<(k.ah.length:Int):=by omega
   obtain ⟨b,off,cap,u,ev,hbb,_,g2,_⟩:=HK.out.e.at (k:=a) (by omega);simp only [Value.slice.injEq] at ev;obtain ⟨rfl,_,rfl⟩:=ev;obtain ⟨k0,k1,k2,k3⟩:=X0.out.c4;have HM:=af HK.out.m;have kG:=af hmo;clear hv HV Hno h0 hbb hmo jI h12 hco h3 hro PX;generalize (Kx.au k.ah a).root=r at g2 HF mW;go_wp2_with fail;go_still_tail 8,(by kernel_rfl)
   change wpList _ _ _ _ _ w1.drew;have Bd:Below w1.heap.size w1 w1.drew:=Below.bz fZ;obtain ⟨d,hd⟩:∃ d,w1.drew=d:=⟨_,rfl⟩;rw [hd] at Bd ⊢;replace B0:=af (B0.out.trans (Bd.mono B0.out.size));replace HM:=af (HM.out.below Bd);clear hd Bd k0 k1 k2 k3 g2;go_wp2_with fail;refine (og k.mem r _ _ HM.out kG.out mW.out).mono ?_;rintro e w3 ⟨u3,rfl,ho,hb⟩;rw [←HF.out] at ho;have Ho:=af (ho.mono B0.out.size);replace B0:=af (B0.out.trans (hb.mono B0.out.size));clear hb ho;go_wp2_with fail;go_ret;exact ⟨_,rfl,Ho.out,B0.out⟩
end Go.Proofs.YtliebkfligagnaaGreatDoor
