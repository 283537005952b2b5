/- Contracts of draws: DrawKernelSees. (printed by kd24.py) -/
import Derived.Test.YtliebkfligagnaaGreatDoorKD23
import Derived.Test.YtliebkfligagnaaGreatDoorKI19
set_option maxHeartbeats 4000000
set_option maxRecDepth 100000
set_option linter.all false
namespace Go.Proofs.YtliebkfligagnaaGreatDoor
open Go.RowKit
def Xi (l:List Value):Prop:=∃ (x:Nat) (y:Int),x<3∧l=[.int .i64 (x:Int),.int .i64 y]
theorem oD (v:Value) (n:Nat) (w:World) (h:RB w v n):Calls Tryz.prog 26 #[v] w (RJ w Xi):=by
 obtain ⟨w1,hw1⟩:∃ w1,w.alloc (.cells #[.slice none 0 0,.slice none 0 0,.slice none 0 0,.slice none 0 0] 36)=w1:=⟨_,rfl⟩;have B1:=af (show Below w.heap.size w w1 from hw1 ▸ dm);have s1:w.heap.size<w1.heap.size:=by rw [←hw1];simp
 have X2:=af (show BX w1 w.heap.size 36 [.slice none 0 0,.slice none 0 0,.slice none 0 0,.slice none 0 0] from (hw1 ▸ BX.new w _ _:BX w1 _ _ _));have HB:=af (h.below B1.out);clear h;go_enter Tryz.func26,Tryz.ntmps26;go_wp2_with fail;clear hw1;refine (KR _ _ _ HB.out).mono ?_;rintro en w2 ⟨rb,rfl,hrb,hr,hb⟩;have hz2:=hb.size;have B2:=af (B1.out.trans (hb.mono B1.out.size));have HX:=af (X2.out.below hb);have Hr:=af hr;have hrl:=hr.lt;clear hr hb X2 HB B1;go_wp2_with fail;refine (JA rb 0 _ Hr.out (by omega)).mono ?_;rintro en w3 ⟨k,_,_,_,_,base,rfl,⟨⟨a0,n0,m0,rfl⟩,⟨a1,n1,m1,rfl⟩,⟨a2,n2,m2,rfl⟩,⟨a3,n3,m3,rfl⟩⟩,hs,hbase,hko,q,hq,hr2,hg⟩;have hz3:=hg.size;obtain ⟨w4,hw4⟩:∃ V,w3.alloc (.cells #[.slice a0 n0 m0,.slice a1 n1 m1,.slice a2 n2 m2,.slice a3 n3 m3] 36)=V:=⟨_,rfl⟩;have B4:Below w3.heap.size w3 w4:=hw4 ▸ dm
 have X3:BX w3 w.heap.size 36 [.slice none 0 0,.slice none 0 0,.slice none 0 0,.slice none 0 0]:=(hg.block w.heap.size HX.out.lt (by simp;omega)).trans HX.out;have B3:=B2.out.grown hg (show w.heap.size≤w2.heap.size by omega) (fun k hk=>by cases hk;omega);have H:=af (show LD w w4 rb q w.heap.size w3.heap.size k (.slice a0 n0 m0) (.slice a1 n1 m1) (.slice a2 n2 m2) (.slice a3 n3 m3) from
  ⟨B3.trans (B4.mono B3.size),hr2.keep B4,X3.below B4,hw4 ▸ BX.new w3 _ _,⟨base,w3.heap.size,by omega,Nat.le_refl _,B4.size,hko.r.to B4.size (fun j _ b=>B4.block j b)⟩,hs,by omega⟩)
 obtain ⟨g5,hg5⟩:∃ g,w3.heap.size=g:=⟨_,rfl⟩;rw [hg5] at H;clear hs hko hr2 hg B3 B4 X3 hbase HX B2 Hr;go_wp2_with fail
 try rw [hw4]
 try rw [hg5]
 clear hw4 hg5;refine (aN rb _ 2 _ H.out.r (by omega) (by omega) (by omega)).mono ?_;rintro en w5 ⟨x,rfl,x0,x1,hr,hg⟩;replace H:=af (H.out.pick hr hg);clear hr hg;go_wp2_with fail;refine (aN rb _ 3 _ H.out.r (by omega) (by omega) (by omega)).mono ?_;rintro en w6 ⟨y,rfl,y0,y1,hr,hg⟩;replace H:=af (H.out.pick hr hg);clear hr hg;obtain ⟨ez,hez,hz3⟩:∃ m:Nat,IntKind.i64.wrap (x*y)=(m:Int)∧m<3:=by
  obtain ⟨yn,rfl⟩:=Int.eq_ofNat_of_zero_le y0;rcases (show x=0∨x=1 by omega) with rfl | rfl
  ·exact ⟨0,by rw [Int.zero_mul,IntWalk.i64_in _ (by omega)];rfl,by omega⟩
  exact ⟨yn,by rw [Int.one_mul,IntWalk.i64_in _ (by omega)],by omega⟩
 go_wp2_with fail;go_loopw [7,8] (fun E i wr=>∃ (e j q:Nat),e<3∧E=.int .i64 e∧i=.int .i64 j∧j≤16∧q≤1300+3*j∧Hid (LD w wr rb q w.heap.size g5 k (.slice a0 n0 m0) (.slice a1 n1 m1) (.slice a2 n2 m2) (.slice a3 n3 m3))) (fun _ i _=>16 - (intOf i).toNat)
 case atStart=>exact ⟨ez,0,_,hz3,by rw [←hez],rfl,Nat.zero_le _,by omega,H⟩
 case round =>
  obtain ⟨e,j,qq,he3,rfl,rfl,hj,hqq,H⟩:=hrel
  by_cases hlt:j<16
  ·have kQ:(j:Int)<16:=by omega
   go_wp2_with fail;refine (uH rb _ _ H.out.r (by omega)).mono ?_;rintro en w7 ⟨ad,rfl,q2,hq2,hr,hg⟩;replace H:=af (H.out.pick hr hg);clear hr hg;obtain ⟨c0,c1,c2,c3⟩:=H.out.x5.c4;go_wp2_with fail;clear c0 c1 c2 c3;refine (kY k e ad _ _ _ _ _ H.out.rk H.out.s).mono ?_;rintro en w8 ⟨rfl,hb⟩;replace H:=af (H.out.below hb);clear hb;generalize Kx.sees k e ad=sv;obtain ⟨sx,sb⟩:=sv
   cases sb with
   | true =>
    obtain ⟨Qn,Qo,Qp,_⟩:=H.out.fin;obtain ⟨F,hF⟩:∃ V,sets w8 w.heap.size 0 [.slice a0 n0 m0,.slice a1 n1 m1,.slice a2 n2 m2,.slice a3 n3 m3]=V:=⟨_,rfl⟩;rw [hF] at Qn Qo Qp;have BF:=af Qn;have XF:=af Qo;have KF:=af Qp;have Xj:=af H.out.s;clear Qn Qo Qp;obtain ⟨r0,r1,r2,r3⟩:=H.out.x2.c4;obtain ⟨jh,ji,jk,jl⟩:=H.out.x2.f4;obtain ⟨c0,c1,c2,c3⟩:=H.out.x5.c4;go_wp2_with fail;rw [show ((((w8.setCell ⟨w.heap.size,0,none⟩ (.slice a0 n0 m0)).setCell ⟨w.heap.size,1,none⟩ (.slice a1 n1 m1)).setCell ⟨w.heap.size,2,none⟩ (.slice a2 n2 m2)).setCell ⟨w.heap.size,3,none⟩ (.slice a3 n3 m3))=F from hF];obtain ⟨e0,e1,e2,e3⟩:=XF.out.c4;refine bodyPost_ret (v:=.tuple #[.agg #[.slice a0 n0 m0,.slice a1 n1 m1,.slice a2 n2 m2,.slice a3 n3 m3],.int .i64 e,.int .i64 ad]) (by simp [results,Tryz.results26,go_sem,e0,e1,e2,e3]) rfl ?_
    exact ⟨k,_,_,_,_,[.int .i64 e,.int .i64 ad],rfl,⟨e,_,he3,rfl⟩,Xj.out,KF.out,BF.out⟩
   | false =>
    go_wp2_with fail;refine (aN rb _ 3 _ H.out.r (by omega) (by omega) (by omega)).mono ?_;rintro en w9 ⟨z,rfl,z0,z1,hr,hg⟩;obtain ⟨zn,rfl⟩:=Int.eq_ofNat_of_zero_le z0;replace H:=af (H.out.pick hr hg);clear hr hg;go_wp2_with fail;go_roundw
    case rel=>exact ⟨zn,j+1,_,by omega,rfl,by go_num,by omega,by omega,H⟩
    case measure=>simp [intOf];omega
  obtain rfl:j=16:=by omega
  rw [show ((16:Nat):Int)=(16:Int) from rfl];obtain ⟨wo,rfl⟩:∃ wo:World,wo=wr:=⟨_,rfl⟩;obtain ⟨d,hd⟩:∃ d,wo.drew=d:=⟨_,rfl⟩;have Bd:Below wo.heap.size wo d:=hd ▸ Below.bz fZ;have Hd:=af hd;replace H:=af (H.out.below Bd);clear hd Bd;go_wp2_with fail;refine uu (S:=(fun U:World=>U.cell? ⟨g5,0,none⟩=some (.slice a0 n0 m0)∧U.cell? ⟨g5,1,none⟩=some (.slice a1 n1 m1)∧U.cell? ⟨g5,2,none⟩=some (.slice a2 n2 m2)∧U.cell? ⟨g5,3,none⟩=some (.slice a3 n3 m3))) (xs:=[]) (by kernel_rfl) (by rw [Hd.out];exact H.out.x5.c4) (fun hHeld=>?_)
  rw [Hd.out];rw [Hd.out] at hHeld;clear Hd;refine tL 0 ?_;refine tP 1 ?_;refine tP 2 ?_;refine lI 3 (by kernel_rfl) rfl (fun K hK=>?_);rw [if_pos (by rfl)];go_simp;go_at_call 68;refine (uH rb _ _ H.out.r (by omega)).mono ?_;rintro en V1 ⟨y,rfl,q2,hq2,hr,hg⟩;have H1:=af (H.out.pick hr hg);clear hr hg;refine hK.out _ _ ?_ (fun hHeld=>?_)
  ·exact H1.out.x5.c4
  clear hK K;refine nL ?_;refine lI 4 (by kernel_rfl) rfl (fun K hK=>?_);obtain ⟨r0,r1,r2,r3⟩:=H1.out.x2.c4;obtain ⟨jh,ji,jk,jl⟩:=H1.out.x2.f4;rw [if_pos (by rfl)];go_simp;obtain ⟨Qn,Qo,Qp,Xk⟩:=H1.out.fin;obtain ⟨F,hF⟩:∃ V,sets V1 w.heap.size 0 [.slice a0 n0 m0,.slice a1 n1 m1,.slice a2 n2 m2,.slice a3 n3 m3]=V:=⟨_,rfl⟩;rw [show ((((V1.setCell ⟨w.heap.size,0,none⟩ (.slice a0 n0 m0)).setCell ⟨w.heap.size,1,none⟩ (.slice a1 n1 m1)).setCell ⟨w.heap.size,2,none⟩ (.slice a2 n2 m2)).setCell ⟨w.heap.size,3,none⟩ (.slice a3 n3 m3))=F from hF];have hFz:V1.heap.size=F.heap.size:=by rw [←hF,jB]
  rw [hF] at Qn Qo Qp Xk;have BF:=af Qn;have XF:=af Qo;have KF:=af Qp;have Vb:=af Xk;have Xj:=af H1.out.s;clear hF r0 r1 r2 r3 jh ji jk jl Qn Qo Qp Xk;refine hK.out _ _ ?_ (fun hHeld=>?_)
  ·exact ⟨Vb.out.cell 0,Vb.out.cell 1,Vb.out.cell 2,Vb.out.cell 3⟩
  clear hK K;refine nL ?_;refine tP 5 ?_;refine tP 6 ?_;refine gY (by kernel_rfl) ?_ _;go_wp2_with fail;obtain ⟨e0,e1,e2,e3⟩:=XF.out.c4;refine bodyPost_ret (v:=.tuple #[.agg #[.slice a0 n0 m0,.slice a1 n1 m1,.slice a2 n2 m2,.slice a3 n3 m3],.int .i64 e,.int .i64 y]) (by simp [results,Tryz.results26,go_sem,e0,e1,e2,e3]) rfl ?_;exact ⟨k,_,_,_,_,[.int .i64 e,.int .i64 y],rfl,⟨e,_,he3,rfl⟩,Xj.out,KF.out,BF.out⟩
end Go.Proofs.YtliebkfligagnaaGreatDoor
