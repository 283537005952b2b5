/- The law FnStore: a word is changed at its address. -/
import Derived.Test.YtmmjmckajcfffaaGreatDoorKMn
set_option linter.all false
set_option maxHeartbeats 8000000
set_option maxRecDepth 100000
open Go.Proofs.Tryz
namespace Go.Proofs.YtmmjmckajcfffaaGreatDoor
open Go.RowKit Kx

theorem lg {B:Nat} {w W:World} (_h:TI (Below B w W)):∃ V,W=V:=⟨_,rfl⟩
theorem gm {W V u v:World} {g h s t:Nat} {l m:List Value} (d:Below W.heap.size W V) (K:TI (BX W g s l)) (C:TI (BX W h t m)) (B:TI (Below u.heap.size u W)) (D:TI (Below v.heap.size v W)):TI (BX V g s l)/\TI (BX V h t m)/\TI (Below u.heap.size u V)/\TI (Below v.heap.size v V):=⟨K.o.below d,C.o.below d,B.o.trans (d.mono B.o.size),D.o.trans (d.mono D.o.size)⟩
theorem gp {W V:World} {g s b:Nat} {l:List Value} {um ui ue uc:Value} {k:Kx.Kernel} (d:Below W.heap.size W V) (K:TI (BX W g s l)) (H:TI (KO W b um ui ue uc k)):TI (BX V g s l)/\TI (KO V b um ui ue uc k):=⟨K.o.below d,H.o.below d⟩
theorem eu (n c d:Int):((n==5)=true\/(n==5)=false/\((n != 0)=true\/(n != 0)=false/\(c != d)=true))\/(n=0/\c=d):=by
 by_cases h:n=0
 ·subst h;by_cases g:c=d <;> simp [g]
 by_cases g:n=5 <;> simp [h,g]
theorem ng (m:List (List Int)) (root ad:Nat) (v:Value) (w:World) (h:RM w v m) (hm:bW m=true) (hr:root<12) (ha:ad<64) :
  Calls prog 35 #[v,I_ root,I_ ad] w fun e w'=>e=.returned (kM (Kx.walk m root ad))/\Below w.heap.size w w':=by
 obtain ⟨w0,aS⟩:∃ w0,w.alloc (.cells #[I_ 0,I_ 0,.bool false] 67)=w0:=⟨_,rfl⟩;have B0:=af (show Below w.heap.size w w0 from aS ▸ dm);have X0:=af (show BX w0 w.heap.size 67 [I_ 0,I_ 0,.bool false] from (aS ▸ BX.new w _ _:BX w0 _ _ _));have Me:Kx.bK (root:Int) 0 11=true:=Kx.ay.2 (by omega);have Oo:Kx.bK (ad:Int) 0 63=true:=Kx.ay.2 (by omega);have fB:=af Me;have VY:=af Oo;obtain ⟨_,av,cv,rfl,_,_⟩:=h.len;have HM:=af (h.below B0.o);have Hm:=af hm;clear h hm Me Oo;obtain ⟨⟨⟨f,a,b⟩,code⟩,bD⟩:∃ r,Kx.walk m root ad=r:=⟨_,rfl⟩;have kS:=af bD;clear bD;go_enter func35,ntmps35;go_wp2_with fail;clear aS;refine (kL m _ _ HM.o).mono ?_;rintro e w1 ⟨rfl,hb⟩;rw [Hm.o];replace B0:=af (B0.o.trans (hb.mono B0.o.size));replace X0:=af (X0.o.below hb);replace HM:=af (HM.o.below hb);clear hb
 go_wp2_with fail;refine (jO _ _).mono ?_;rintro e w' ⟨rfl,rfl⟩;rw [fB.o];go_wp2_with fail;refine (qI _ _).mono ?_;rintro e w' ⟨rfl,rfl⟩;rw [VY.o];go_wp2_with fail;refine (o_ m root ad _ _ HM.o Hm.o hr ha).mono ?_;rintro e w2 ⟨rfl,hb⟩;rw [kS.o];unfold kM;replace B0:=af (B0.o.trans (hb.mono B0.o.size));replace X0:=af (X0.o.below hb);clear hb;obtain ⟨z0,z1,z2⟩:w2.frozen? ⟨w.heap.size,0,none⟩=false/\w2.frozen? ⟨w.heap.size,1,none⟩=false/\w2.frozen? ⟨w.heap.size,2,none⟩=false:=⟨X0.o.frozen 0,X0.o.frozen 1,X0.o.frozen 2⟩;obtain ⟨k0,k1,k2⟩:w2.cell? ⟨w.heap.size,0,none⟩=some (I_ 0)/\w2.cell? ⟨w.heap.size,1,none⟩=some (I_ 0)/\w2.cell? ⟨w.heap.size,2,none⟩=some (.bool false):=⟨X0.o.cell 0,X0.o.cell 1,X0.o.cell 2⟩;have HZ:=af (((X0.o.set 0 (I_ f)).set 1 (I_ a)).set 2 (.bool b))
 have HB:=af (((B0.o.setCell (p:=⟨w.heap.size,0,none⟩) aW (I_ f)).setCell (p:=⟨w.heap.size,1,none⟩) aW (I_ a)).setCell (p:=⟨w.heap.size,2,none⟩) aW (.bool b));go_wp2_with fail;have e0:=HZ.o.cell 0;have e1:=HZ.o.cell 1;have e2:=HZ.o.cell 2;simp only [List.set_cons_zero,List.set_cons_succ,List.getElem?_cons_zero,List.getElem?_cons_succ] at e0 e1 e2;refine af7 (by simp [results,results35,go_sem,e0,e1,e2]<;>rfl) ?_;exact ⟨by rw [kS.o];rfl,HB.o⟩
theorem bi (m:List (List Int)) (f a:Nat) (x:Int) (v:Value) (w:World) (h:RM w v m) (hm:bW m=true) (hf:f<12) (ha:a<4) (hx:0<=x/\x<=9999) :
  Calls prog 25 #[v,I_ f,I_ a,I_ x] w fun e w'=>∃ u,e=.returned (.tuple #[u,.bool true])/\RM w' u (Kx.bG m f a x)/\Below w.heap.size w w':=by
 have HM:=af h;have Hm:=af hm;have fC:=af (show Kx.bK (f:Int) 0 11=true from Kx.ay.2 (by omega));have VY:=af (show Kx.bK (a:Int) 0 3=true from Kx.ay.2 (by omega));have fD:=af (show Kx.bK x 0 9999=true from Kx.ay.2 hx);obtain ⟨uk,eQ,_⟩:=mem_row hm hf;have HO:=af (fun W (hb:Below w.heap.size w W)=>abR m v W (h.below hb))
 clear h hm hx;go_enter func25,ntmps25;go_wp2_with fail;refine (kL m _ _ HM.o).mono ?_;rintro e w1 ⟨rfl,hb⟩;rw [Hm.o];have B0:=af hb;clear hb;go_wp2_with fail;refine (jO _ _).mono ?_;rintro e w' ⟨rfl,rfl⟩;rw [fC.o];go_wp2_with fail;refine (FH _ _).mono ?_;rintro e w' ⟨rfl,rfl⟩;rw [VY.o];go_wp2_with fail;refine (Rn _ _).mono ?_;rintro e w' ⟨rfl,rfl⟩;rw [fD.o];go_wp2_with fail;refine (HO.o _ B0.o).mono ?_;rintro e w2 ⟨u,rfl,ho,hb⟩;have B1:=af (B0.o.trans (hb.mono B0.o.size));obtain ⟨b,cb,g,cg,rfl,hrow,eG,fG,⟨cs,fK⟩,⟨z,hz⟩,hfz,aZ⟩:=ho.bG (f:=f) (a:=a) (by omega) (by omega);rw [eQ] at hrow;have zO:=af (aZ x);have HB:=af (B1.o.setCell (p:=⟨g,a,none⟩) (Nat.le_trans B0.o.size eG) (I_ x));have wJ:(f:Int)<(m.length:Int):=by omega
 have Oo:(a:Int)<4:=by omega
 clear fK aZ fG hb ho eG HO uk eQ;go_wp2_with fail;go_ret2;exact ⟨_,rfl,zO.o.rm,HB.o⟩
theorem ac' {P:Program} {ops:Array Oper} {Q:Exit->Act->World->Prop} {md:Region.Mode} {S:World->Prop} {o1:Oper} {v1:Value} {fuel:Nat} {listed l1:Array Bool} {a a1:Act} {w:World} (i:Nat) (h:wpAnyH P md ops Q S fuel l1 a1 w) (hS:S w:=by assumption) (h1:Stp P md ops Q S i o1 v1 listed l1 a a1:=by exact stp):wpAnyH P md ops Q S (fuel+1) listed a w:=h1.go hS h
theorem ae' {P:Program} {ops:Array Oper} {Q:Exit->Act->World->Prop} {md:Region.Mode} {S:World->Prop} {oi oj:Oper} {fuel:Nat} {listed:Array Bool} {a:Act} {w:World} (i j:Nat)
  (h:∀ K':Act->World->Prop,Shut (∀ a w,S w->(S w->wpAnyH P md ops Q S fuel (listed.setIfInBounds i true) a w)->K' a w)->Oper.wp P oi a w K' Q)
  (h':∀ K':Act->World->Prop,Shut (∀ a w,S w->(S w->wpAnyH P md ops Q S fuel (listed.setIfInBounds j true) a w)->K' a w)->Oper.wp P oj a w K' Q)
  (hi:ops[i]?=some oi:=by rfl) (hj:ops[j]?=some oj:=by rfl) (hr:Region.ready md ops listed=[i,j]:=by kernel_rfl) (hw:Region.wanted oi (yielded ops a.tmps)=true:=by rfl) (hw':Region.wanted oj (yielded ops a.tmps)=true:=by rfl) :
  wpAnyH P md ops Q S (fuel+1) listed a w:=
 wpAnyH_ready (rs:=[i,j]) hr (by simp) (AllReadyH.cons hi (fun K hK=>by rw [if_pos hw];exact h K hK) (AllReadyH.cons hj (fun K hK=>by rw [if_pos hw'];exact h' K hK) AllReadyH.nil))
theorem bf (k:Kx.Kernel) (n a R F G:Nat) (wt:Bool) (vm vi ve vc:Value) (w:World) (h:RK w vm vi ve vc k) (hs:iQ k) (dG:az k=true) (hn:n<3) (ha:a<64) (hR:R<12) (hr:(Kx.au k.ah n).root=(R:Int)) (hw:Kx.walk k.mem R a=(((F:Int),(G:Int),wt),0)) (hF:F<12) (hG:G<4) :
  Calls prog 31 #[.agg #[vm,vi,ve,vc],I_ n,I_ a] w fun e w'=>e=.returned (.tuple #[I_ (Kx.word k.mem F G),.bool true])/\Below w.heap.size w w':=by
 obtain ⟨w0,aS⟩:∃ w0,w.alloc (.cells #[vm,vi,ve,vc] 28)=w0:=⟨_,rfl⟩;have B0:=af (show Below w.heap.size w w0 from aS ▸ dm);have X0:=af (show BX w0 w.heap.size 28 [vm,vi,ve,vc] from (aS ▸ BX.new w _ _:BX w0 _ _ _));have HK:=af (h.below B0.o);obtain ⟨_,am,cm,rfl,_,_⟩:=h.m.len;have HC:=af (mX k _ vi ve vc w0 HK.o hs);rw [dG] at HC;obtain ⟨eY,jI,dH,fM,h3,fP⟩:=aI dG;have dS:n<k.ah.length:=by omega
 have MJ:(n:Int)<(k.ah.length:Int):=by omega
 obtain ⟨b,off,cap,u,rfl,_⟩:=HK.o.e.at dS;have kG:=af eY;have fO:=af dS;have Hr:=af hr;have Ha:=af ha;have HF:=af hF;have HG:=af hG;have H1:=af (show Kx.bK (n:Int) 0 2=true from Kx.ay.2 (by omega));have H2:=af (show Kx.bK (a:Int) 0 63=true from Kx.ay.2 (by omega));obtain ⟨f,aO⟩:∃ f:Int,(F:Int)=f:=⟨_,rfl⟩;obtain ⟨c,aP⟩:∃ c:Int,(G:Int)=c:=⟨_,rfl⟩;have cZ:=af aO;have df:=af aP;rw [aO,aP] at hw;have kS:=af hw;have k0:=X0.o.c4;have gu:decide ((R:Int)<0)=false:=decide_eq_false (by omega);clear h hs dG hn ha hr hw hF hG eY jI dH fM h3 fP dS aO aP;go_enter func31,ntmps31;go_wp2_with fail;clear aS;refine HC.o.mono ?_;rintro e w1 ⟨rfl,hb⟩;replace B0:=af (B0.o.trans (hb.mono B0.o.size));replace X0:=af (X0.o.below hb);replace HK:=af (HK.o.below hb);clear hb HC k0;go_wp2_with fail
 refine (BR _ _).mono ?_;rintro e w' ⟨rfl,rfl⟩;rw [H1.o];go_wp2_with fail;refine (qI _ _).mono ?_;rintro e w' ⟨rfl,rfl⟩;rw [H2.o];obtain ⟨b2,mP,cap2,u2,ev,eX,_,g2,_⟩:=HK.o.e.at fO.o;obtain ⟨⟨rfl,rfl,_⟩,_,rfl⟩:=Zb ev;clear ev;rw [Hr.o] at g2;have k0:=X0.o.c4;have HM:=af HK.o.m;go_wp2_with fail;clear k0;have aF:=af (show ∀ W,Below w1.heap.size w1 W->(W.cell? ⟨w.heap.size,0,none⟩=some (.slice am k.mem.length cm)/\W.cell? ⟨w.heap.size,2,none⟩=some (.slice (some ⟨b,off,none⟩) k.ah.length cap)/\W.cell? ⟨b,off+n*2+1,none⟩=some (I_ (R:Int))) from fun W h=>⟨(X0.o.below h).cell 0,(X0.o.below h).cell 2,(h.cell (p:=⟨b,off+n*2+1,none⟩) eX).trans g2⟩)
 clear g2 eX HK;have ak:=Below.refl w1.heap.size w1;have dM:=aF.o _ (Below.bz ak);refine afi aF fun ae=>?_
 clear dM;obtain ⟨d,hd⟩:∃ d,w1.drew=d:=⟨_,rfl⟩;rw [hd] at ae ⊢;replace ak:Below w1.heap.size w1 d:=hd ▸ Below.bz ak;clear hd;refine afW 0 ?_;refine ac' 8 ?_;refine ae' 9 13 (fun K hK=>?_) (fun K hK=>?_)
 case' refine_1 =>
  (go_simp;go_at_call 67;refine (o_ k.mem R a _ _ (HM.o.below ak) kG.o hR Ha.o).mono ?_;rintro en V1 ⟨rfl,hb⟩;rw [kS.o];unfold kM;have ax:=ak.trans (hb.mono ak.size);clear hb;have bC:=aF.o V1 ax;go_wp2_with fail)
  refine afS hK fun ae=>?_
  clear hK K;refine afU 10 ?_;refine ac' 12 ?_;refine ahk 13 fun K hK=>?_
  (go_simp;obtain ⟨aB,hU⟩:∃ V,V1.alloc (.cells #[I_ 0,I_ 0,.bool false] 67)=V:=⟨_,rfl⟩;have XP:=af (show BX aB V1.heap.size 67 [I_ 0,I_ 0,.bool false] from hU ▸ BX.new V1 _ _);obtain ⟨g7,Fh⟩:∃ g,V1.heap.size=g:=⟨_,rfl⟩;have aH:w1.heap.size<=g7:=Fh ▸ ax.size;have aK:=ax.trans ((show Below V1.heap.size V1 aB from hU ▸ dm).mono ax.size);have aY:=aF.o aB aK;rw [Fh] at XP ⊢;try rw [hU];clear hU Fh)
  refine afS hK fun ae=>?_
  clear hK K
 case' refine_2 =>
  (go_simp;obtain ⟨U,hU⟩:∃ V,d.alloc (.cells #[I_ 0,I_ 0,.bool false] 67)=V:=⟨_,rfl⟩;have XP:=af (show BX U d.heap.size 67 [I_ 0,I_ 0,.bool false] from hU ▸ BX.new d _ _);obtain ⟨g7,Fh⟩:∃ g,d.heap.size=g:=⟨_,rfl⟩;have aH:w1.heap.size<=g7:=Fh ▸ ak.size;have ax:=ak.trans ((show Below d.heap.size d U from hU ▸ dm).mono ak.size);have bC:=aF.o U ax;rw [Fh] at XP ⊢;try rw [hU];clear hU Fh)
  refine afS hK fun ae=>?_
  clear hK K;refine ahk 9 fun K hK=>?_
  (go_simp;go_at_call 67;refine (o_ k.mem R a _ _ (HM.o.below ax) kG.o hR Ha.o).mono ?_;rintro en aB ⟨rfl,hb⟩;rw [kS.o];unfold kM;have aK:=ax.trans (hb.mono ax.size);replace XP:=af (XP.o.below hb);clear hb;have aY:=aF.o aB aK;go_wp2_with fail)
  refine afS hK fun ae=>?_
  clear hK K;refine afU 10 ?_;refine ac' 12 ?_
 all_goals
  obtain ⟨p0,p1,p2⟩:aB.cell? ⟨g7,0,none⟩=some (I_ 0)/\aB.cell? ⟨g7,1,none⟩=some (I_ 0)/\aB.cell? ⟨g7,2,none⟩=some (.bool false):=⟨XP.o.cell 0,XP.o.cell 1,XP.o.cell 2⟩;have z0:=XP.o.frozen 0;have z1:=XP.o.frozen 1;have z2:=XP.o.frozen 2;replace XP:=af (((XP.o.set 0 (I_ f)).set 1 (I_ c)).set 2 (.bool wt));have aJ:=((aK.setCell (p:=⟨g7,0,none⟩) aH (I_ f)).setCell (p:=⟨g7,1,none⟩) aH (I_ c)).setCell (p:=⟨g7,2,none⟩) aH (.bool wt);refine ahk 14 fun K hK=>?_
  (go_simp;obtain ⟨V,hV⟩:∃ V,((aB.setCell ⟨g7,0,none⟩ (I_ f)).setCell ⟨g7,1,none⟩ (I_ c)).setCell ⟨g7,2,none⟩ (.bool wt)=V:=⟨_,rfl⟩;rw [hV] at aJ XP ⊢;have dO:=aF.o V aJ)
  refine afS hK fun ae=>?_
  clear hK K;refine ac' 15 ?_;refine wpAnyH_done (by kernel_rfl) ?_ _;replace XP:=af (show BX V g7 67 [I_ f,I_ c,.bool wt] from XP.o);clear hV p0 p1 p2 z0 z1 z2 ae aH aK ax bC aY dO;obtain rfl:=cZ.o;obtain rfl:=df.o;replace B0:=af (B0.o.trans (aJ.mono B0.o.size));replace HM:=af (HM.o.below aJ);replace X0:=af (X0.o.below aJ);clear ak aJ;obtain ⟨b1,FI,cap1,b2,mP,cap2,ev,q1,q2,q3,q4⟩:=HM.o.word kG.o HF.o HG.o;obtain ⟨rfl,hl,rfl⟩:=Za ev;clear ev;obtain ⟨k0,k1,k2,k3⟩:=X0.o.c4;rw [hl] at k0;obtain ⟨p0,p1,p2⟩:V.cell? ⟨g7,0,none⟩=some (I_ (F:Int))/\V.cell? ⟨g7,1,none⟩=some (I_ (G:Int))/\V.cell? ⟨g7,2,none⟩=some (.bool wt):=⟨XP.o.cell 0,XP.o.cell 1,XP.o.cell 2⟩;have wJ:(F:Int)<12:=by have:=HF.o;omega
  have gy:(G:Int)<4:=by have:=HG.o;omega
  obtain ⟨x,hx⟩:∃ x,Kx.word k.mem F G=x:=⟨_,rfl⟩;rw [hx] at q2 q3 q4;have Hx:=af hx;clear kS hl hx;go_wp2_with fail;go_quiet (fail);go_wp2_with fail;go_ret2;exact ⟨by rw [Hx.o];rfl,B0.o.trans ((below_drewN V _).mono B0.o.size)⟩
end Go.Proofs.YtmmjmckajcfffaaGreatDoor
namespace Kx
def cu (k:Kernel) (c:Call) (W:(Int×Int×Bool)×Int):Out:=
 if bK c.a 0 63=true/\0<=(au k.ah c.env.toNat).root/\(c.kind=11->bK c.b 0 9999=true)/\W.2=0 then
  if c.kind=11 then if W.1.2.2=false then (k,0,1) else ({ k with cache:=je k c W.1.1 W.1.2.2,mem:=bG k.mem W.1.1.toNat (c.a % 4).toNat c.b },0,0)
  else ({ k with cache:=je k c W.1.1 W.1.2.2 },word k.mem W.1.1.toNat (c.a % 4).toNat,0)
 else (k,0,3)
theorem bu {k:Kernel} (hk:Ok k) {c:Call} (hkd:c.kind=10\/c.kind=11):cO k c=cu k c (walk k.mem (au k.ah c.env.toNat).root.toNat c.a.toNat):=by
 have e2:qm k c=access k c:=by rcases hkd with h | h <;> simp [qm,h]
 have key:access k c=cu k c (walk k.mem (au k.ah c.env.toNat).root.toNat c.a.toNat):=by
  unfold access cu;split
  ·rename_i hb
   rw [if_neg];rintro ⟨h1,h2,h3,_⟩;simp [h1] at hb;rcases hb with hb | hb
   ·omega
   rw [h3 hb.1] at hb;cases hb.2
  rename_i hb
  simp only [Bool.or_eq_true,Bool.not_eq_true',decide_eq_true_eq,Bool.and_eq_true,beq_iff_eq,not_or,Bool.not_eq_false] at hb;obtain ⟨⟨ha,hr⟩,hv⟩:=hb;have hp:=hk.place (env:=c.env) ha;generalize walk k.mem (au k.ah c.env.toNat).root.toNat c.a.toNat=W at hp ⊢;generalize placeOf k c.env c.a=P at hp ⊢;obtain ⟨⟨g,w⟩,code⟩:=P;obtain ⟨⟨f,a,b⟩,d⟩:=W;simp only at hp ⊢;obtain ⟨rfl,hp⟩:=hp
  by_cases hc:code=0
  ·obtain ⟨rfl,rfl⟩:=Prod.ext_iff.1 (hp hc);have fJ:c.kind=11->bK c.b 0 9999=true:=fun h=>by
    cases hy:bK c.b 0 9999 with
    | true=>rfl
    | false=>exact absurd ⟨h,hy⟩ hv
   have hA:bK c.a 0 63=true/\0<=(au k.ah c.env.toNat).root/\(c.kind=11->bK c.b 0 9999=true)/\code=0:=⟨ha,by omega,fJ,hc⟩;rw [if_neg (by simpa using hc),if_pos hA]
   by_cases h11:c.kind=11
   ·cases w <;> simp [h11]
   simp [h11]
  rw [if_pos hc,if_neg (fun h=>hc h.2.2.2)]
 have h3:∀ o:Out,o=(k,0,1)\/o=(k,0,3)\/o.2.2=0->(if o.2.2≠0 then (k,0,o.2.2) else o)=o:=by
  rintro o (rfl | rfl | h)
  ·rfl
  ·rfl
  rw [if_neg (by simpa using h)]
 unfold cO;rw [e2,key]
 exact h3 _ (by (unfold cu; repeat' split);all_goals simp)
theorem bn {k:Kernel} (hk:Ok k) {c:Call} (he:bK c.env 0 2=true) (h11:c.kind=11) (h:(cO k c).2.2=0) :
  ∃ f a A R:Nat,f<12/\a<4/\A<64/\R<12/\c.a=(A:Int)/\(au k.ah c.env.toNat).root=(R:Int)/\0<=c.b/\c.b<=9999/\walk k.mem R A=(((f:Int),(a:Int),true),0)/\(cO k c).1.mem=bG k.mem f a c.b/\(cO k c).1.ag=k.ag/\(cO k c).1.ah=k.ah/\walk (bG k.mem f a c.b) R A=walk k.mem R A/\word (bG k.mem f a c.b) f a=c.b:=by
 rw [bu hk (.inr h11)] at h ⊢;unfold cu at h ⊢;split at h
 ·rename_i hA
  rw [if_pos hA,if_pos h11];split at h
  ·exact absurd h (by simp)
  rename_i hw2
  rw [if_neg hw2];obtain ⟨ha,ai,hb,hw⟩:=hA;have hb:=ay.1 (hb h11);have fH:=ay.1 ha;have gz:=ay.1 he;have ht:=hk.top (e:=c.env.toNat) (by omega) ai;obtain ⟨f,e1,e2,hf,Np,_⟩:=hk.walked (e:=c.env.toNat) (by omega) ai hw;obtain ⟨A,hA⟩:=Int.eq_ofNat_of_zero_le fH.1;obtain ⟨R,hR⟩:=Int.eq_ofNat_of_zero_le ai;rw [hR,Int.toNat_natCast] at ht hw hw2 e1 e2 ⊢;rw [hA,Int.toNat_natCast] at hw hw2 e1 e2 ⊢;have dN:f<k.mem.length:=by rw [hk.m12];exact hf
  have eF:∀ {t:Nat},(inf k.ag t).kind≠1->t≠f:=fun h e=>h (by rw [e];exact Np)
  have dU:R≠f:=eF (by rw [ht.1];decide);have h4:A % 4<4:=Nat.mod_lt _ (by decide);rw [e1,show ((A:Int) % 4).toNat=A % 4 by omega,Int.toNat_natCast];refine ⟨f,A % 4,A,R,hf,h4,by omega,ht.2,rfl,rfl,hb.1,hb.2,Prod.ext (Prod.ext e1 (Prod.ext e2 (by simpa using hw2))) hw,rfl,rfl,rfl,F9 ?_ ?_,?_⟩
  ·rw [iH dN,if_neg dU]
  ·intro t htt;rw [iH dN] at htt ⊢;rw [if_neg dU] at htt;rw [if_neg (eF (by rw [(hk.names ht.2 (by rw [ht.1];rfl) htt).2.2,ht.1];decide))]
  unfold word;rw [iH dN,if_pos rfl,Em (by rw [hk.m4 f hf];exact h4),if_pos rfl]
 exact absurd h (by simp)
end Kx
namespace Go.Proofs.YtmmjmckajcfffaaGreatDoor
open Go.RowKit Kx

theorem FnStore_c (a:Option Addr) (len0 cap0:Nat) (zr:List Int) (w:World) (h0:abT .u8 w a len0 cap0 zr) :
  Calls prog 13 #[.slice a len0 cap0] w (aez w):=by
 by_cases hl0:len0<=1048576
 ·have eH:¬ (1048576:Int)<(len0:Int):=by omega
  have Hr:=af (abT.rb h0);clear h0;go_enter func13,ntmps13;go_wp2_with fail;clear eH;refine (adi _ _ _ Hr.o).mono ?_;rintro en w1 ⟨k,⟨bQ,JF,ca,cb,cc,bg⟩,_,_,_,_,rfl,hsl,hs,bY,dJ,hk,hb⟩;obtain ⟨⟨a0,n0,m0,rfl⟩,⟨a1,n1,m1,rfl⟩,⟨a2,n2,m2,rfl⟩,⟨a3,n3,m3,rfl⟩⟩:=hsl;unfold dW;obtain ⟨u1,bP⟩:∃ V,w1.alloc (.cells #[.slice none 0 0,.slice none 0 0,.slice none 0 0,.slice none 0 0] 28)=V:=⟨_,rfl⟩;obtain ⟨u2,dL⟩:∃ V,u1.alloc (.cells #[I_ 0,I_ 0,I_ 0,I_ 0,I_ 0,.string ⟨#[]⟩] 30)=V:=⟨_,rfl⟩;have dh:Below w1.heap.size w1 u1:=bP ▸ dm;have di:Below u1.heap.size u1 u2:=dL ▸ dm;have dn:w1.heap.size<u1.heap.size:=by rw [<-bP];simp
  have bF:=af (show BX u2 w1.heap.size 28 [.slice none 0 0,.slice none 0 0,.slice none 0 0,.slice none 0 0] from (bP ▸ BX.new w1 _ _:BX u1 _ _ _).below di);have dV:=af (show BX u2 u1.heap.size 30 [I_ 0,I_ 0,I_ 0,I_ 0,I_ 0,.string ⟨#[]⟩] from dL ▸ BX.new u1 _ _);have dX:=af (dh.trans (di.mono dh.size));obtain ⟨p0,p1,p2,p3⟩:=bF.o.c4;obtain ⟨q0,q1,q2,q3⟩:=bF.o.f4;have aN:=BX.iq (Nat.ne_of_gt dn) [.slice a0 n0 m0,.slice a1 n1 m1,.slice a2 n2 m2,.slice a3 n3 m3] 0 dV.o;have dw:=bF.o.sets [.slice a0 n0 m0,.slice a1 n1 m1,.slice a2 n2 m2,.slice a3 n3 m3] rfl;rw [<-afA] at dw aN;have Y2:=aN.sets [I_ bQ,I_ JF,I_ ca,I_ cb,I_ cc,.string bg] rfl;have bH:=BX.iq (Nat.ne_of_lt dn) [I_ bQ,I_ JF,I_ ca,I_ cb,I_ cc,.string bg] 0 dw
  have BF:=dP (Nat.le_of_lt dn) [I_ bQ,I_ JF,I_ ca,I_ cb,I_ cc,.string bg] 0 (dP aW [.slice a0 n0 m0,.slice a1 n1 m1,.slice a2 n2 m2,.slice a3 n3 m3] 0 dX.o);rw [<-afA] at BF;rw [<-afB] at Y2 bH BF;obtain ⟨d0,d1,d2,d3,d4,d5⟩:=aN.c6;have f0:=aN.frozen 0;have f1:=aN.frozen 1;have f2:=aN.frozen 2;have f3:=aN.frozen 3;have f4:=aN.frozen 4;have f5:=aN.frozen 5;have e0:=bH.c4;have g0:=Y2.c6;have dA:=af Y2;have dB:=af bH;have bI:=af BF;clear dw aN Y2 bH BF bF dV dX dh di;go_wp2_with fail;clear bP dL p0 p1 p2 p3 q0 q1 q2 q3 d0 d1 d2 d3 d4 d5 f0 f1 f2 f3 f4 f5 e0 g0;obtain ⟨w3,eU⟩:=lg bI;rw [eU] at dA dB bI ⊢;have aC:=dB;have aA:=dA;have TP:=bI.o;have Bw:=af (hb.trans (TP.mono hb.size));have HR:=af (fun W (h:Below w3.heap.size w3 W)=>(hk.below TP).below h)
  have Hs:=af hs;have HI:=af (fun W (h:Below w3.heap.size w3 W)=>adb k ⟨bQ,JF,ca,cb,cc,bg⟩ _ _ _ _ W (HR.o W h) hs bY dJ)
  have HS:=af (fun W (h:Below w3.heap.size w3 W)=>ac9 k ⟨bQ,JF,ca,cb,cc,bg⟩ _ _ _ _ W (HR.o W h) hs bY)
  have fQ:=af bY;have fU:=af dJ;obtain ⟨r,hr⟩:∃ r,QH k ⟨bQ,JF,ca,cb,cc,bg⟩=r:=⟨_,rfl⟩;have HX:=af hr;rw [hr] at HI HS;unfold dW at HI HS;have B3:=af (Below.refl w3.heap.size w3);clear hs bY dJ hk hb TP Hr hr eU dA dB bI;refine (HI.o w3 B3.o).mono ?_;rintro en w4 ⟨_,_,_,_,rfl,aU,hb⟩;obtain ⟨⟨b0,q0,z0,rfl⟩,⟨b1,q1,z1,rfl⟩,⟨b2,q2,z2,rfl⟩,⟨b3,q3,z3,rfl⟩⟩:=aU.sl;obtain ⟨aC,aA,Bw,B3⟩:=gm hb aC aA Bw B3;obtain ⟨w5,bT⟩:∃ V,w4.alloc (.cells #[.slice b0 q0 z0,.slice b1 q1 z1,.slice b2 q2 z2,.slice b3 q3 z3] 28)=V:=⟨_,rfl⟩;have dC:Below w4.heap.size w4 w5:=bT ▸ dm;have aG:=af (show BX w5 w4.heap.size 28 [.slice b0 q0 z0,.slice b1 q1 z1,.slice b2 q2 z2,.slice b3 q3 z3] from bT ▸ BX.new w4 _ _);have HO:=af (aU.below dC);obtain ⟨aC,aA,Bw,B3⟩:=gm dC aC aA Bw B3;clear aU hb dC;obtain ⟨p0,p1,p2,p3⟩:=aC.o.c4;have c0:=aA.o.c6
  go_wp2_with fail
  try rw [bT]
  clear bT p0 p1 p2 p3;clear c0;refine (HS.o w5 B3.o).mono ?_;rintro en w6 ⟨_,_,_,_,rfl,aU,hb⟩;obtain ⟨⟨d0,x0,y0,rfl⟩,⟨d1,x1,y1,rfl⟩,⟨d2,x2,y2,rfl⟩,⟨d3,x3,y3,rfl⟩⟩:=aU.sl;obtain ⟨aC,aA,Bw,B3⟩:=gm hb aC aA Bw B3;obtain ⟨aG,HO⟩:=gp hb aG HO;obtain ⟨w7,bZ⟩:∃ V,w6.alloc (.cells #[.slice d0 x0 y0,.slice d1 x1 y1,.slice d2 x2 y2,.slice d3 x3 y3] 28)=V:=⟨_,rfl⟩;have bJ:Below w6.heap.size w6 w7:=bZ ▸ dm;have aV:=af (show BX w7 w6.heap.size 28 [.slice d0 x0 y0,.slice d1 x1 y1,.slice d2 x2 y2,.slice d3 x3 y3] from bZ ▸ BX.new w6 _ _);have HW:=af (aU.below bJ);obtain ⟨aC,aA,Bw,B3⟩:=gm bJ aC aA Bw B3;obtain ⟨aG,HO⟩:=gp bJ aG HO;clear aU hb bJ HI HS;have o0:=aG.o.c4;have t0:=aV.o.c4;go_wp2_with fail
  try rw [bZ]
  clear bZ o0;clear t0;refine (adE r.1 _ _ _ _ _ _ _ _ _ HO.o.rk HW.o.rk).mono ?_;rintro en w8 ⟨rfl,hb⟩;obtain ⟨aC,aA,Bw,B3⟩:=gm hb aC aA Bw B3;obtain ⟨aG,HO⟩:=gp hb aG HO;obtain ⟨aV,HW⟩:=gp hb aV HW;clear hb;rcases eu r.2.2 bQ 11 with hE | ⟨hd,rfl⟩
  case inl =>
   rcases hE with dY | ⟨dY,dZ | ⟨dZ,hkb⟩⟩
   all_goals (
    have c0:=aA.o.c6;have o0:=aG.o.c4;have t0:=aV.o.c4;go_wp2_with fail;refine (adE r.1 _ _ _ _ _ _ _ _ _ HO.o.rk HW.o.rk).mono ?_;rintro en w9 ⟨rfl,hb⟩;obtain ⟨aC,aA,Bw,B3⟩:=gm hb aC aA Bw B3;obtain ⟨aG,HO⟩:=gp hb aG HO;obtain ⟨aV,HW⟩:=gp hb aV HW;clear hb o0;clear t0 c0;go_wp2_with fail;go_ret;exact ⟨rfl,Bw.o⟩)
  have Hd:=af hd;have H5:=af (show r.2.2≠5 by rw [hd];decide);have dY:(r.2.2==5)=false:=by rw [hd];rfl
  have dZ:(r.2.2 != 0)=false:=by rw [hd];rfl
  clear hd;have HP:=af (adQ (k:=k) (c:=⟨11,JF,ca,cb,cc,bg⟩) (by rw [HX.o];exact H5.o));have HC:=af (show Kx.cO k ⟨11,JF,ca,cb,cc,bg⟩=r from HP.o.2.2.1.symm.trans HX.o);have Yy:=af (nN.1 HP.o.1);obtain ⟨F,G,A,R,hF,hG,hA,hR,hca,ai,ak,dD,bU,D_,lL,aQ,dI,dK⟩:=Kx.bn Yy.o (c:=⟨11,JF,ca,cb,cc,bg⟩) HP.o.2.1 rfl (by rw [HC.o];exact Hd.o);rw [HC.o] at D_ lL aQ;simp only at hca ai ak dD D_ dI dK;subst hca;have eP:=af (show Kx.Ok r.1 from nN.1 (by have:=HP.o.2.2.2;rw [HX.o] at this;exact this));obtain ⟨hm,jI,dH,-⟩:=aI HP.o.1;have dF:k.ah.length=3:=Yy.o.e3;have dQ:=Kx.ay.1 HP.o.2.1;simp only at dQ;obtain ⟨e,rfl⟩:=Int.eq_ofNat_of_zero_le dQ.1;have he:e<3:=by omega
  obtain ⟨bk,ok,qk,fV,ek,lk,yk,sk,rk⟩:=(HR.o w8 B3.o).e.at (k:=e) (by rw [dF];exact he);obtain ⟨rfl,rfl,rfl⟩:=Za ek;clear ek;have gq:(e:Int)<(k.ah.length:Int):=by rw [dF];omega
  rw [show ((e:Int)).toNat=e from rfl] at ai;rw [ai] at sk;obtain ⟨f,aO⟩:∃ f:Int,(F:Int)=f:=⟨_,rfl⟩;obtain ⟨c,aP⟩:∃ c:Int,(G:Int)=c:=⟨_,rfl⟩;obtain ⟨wt,dR⟩:∃ wt,true=wt:=⟨_,rfl⟩;have aX:=bU;rw [aO,aP,dR] at bU;have kS:=af bU;have dE:=af (fun W (h:Below w8.heap.size w8 W)=>HR.o W (B3.o.trans (h.mono B3.o.size)))
  have fA:=af (fun W (h:Below w8.heap.size w8 W)=>ng k.mem R A _ W (dE.o W h).m hm hR hA)
  have fE:=af (fun W (h:Below w8.heap.size w8 W)=>bi k.mem F G cb _ W (dE.o W h).m hm hF hG ⟨ak,dD⟩)
  have ed:=af (fun W (h:Below w8.heap.size w8 W)=>bf r.1 e A R F G true _ _ _ _ W (HO.o.below h).rk (jX (nN.2 eP.o)) (nN.2 eP.o) he hA hR (by rw [aQ];exact ai) (by rw [D_,dI];exact aX) hF hG)
  rw [D_,dK] at ed;have Hm:=af (fun W (h:Below w8.heap.size w8 W)=>(show RM W _ (Kx.bG k.mem F G cb) by have:=(HO.o.below h).rk.m;rw [D_] at this;exact this))
  have Hi:=af (fun W (h:Below w8.heap.size w8 W)=>(show bV W _ k.ag by have:=(HO.o.below h).rk.i;rw [lL] at this;exact this))
  have cZ:=af aO;have df:=af aP;have fF:=af dR;have aF:=af (show ∀ W,Below w8.heap.size w8 W->(W.cell? ⟨w1.heap.size,0,none⟩=some (.slice a0 n0 m0)/\W.cell? ⟨w1.heap.size,2,none⟩=some (.slice (some ⟨bk,ok,none⟩) k.ah.length m2)/\W.cell? ⟨u1.heap.size,1,none⟩=some (I_ (e:Int))/\W.cell? ⟨u1.heap.size,2,none⟩=some (I_ (A:Int))/\W.cell? ⟨bk,ok+e*2+1,none⟩=some (I_ (R:Int))) from fun W h=>⟨(aC.o.below h).cell 0,(aC.o.below h).cell 2,(aA.o.below h).cell 1,(aA.o.below h).cell 2,(h.cell (p:=⟨bk,ok+e*2+1,none⟩) lk).trans sk⟩)
  clear hF hG hA hR ak dD bU aX D_ lL aQ dI dK ai hm jI dH dF dQ he yk sk rk lk aO aP dR;obtain ⟨p0,p1,p2,p3⟩:=aC.o.c4;have c0:=aA.o.c6;go_wp2_with fail;clear p0 p1 p2 p3 c0;have ak:=Below.refl w8.heap.size w8;have dM:=aF.o _ (Below.bz ak);refine afi aF fun ae=>?_
  clear dM;obtain ⟨d,hd⟩:∃ d,w8.drew=d:=⟨_,rfl⟩;rw [hd] at ae ⊢;replace ak:Below w8.heap.size w8 d:=hd ▸ Below.bz ak;clear hd;refine afW 0 ?_;refine afU 8 ?_;refine ac' 10 ?_;refine ae' 11 15 (fun K hK=>?_) (fun K hK=>?_)
  case' refine_1 =>
   (go_simp;go_at_call 35;refine (fA.o _ ak).mono ?_;rintro en V1 ⟨rfl,hb⟩;rw [kS.o];unfold kM;have ax:=ak.trans (hb.mono ak.size);clear hb;have bC:=aF.o V1 ax;go_wp2_with fail)
   refine afS hK fun ae=>?_
   clear hK K;refine afU 12 ?_;refine ac' 14 ?_;refine ahk 15 fun K hK=>?_
   (go_simp;obtain ⟨aB,hU⟩:∃ V,V1.alloc (.cells #[I_ 0,I_ 0,.bool false] 67)=V:=⟨_,rfl⟩;have XP:=af (show BX aB V1.heap.size 67 [I_ 0,I_ 0,.bool false] from hU ▸ BX.new V1 _ _);obtain ⟨g7,Fh⟩:∃ g,V1.heap.size=g:=⟨_,rfl⟩;have aH:w8.heap.size<=g7:=Fh ▸ ax.size;have aK:=ax.trans ((show Below V1.heap.size V1 aB from hU ▸ dm).mono ax.size);have aY:=aF.o aB aK;rw [Fh] at XP ⊢;try rw [hU];clear hU Fh)
   refine afS hK fun ae=>?_
   clear hK K
  case' refine_2 =>
   (go_simp;obtain ⟨U,hU⟩:∃ V,d.alloc (.cells #[I_ 0,I_ 0,.bool false] 67)=V:=⟨_,rfl⟩;have XP:=af (show BX U d.heap.size 67 [I_ 0,I_ 0,.bool false] from hU ▸ BX.new d _ _);obtain ⟨g7,Fh⟩:∃ g,d.heap.size=g:=⟨_,rfl⟩;have aH:w8.heap.size<=g7:=Fh ▸ ak.size;have ax:=ak.trans ((show Below d.heap.size d U from hU ▸ dm).mono ak.size);have bC:=aF.o U ax;rw [Fh] at XP ⊢;try rw [hU];clear hU Fh)
   refine afS hK fun ae=>?_
   clear hK K;refine ahk 11 fun K hK=>?_
   (go_simp;go_at_call 35;refine (fA.o _ ax).mono ?_;rintro en aB ⟨rfl,hb⟩;rw [kS.o];unfold kM;have aK:=ax.trans (hb.mono ax.size);replace XP:=af (XP.o.below hb);clear hb;have aY:=aF.o aB aK;go_wp2_with fail)
   refine afS hK fun ae=>?_
   clear hK K;refine afU 12 ?_;refine ac' 14 ?_
  all_goals
   obtain ⟨p0,p1,p2⟩:aB.cell? ⟨g7,0,none⟩=some (I_ 0)/\aB.cell? ⟨g7,1,none⟩=some (I_ 0)/\aB.cell? ⟨g7,2,none⟩=some (.bool false):=⟨XP.o.cell 0,XP.o.cell 1,XP.o.cell 2⟩;have z0:=XP.o.frozen 0;have z1:=XP.o.frozen 1;have z2:=XP.o.frozen 2;replace XP:=af (((XP.o.set 0 (I_ f)).set 1 (I_ c)).set 2 (.bool wt));have aJ:=((aK.setCell (p:=⟨g7,0,none⟩) aH (I_ f)).setCell (p:=⟨g7,1,none⟩) aH (I_ c)).setCell (p:=⟨g7,2,none⟩) aH (.bool wt);refine ahk 16 fun K hK=>?_
   (go_simp;obtain ⟨V,hV⟩:∃ V,((aB.setCell ⟨g7,0,none⟩ (I_ f)).setCell ⟨g7,1,none⟩ (I_ c)).setCell ⟨g7,2,none⟩ (.bool wt)=V:=⟨_,rfl⟩;rw [hV] at aJ XP ⊢;have dO:=aF.o V aJ)
   refine afS hK fun ae=>?_
   clear hK K;refine ac' 17 ?_;refine wpAnyH_done (by kernel_rfl) ?_ _;replace XP:=af (show BX V g7 67 [I_ f,I_ c,.bool wt] from XP.o);clear hV p0 p1 p2 z0 z1 z2 ae aH aK ax bC aY dO;have aj:=af aJ;obtain rfl:=cZ.o;obtain rfl:=df.o;obtain rfl:=fF.o;clear aJ ak
   have bM:=af (show ∀ W,Below V.heap.size V W->(W.cell? ⟨w1.heap.size,0,none⟩=some (.slice a0 n0 m0)/\W.cell? ⟨w1.heap.size,1,none⟩=some (.slice a1 n1 m1)/\W.cell? ⟨u1.heap.size,1,none⟩=some (I_ (e:Int))/\W.cell? ⟨u1.heap.size,2,none⟩=some (I_ (A:Int))/\W.cell? ⟨u1.heap.size,3,none⟩=some (I_ cb)/\W.cell? ⟨w4.heap.size,0,none⟩=some (.slice b0 q0 z0)/\W.cell? ⟨w4.heap.size,1,none⟩=some (.slice b1 q1 z1)/\W.cell? ⟨w4.heap.size,2,none⟩=some (.slice b2 q2 z2)/\W.cell? ⟨w4.heap.size,3,none⟩=some (.slice b3 q3 z3)/\W.cell? ⟨g7,0,none⟩=some (I_ (F:Int))/\W.cell? ⟨g7,1,none⟩=some (I_ (G:Int))/\W.cell? ⟨g7,2,none⟩=some (.bool true)) from fun W h=>⟨((aC.o.below aj.o).below h).cell 0,((aC.o.below aj.o).below h).cell 1,((aA.o.below aj.o).below h).cell 1,((aA.o.below aj.o).below h).cell 2,((aA.o.below aj.o).below h).cell 3,((aG.o.below aj.o).below h).cell 0,((aG.o.below aj.o).below h).cell 1,((aG.o.below aj.o).below h).cell 2,((aG.o.below aj.o).below h).cell 3,(XP.o.below h).cell 0,(XP.o.below h).cell 1,(XP.o.below h).cell 2⟩)
   have HV:=af (Below.refl V.heap.size V);clear XP;have q:=bM.o _ HV.o;go_wp2_with fail;refine (fE.o V aj.o).mono ?_;rintro en V2 ⟨u9,rfl,Rh,hb⟩;obtain ⟨_,a9,c9,rfl,_,_⟩:=Rh.len;have HL:=af Rh;clear Rh;replace aj:=af (aj.o.trans (hb.mono aj.o.size));replace HV:=af (HV.o.trans (hb.mono HV.o.size));clear hb q;have q:=bM.o _ HV.o;go_wp2_with fail;refine (ed.o V2 aj.o).mono ?_;rintro en V3 ⟨rfl,hb⟩;replace HL:=af (HL.o.below hb);replace aj:=af (aj.o.trans (hb.mono aj.o.size));replace HV:=af (HV.o.trans (hb.mono HV.o.size));clear hb q;have q:=bM.o _ HV.o;go_wp2_with fail;refine (ab4 _ _ _ V3 (Hm.o _ aj.o) HL.o).mono ?_;rintro en V4 ⟨rfl,hb⟩;replace aj:=af (aj.o.trans (hb.mono aj.o.size));replace HV:=af (HV.o.trans (hb.mono HV.o.size));clear hb q;have q:=bM.o _ HV.o;go_wp2_with fail
   refine (acg _ _ _ V4 (Hi.o _ aj.o) (dE.o _ aj.o).i).mono ?_;rintro en V5 ⟨rfl,hb⟩;replace aj:=af (aj.o.trans (hb.mono aj.o.size));replace HV:=af (HV.o.trans (hb.mono HV.o.size));clear hb q;go_wp2_with fail;go_ret;exact ⟨rfl,Bw.o.trans (aj.o.mono Bw.o.size)⟩
 have eH:(1048576:Int)<(len0:Int):=by omega
 clear h0;go_enter func13,ntmps13;go_wp2_with fail;go_ret;exact ⟨rfl,Below.refl _ _⟩
end Go.Proofs.YtmmjmckajcfffaaGreatDoor
