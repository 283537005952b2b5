/- Contracts: an own kernel's infos and environments are turned in place; the reference's l22Users, l22Behind, l11Drop. -/
import Derived.Test.YtenebmeaoidnoaaGreatDoorKC13
import Derived.Test.YtenebmeaoidnoaaGreatDoorKY
namespace Go.Proofs.YtenebmeaoidnoaaGreatDoor
open Go.RowKit
theorem KO.setRefs {w:World} {base:Nat} {um ui ue uc:Value} {k:Kx.Kernel} (h:KO w base um ui ue uc k) {f:Nat} (hf:f<k.infos.length) :
    ∃ b cap,ui=.slice (some ⟨b,0,none⟩) k.infos.length cap∧base≤b∧b<w.heap.size∧(∃ cs,w.heap[b]?=some (.cells cs 45 (0,0)))∧(∃ z,w.cell? ⟨b,f*3+2,none⟩=some z)∧w.frozen? ⟨b,f*3+2,none⟩=false ∧
      w.cell? ⟨b,f*3+2,none⟩=some (.int .i64 (Kx.inf k.infos f).refs)∧∀ x,KO (w.setCell ⟨b,f*3+2,none⟩ (.int .i64 x)) base um ui ue uc { k with infos:=k.infos.set f { Kx.inf k.infos f with refs:=x } }:=by
  obtain ⟨b,cap,rfl,hb1,hb2⟩:=h.i.shape (by omega);obtain ⟨cs,hcs⟩:=h.i.kind (g:=b) rfl;obtain ⟨hz,hfz⟩:=h.i.cellAt2 f hf 2 (by decide);obtain ⟨b2,off,cap2,ev,_,_,_,q⟩:=RInfo.at h.i.rs hf;simp only [Value.slice.injEq,Option.some.injEq,Addr.mk.injEq] at ev;obtain ⟨⟨rfl,rfl,_⟩,_,rfl⟩:=ev;rw [Nat.zero_add] at q;refine ⟨b,cap,rfl,hb1,hb2,⟨cs,hcs⟩,hz,hfz,q,fun x=>?_⟩
  have hg:=grown_set1 w b (f*3+2) (.int .i64 x);have hs:(w.setCell ⟨b,f*3+2,none⟩ (.int .i64 x)).heap.size=w.heap.size:=by simp [World.setCell]
  refine ⟨?_,h.i.setRefs rfl f x hf,?_,h.c.keptT hg hcs (by decide)⟩
  · rw [hs];exact h.m.keptT hg hcs (by decide) (by decide)
  · rw [hs];exact h.e.keptT hg hcs (by decide) (by decide)
theorem getElem_envAt {l:List Kx.Env} {e:Nat} (he:e<l.length):l[e]=Kx.envAt l e:=by simp [Kx.envAt,he]
/-- an own environment's table is turned -/
theorem OE.setRoot {w:World} {base hi:Nat} {u:Value} {es:List Kx.Env} (h:OE w base hi u es) {e:Nat} (he:e<es.length) :
    ∃ b cap,u=.slice (some ⟨b,0,none⟩) es.length cap∧base≤b∧b<w.heap.size∧(∃ cs,w.heap[b]?=some (.cells cs 40 (0,0)))∧(∃ z,w.cell? ⟨b,e*2+1,none⟩=some z)∧w.frozen? ⟨b,e*2+1,none⟩=false ∧
      ∀ x,OE (w.setCell ⟨b,e*2+1,none⟩ (.int .i64 x)) base hi u (Kx.setRoot es e x):=by
  obtain ⟨ss,hl,ho,hr,hs⟩:=h;have hes:e<ss.length:=by omega
  obtain ⟨b,cap,rfl,hb1,hb2⟩:=ho.1.shape (by omega);obtain ⟨cs,hcs⟩:=ho.1.kind (g:=b) rfl;obtain ⟨hz,hfz⟩:=ho.1.cellAt2 e hes 1 (by decide);refine ⟨b,cap,by rw [hl],hb1,hb2,⟨cs,hcs⟩,hz,hfz,fun x=>?_⟩
  have hg:=grown_set1 w b (e*2+1) (.int .i64 x);have hst:=(ho.1.1.stored (e*2+1) (.int .i64 x)).1;have e0:=flat_get (f:=slc2C) (sz:=2) (fun _=>rfl) ss e 0 hes (by decide);have e2:flat slc2C (ss.set e (ss[e].1,x))=(flat slc2C ss).set (e*2+1) (.int .i64 x):=by
    rw [flat_set (sz:=2) (fun _=>rfl) ss e _ hes];show (((flat slc2C ss).set (e*2) (slcV ss[e].1)).set (e*2+1) (.int .i64 x))=_;rw [set_same (show (flat slc2C ss)[e*2]?=some (slcV ss[e].1) from e0)]
  refine ⟨ss.set e (ss[e].1,x),by simp [Kx.setRoot,hl],⟨⟨?_,by simpa using ho.1.2⟩,ho.2⟩,fun i hi1 hi2=>?_,fun i j hi1 hj1 hij=>?_⟩
  · rw [e2,List.length_set];exact hst
  · have hi0:i<ss.length:=by simpa using hi1
    have hi3:i<es.length:=by omega
    obtain ⟨q1,q2,q3,q4⟩:=hr i hi0 hi3
    by_cases ei:i=e
    · subst ei;have e3:(Kx.setRoot es i x)[i]={ Kx.envAt es i with root:=x }:=by simp [Kx.setRoot]
      rw [e3,List.getElem_set_self];rw [getElem_envAt hi3] at q2;exact ⟨rfl,q2.keptT hg hcs (by decide),q3,q4⟩
    · have e3:(Kx.setRoot es e x)[i]=es[i]:=by simp [Kx.setRoot,List.getElem_set_ne (Ne.symm ei)]
      rw [e3,List.getElem_set_ne (Ne.symm ei)];exact ⟨q1,q2.keptT hg hcs (by decide),q3,q4⟩
  · have hi0:i<ss.length:=by simpa using hi1
    have hj0:j<ss.length:=by simpa using hj1
    have q:∀ m (hm:m<(ss.set e (ss[e].1,x)).length),(ss.set e (ss[e].1,x))[m].1=(ss[m]'(by simpa using hm)).1:=by
      intro m hm
      by_cases em:m=e
      · subst em;rw [List.getElem_set_self]
      · rw [List.getElem_set_ne (Ne.symm em)]
    rw [q i hi1,q j hj1];exact hs i j hi0 hj0 hij
/-- an own environment takes a new row of rights -/
theorem OE.setRights {w:World} {base hi:Nat} {u:Value} {es:List Kx.Env} (h:OE w base hi u es) (hbh:base≤hi) (hhi:hi≤w.heap.size) {e:Nat} (he:e<es.length) (s:Slc) (xs:List Kx.Str) (hn:OS strC 1 9 w hi (slcV s) xs) :
    ∃ b cap,u=.slice (some ⟨b,0,none⟩) es.length cap∧base≤b∧b<w.heap.size∧(∃ cs,w.heap[b]?=some (.cells cs 40 (0,0)))∧(∃ z,w.cell? ⟨b,e*2,none⟩=some z)∧w.frozen? ⟨b,e*2,none⟩=false ∧
      OE (w.setCell ⟨b,e*2,none⟩ (slcV s)) base w.heap.size u (Kx.setRights es e xs):=by
  obtain ⟨ss,hl,ho,hr,hs⟩:=h;have hes:e<ss.length:=by omega
  obtain ⟨b,cap,rfl,hb1,hb2⟩:=ho.1.shape (by omega);obtain ⟨cs,hcs⟩:=ho.1.kind (g:=b) rfl;obtain ⟨hz,hfz⟩:=ho.1.cellAt2 e hes 0 (by decide);rw [Nat.add_zero] at hz hfz;have hg:=grown_set1 w b (e*2) (slcV s);have hst:=(ho.1.1.stored (e*2) (slcV s)).1;have e1:=flat_get (f:=slc2C) (sz:=2) (fun _=>rfl) ss e 1 hes (by decide);have e2:flat slc2C (ss.set e (s,ss[e].2))=(flat slc2C ss).set (e*2) (slcV s):=by
    rw [flat_set (sz:=2) (fun _=>rfl) ss e _ hes];show (((flat slc2C ss).set (e*2) (slcV s)).set (e*2+1) (.int .i64 ss[e].2))=_;rw [set_same (show ((flat slc2C ss).set (e*2) (slcV s))[e*2+1]?=some (.int .i64 ss[e].2) by rw [List.getElem?_set_ne (by omega)];exact e1)]
  have hub:=hn.ub;refine ⟨b,cap,by rw [hl],hb1,hb2,⟨cs,hcs⟩,hz,hfz,ss.set e (s,ss[e].2),by simp [Kx.setRights,hl],⟨⟨?_,by simpa using ho.1.2⟩,ho.2.mono hhi⟩,fun i hi1 hi2=>?_,fun i j hi1 hj1 hij=>?_⟩
  · rw [e2,List.length_set];exact hst
  · have hi0:i<ss.length:=by simpa using hi1
    have hi3:i<es.length:=by omega
    obtain ⟨q1,q2,q3,q4⟩:=hr i hi0 hi3
    by_cases ei:i=e
    · subst ei;have e3:(Kx.setRights es i xs)[i]={ Kx.envAt es i with rights:=xs }:=by simp [Kx.setRights]
      rw [e3,List.getElem_set_self];rw [getElem_envAt hi3] at q1;exact ⟨q1,(hn.keptT hg hcs (by decide)).mono hbh,hub,sep_up hn ho.2⟩
    · have e3:(Kx.setRights es e xs)[i]=es[i]:=by simp [Kx.setRights,List.getElem_set_ne (Ne.symm ei)]
      rw [e3,List.getElem_set_ne (Ne.symm ei)];exact ⟨q1,q2.keptT hg hcs (by decide),q3.mono hhi,q4⟩
  · have hi0:i<ss.length:=by simpa using hi1
    have hj0:j<ss.length:=by simpa using hj1
    by_cases ei:i=e
    · subst ei;rw [List.getElem_set_self,List.getElem_set_ne (by omega)];exact sep_dn hn (hr j hj0 (by omega)).2.2.1
    · by_cases ej:j=e
      · subst ej;rw [List.getElem_set_self,List.getElem_set_ne (by omega)];exact sep_up hn (hr i hi0 (by omega)).2.2.1
      · rw [List.getElem_set_ne (by omega),List.getElem_set_ne (by omega)];exact hs i j hi0 hj0 hij
theorem KO.setRoot {w:World} {base:Nat} {um ui ue uc:Value} {k:Kx.Kernel} (h:KO w base um ui ue uc k) {e:Nat} (he:e<k.envs.length) :
    ∃ b cap,ue=.slice (some ⟨b,0,none⟩) k.envs.length cap∧base≤b∧b<w.heap.size∧(∃ cs,w.heap[b]?=some (.cells cs 40 (0,0)))∧(∃ z,w.cell? ⟨b,e*2+1,none⟩=some z)∧w.frozen? ⟨b,e*2+1,none⟩=false ∧
      ∀ x,KO (w.setCell ⟨b,e*2+1,none⟩ (.int .i64 x)) base um ui ue uc { k with envs:=Kx.setRoot k.envs e x }:=by
  obtain ⟨b,cap,h1,h2,h2b,⟨cs,h3⟩,h4,h5,h6⟩:=h.e.setRoot he;refine ⟨b,cap,h1,h2,h2b,⟨cs,h3⟩,h4,h5,fun x=>?_⟩
  have hg:=grown_set1 w b (e*2+1) (.int .i64 x);have hs:(w.setCell ⟨b,e*2+1,none⟩ (.int .i64 x)).heap.size=w.heap.size:=by simp [World.setCell]
  refine ⟨?_,h.i.keptT hg h3 (by decide),?_,h.c.keptT hg h3 (by decide)⟩
  · rw [hs];exact h.m.keptT hg h3 (by decide) (by decide)
  · rw [hs];exact h6 x
theorem KO.setRights {w:World} {base hi:Nat} {um ui ue uc:Value} {k:Kx.Kernel} (h:KO w base um ui ue uc k) (hE:OE w base hi ue k.envs) (hbh:base≤hi) (hhi:hi≤w.heap.size) {e:Nat} (he:e<k.envs.length) (s:Slc) (xs:List Kx.Str) (hn:OS strC 1 9 w hi (slcV s) xs) :
    ∃ b cap,ue=.slice (some ⟨b,0,none⟩) k.envs.length cap∧base≤b∧b<w.heap.size∧(∃ cs,w.heap[b]?=some (.cells cs 40 (0,0)))∧(∃ z,w.cell? ⟨b,e*2,none⟩=some z)∧w.frozen? ⟨b,e*2,none⟩=false ∧
      KO (w.setCell ⟨b,e*2,none⟩ (slcV s)) base um ui ue uc { k with envs:=Kx.setRights k.envs e xs }:=by
  obtain ⟨b,cap,h1,h2,h2b,⟨cs,h3⟩,h4,h5,h6⟩:=hE.setRights hbh hhi he s xs hn;have hg:=grown_set1 w b (e*2) (slcV s);have hs:(w.setCell ⟨b,e*2,none⟩ (slcV s)).heap.size=w.heap.size:=by simp [World.setCell]
  refine ⟨b,cap,h1,h2,h2b,⟨cs,h3⟩,h4,h5,?_,h.i.keptT hg h3 (by decide),?_,h.c.keptT hg h3 (by decide)⟩
  · rw [hs];exact h.m.keptT hg h3 (by decide) (by decide)
  · rw [hs];exact h6
set_option maxHeartbeats 2000000 in
theorem l11Drop_c (c:List Kx.Str) (s:Kx.Str) (v:Value) (w:World) (h:RStr w v c):Calls Tryz.prog 205 #[v,.string s] w (MadeS strC 1 9 w (Kx.rdrop c s)):=by
  obtain ⟨a,cap,rfl,_,_⟩:=RS.val h;have hl:=h.1;have H:=hI_ (show RStr w _ c from h);clear h;go_enter Tryz.func205,Tryz.ntmps205;go_wp2_with fail;go_loopw [5,6] (fun out i wr=>∃ k:Nat,i=.int .i64 k∧k≤c.length∧Hid (OS strC 1 9 wr w.heap.size out (Kx.rdrop (c.take k) s))∧Hid (Below w.heap.size w wr)) (fun _ i _=>c.length - (intOf i).toNat)
  case atStart=>exact ⟨0,rfl,Nat.zero_le _,OS.lit0 nR_,bR_.alloc nR_ _⟩
  case round =>
    obtain ⟨k,rfl,hk,ho,hb⟩:=hrel
    by_cases hlt:k<c.length
    · have hlI:(k:Int)<(c.length:Int):=by omega
      obtain ⟨b,off,cap',ev,hbl,g0⟩:=RStr.at (RS.below H.out hb.out) (k:=k) hlt;simp only [Value.slice.injEq] at ev;obtain ⟨rfl,_,rfl⟩:=ev;have htk:c.take (k+1)=c.take k ++ [c[k]]:=by rw [List.take_succ_eq_append_getElem hlt]
      generalize c[k]=x at g0 htk;have Ht:=hI_ (show Kx.rdrop (c.take (k+1)) s=Kx.rdrop (c.take k) s ++ Kx.rdrop [x] s by rw [htk];simp [Kx.rdrop]);have Hlen:=hI_ (show (Kx.rdrop (c.take k) s).length≤k from Nat.le_trans (List.length_filter_le _ _) (List.length_take_le _ _));clear htk hbl
      cases hx:Kx.pre s x with
      | true =>
        have Hx:=hI_ (show Kx.rdrop [x] s=[] by simp [Kx.rdrop,hx]);have Hp:=hI_ hx;clear hx;go_wp2_with fail;refine (l11Covers_c s x _).mono ?_;rintro e w2 ⟨rfl,rfl⟩;rw [Hp.out];go_wp2_with fail;go_roundw
        case rel=>exact ⟨k+1,by go_num,by omega,by show OS _ _ _ _ _ _ _;rw [Ht.out,Hx.out,List.append_nil];exact ho.out,hb.out⟩
        case measure=>simp [intOf];omega
      | false =>
        have Hx:=hI_ (show Kx.rdrop [x] s=[x] by simp [Kx.rdrop,hx]);have Hp:=hI_ hx;clear hx;have hsz:=hI_ hb.out.size;have hxl:=hI_ (show (Kx.rdrop (c.take k) s).length+1≤1099511627776 by have:=Hlen.out;omega);go_wp2_with fail;refine (l11Covers_c s x _).mono ?_;rintro e w2 ⟨rfl,rfl⟩;rw [Hp.out];go_wp2_with (at_builtin;refine wpList_appS tiStr rfl _ _ rfl w.heap.size _ (Kx.rdrop (c.take k) s) rfl (ho.out.alloc _) _ [x] rfl (RS.one x #[.string x] rfl _ _) hxl.out (by simp;exact Nat.le_succ_of_le hsz.out) ?_;intro v' w3 ho3 hg3 _;have Ho3:=hI_ ho3;have Hg3:=hI_ hg3;clear ho3 hg3);go_roundw
        case rel =>
          refine ⟨k+1,by go_num,by omega,?_,?_⟩
          · show OS _ _ _ _ _ _ _;rw [Ht.out,Hx.out];exact Ho3.out
          · exact Below.appS (hb.out.alloc hb.out.size _) (ho.out.alloc _) Hg3.out nR_ (by simp;exact Nat.le_succ_of_le hsz.out)
        case measure=>simp [intOf];omega
    · have hkn:k=c.length:=by omega
      subst hkn;go_wp2_with fail;go_ret;exact ⟨_,rfl,by have:=ho.out;rw [List.take_length] at this;exact this,hb.out⟩
/-- the environments below j that can reach a table -/
def usersTo (k:Kx.Kernel) (t:Int) (j:Nat):List Nat:=(List.range j).filter fun i=>Kx.usesTable k.mem (Kx.envAt k.envs i) t
theorem usersTo_succ (k:Kx.Kernel) (t:Int) (j:Nat) (b:Bool) (hb:Kx.usesTable k.mem (Kx.envAt k.envs j) t=b):usersTo k t (j+1)=usersTo k t j ++ if b then [j] else []:=by
  subst hb;exact filter_lt_succ _ j
theorem usersTo_len (k:Kx.Kernel) (t:Int) (j:Nat):(usersTo k t j).length≤j:=Nat.le_trans (List.length_filter_le _ _) (by simp)
set_option maxHeartbeats 4000000 in
theorem l22Users_c (k:Kx.Kernel) (t:Nat) (vm vi ve vc:Value) (w:World) (h:RK w vm vi ve vc k) (hmo:Kx.memOk k.mem=true) (hro:∀ e,e<3→(Kx.envAt k.envs e).root≤11) (h3:k.envs.length=3) :
    Calls Tryz.prog 203 #[.agg #[vm,vi,ve,vc],.int .i64 t] w (MadeI w (ofN (Kx.users k t))):=by
  obtain ⟨_,am,cm,rfl,_,_⟩:=h.m.len;obtain ⟨_,ae,ce,rfl,_,_⟩:=h.e.len;obtain ⟨w0,hw0⟩:∃ w0,w.alloc (.cells #[.slice am k.mem.length cm,vi,.slice ae k.envs.length ce,vc] 28)=w0:=⟨_,rfl⟩;have B0:=hI_ (show Below w.heap.size w w0 from hw0 ▸ bL_);have X0:=hI_ (show BX w0 w.heap.size 28 [.slice am k.mem.length cm,vi,.slice ae k.envs.length ce,vc] from hw0 ▸ BX.new w _ _);have HM:=hI_ (h.m.below B0.out);have HE:=hI_ (h.e.below B0.out);have Hmo:=hI_ hmo;have Hro:=hI_ hro;have H3:=hI_ h3;have HF:=hI_ (show Kx.users k t=usersTo k t k.envs.length from rfl);have hel:k.envs.length≤3:=by omega
  clear h hmo hro h3;go_enter Tryz.func203,Tryz.ntmps203;go_wp2_with fail;go_loopw [5,6,7] (fun out i _ wr=>∃ j:Nat,i=.int .i64 j∧j≤k.envs.length∧Hid (OI wr w0.heap.size out (ofN (usersTo k t j)))∧Hid (Below w0.heap.size w0 wr)) (fun _ i _ _=>k.envs.length - (intOf i).toNat)
  case atStart=>exact ⟨0,rfl,Nat.zero_le _,OI.lit0 nR_,bR_.alloc nR_ _⟩
  case round =>
    obtain ⟨j,rfl,hj,ho,hb⟩:=hrel;have X:=X0.out.below hb.out;have p0:=X.cell 0;have p2:=X.cell 2;simp only [List.getElem?_cons_zero,List.getElem?_cons_succ] at p0 p2;clear X
    by_cases hlt:j<k.envs.length
    · have hlI:(j:Int)<(k.envs.length:Int):=by omega
      obtain ⟨b,off,cap',u,ev,hbl,_,g1,_⟩:=(HE.out.below hb.out).at hlt;simp only [Value.slice.injEq] at ev;obtain ⟨rfl,_,rfl⟩:=ev;have hr11:=Hro.out j (by omega);have Hsucc:=hI_ (usersTo_succ k t j);have Hlen:=hI_ (usersTo_len k t j);have HU:=hI_ (show Kx.usesTable k.mem (Kx.envAt k.envs j) t=((Kx.envAt k.envs j).root==(t:Int)||(!decide ((Kx.envAt k.envs j).root<0)&&(Kx.tables k.mem (Kx.envAt k.envs j).root.toNat).contains t)) from rfl);have hsz:=hI_ hb.out.size;generalize Kx.usesTable k.mem (Kx.envAt k.envs j) t=us at Hsucc HU;generalize (Kx.envAt k.envs j).root=r at g1 hr11 HU;have hxl:=hI_ (show (ofN (usersTo k t j)).length+1≤1099511627776 by rw [ofN_length];have:=Hlen.out;omega)
      by_cases hrt:r=t
      · have Hs:=hI_ (show usersTo k t (j+1)=usersTo k t j ++ [j] by rw [Hsucc.out us rfl,HU.out,hrt];simp);subst hrt;clear Hsucc HU hr11;go_wp2_with (at_builtin;refine wpList_app rfl _ _ rfl w0.heap.size _ (ofN (usersTo k t j)) rfl (ho.out.alloc _) _ 1 1 [(j:Int)] rfl rfl (cell_one_new _ _ _) hxl.out (by simp;exact Nat.le_succ_of_le hsz.out) ?_;intro v' w3 ho3 hg3;have Ho3:=hI_ ho3;have Hg3:=hI_ hg3;clear ho3 hg3);go_roundw
        case rel =>
          refine ⟨j+1,by go_num,by omega,?_,?_⟩
          · show OI _ _ _ _;rw [Hs.out,ofN_append];exact Ho3.out
          · exact Below.app (hb.out.alloc hb.out.size _) (ho.out.alloc _) Hg3.out nR_ (by simp;exact Nat.le_succ_of_le hsz.out)
        case measure=>simp [intOf];omega
      · have hrtb:(r==(t:Int))=false:=by simpa using hrt
        by_cases hr0:r<0
        · have Hs:=hI_ (show usersTo k t (j+1)=usersTo k t j by rw [Hsucc.out us rfl,HU.out,hrtb,decide_eq_true hr0];simp);clear Hsucc HU hrt;go_wp2_with fail;go_roundw
          case rel=>exact ⟨j+1,by go_num,by omega,by show OI _ _ _ _;rw [Hs.out];exact ho.out,hb.out⟩
          case measure=>simp [intOf];omega
        · obtain ⟨q,rfl⟩:=Int.eq_ofNat_of_zero_le (show 0≤r by omega);have HT:=hI_ (l3Tables_c k.mem q _ wr (HM.out.below hb.out) Hmo.out (by omega));have HU2:=hI_ (show us=(Kx.tables k.mem q).contains t by rw [HU.out,hrtb,decide_eq_false hr0];simp);clear hrt;go_wp2_with fail;refine HT.out.mono ?_;rintro e w2 ⟨u2,rfl,ho2,hb2⟩;obtain ⟨a2,c2,rfl⟩:=ho2.ri.val;have HH:=hI_ (l3Has_c _ (t:Int) _ w2 ho2.ri);have Ho:=hI_ (ho.out.below hb2);have Hb:=hI_ (hb.out.trans (hb2.mono hb.out.size));clear ho hb ho2 hb2 HT;go_wp2_with fail;refine HH.out.mono ?_;rintro e w3 ⟨rfl,rfl⟩;rw [hasI_ofN,←HU2.out];clear HH HU HU2 p0 p2 g1;have hsz:=hI_ Hb.out.size
          cases us with
          | false =>
            have Hs:=hI_ (show usersTo k t (j+1)=usersTo k t j by rw [Hsucc.out false rfl];simp);go_wp2_with fail;go_roundw
            case rel=>exact ⟨j+1,by go_num,by omega,by show OI _ _ _ _;rw [Hs.out];exact Ho.out,Hb.out⟩
            case measure=>simp [intOf];omega
          | true =>
            have Hs:=hI_ (show usersTo k t (j+1)=usersTo k t j ++ [j] by rw [Hsucc.out true rfl];simp);go_wp2_with (at_builtin;refine wpList_app rfl _ _ rfl w0.heap.size _ (ofN (usersTo k t j)) rfl (Ho.out.alloc _) _ 1 1 [(j:Int)] rfl rfl (cell_one_new _ _ _) hxl.out (by simp;exact Nat.le_succ_of_le hsz.out) ?_;intro v' w4 ho4 hg4;have Ho4:=hI_ ho4;have Hg4:=hI_ hg4;clear ho4 hg4);go_roundw
            case rel =>
              refine ⟨j+1,by go_num,by omega,?_,?_⟩
              · show OI _ _ _ _;rw [Hs.out,ofN_append];exact Ho4.out
              · exact Below.app (Hb.out.alloc Hb.out.size _) (Ho.out.alloc _) Hg4.out nR_ (by simp;exact Nat.le_succ_of_le hsz.out)
            case measure=>simp [intOf];omega
    · have hjn:j=k.envs.length:=by omega
      go_wp2_with fail;go_ret;exact ⟨_,rfl,by rw [HF.out,←hjn];exact ho.out.mono B0.out.size,B0.out.trans (hb.out.mono B0.out.size)⟩
set_option maxHeartbeats 4000000 in
theorem l22Behind_c (k:Kx.Kernel) (x:Int) (vm vi ve vc:Value) (w:World) (h:RK w vm vi ve vc k) (hmo:Kx.memOk k.mem=true) (h12:k.infos.length=12) :
    Calls Tryz.prog 202 #[.agg #[vm,vi,ve,vc],.int .i64 x] w (MadeI w (ofN (Kx.behind k x))):=by
  obtain ⟨w0,hw0⟩:∃ w0,w.alloc (.cells #[vm,vi,ve,vc] 28)=w0:=⟨_,rfl⟩;have B0:=hI_ (show Below w.heap.size w w0 from hw0 ▸ bL_)
  cases hen:Kx.entry x with
  | none =>
    have HF:=hI_ (show Kx.behind k x=[] by unfold Kx.behind;rw [hen]);have He:=hI_ hen;clear hen h;go_enter Tryz.func202,Tryz.ntmps202;go_wp2_with fail;refine (specEntryGet_c _ _).mono ?_;rintro e w' ⟨rfl,rfl⟩;rw [EgN He.out];go_wp2_with fail;go_ret;exact ⟨_,rfl,by rw [HF.out];exact OI.lit0 B0.out.size,Below.alloc B0.out B0.out.size _⟩
  | some pr =>
    obtain ⟨f,bw⟩:=pr;have hf:=entry_lt hen;have HF:=hI_ (show Kx.behind k x=if (Kx.inf k.infos f).kind≠2 then [f] else f :: Kx.namedW (Kx.row k.mem f) by unfold Kx.behind;rw [hen]);have He:=hI_ hen;clear hen;have X0:=hI_ (show BX w0 w.heap.size 28 [vm,vi,ve,vc] from hw0 ▸ BX.new w _ _);have HI:=hI_ (RS.below h.i B0.out);obtain ⟨bi,oi,ci,rfl,hbil,g0,_,_⟩:=RInfo.at HI.out (k:=f) (by omega);obtain ⟨bm,om,cm,um,rfl,hcm,hru⟩:=(h.m.below B0.out).row hmo hf;obtain ⟨hm12,hr4,_⟩:=mem_row hmo hf;have hfI:(f:Int)<(k.infos.length:Int):=by omega
    have hfI2:(f:Int)<12:=by omega
    obtain ⟨p0,p1,_,_⟩:=X0.out.c4;clear h h12 hm12
    by_cases hk2:(Kx.inf k.infos f).kind=2
    · have HF:=hI_ (show Kx.behind k x=f :: Kx.namedW (Kx.row k.mem f) by rw [HF.out,if_neg (by rw [hk2];simp)]);rw [hk2] at g0;have HL:=hI_ (show [(f:Int)].length+(ofN (Kx.namedW (Kx.row k.mem f))).length≤1099511627776 by
        rw [ofN_length];have:(Kx.namedW (Kx.row k.mem f)).length≤4:=by rw [←hr4];unfold Kx.namedW;exact List.length_filterMap_le _ _
        simp;omega)
      have hbm:=hI_ (World.block_lt_of_cell? w0 _ hcm);have Hru:=hI_ hru;obtain ⟨ar,cr,rfl⟩:=hru.val;clear hk2 hru hr4;generalize Kx.row k.mem f=row at *;go_enter Tryz.func202,Tryz.ntmps202;go_wp2_with fail;refine (specEntryGet_c _ _).mono ?_;rintro e w' ⟨rfl,rfl⟩;rw [EgS He.out];obtain ⟨w1,hw1⟩:∃ w1,w0.alloc (.cells #[.int .i64 (f:Int)] 3)=w1:=⟨_,rfl⟩;have B1:Below w0.heap.size w0 w1:=hw1 ▸ bL_;have H1:=hI_ (show OS intC 1 3 w1 w0.heap.size (.slice (some ⟨w0.heap.size,0,none⟩) 1 1) [(f:Int)] from hw1 ▸ OS.lit (l:=[(f:Int)]) nR_ _ rfl rfl (by simp));have p0:=((X0.out.below B1).cell 0);have p1:=((X0.out.below B1).cell 1);simp only [List.getElem?_cons_zero,List.getElem?_cons_succ] at p0 p1;have hcm:=(B1.cell hbm.out).trans hcm;have g0:=(B1.cell (p:=⟨bi,oi+f*3,none⟩) hbil).trans g0;have HN:=hI_ (l3Named_c row _ w1 (Hru.out.below B1));have B2:=hI_ (B0.out.trans (B1.mono B0.out.size));clear B1
      go_wp2_with fail;refine HN.out.mono ?_;rintro e w2 ⟨u2,rfl,ho2,hb2⟩;have Ho2:=hI_ ho2;have H2:=hI_ (H1.out.below hb2);have B3:=hI_ (B2.out.trans (hb2.mono B2.out.size));have hz2:=hI_ (Nat.le_trans (show w0.heap.size≤w1.heap.size by rw [←hw1];simp) hb2.size);clear ho2 hb2 hw1;have hz0:=hI_ B0.out.size;go_wp2_with (at_builtin;refine wpList_appS tiInt rfl _ _ rfl w0.heap.size _ [(f:Int)] rfl H2.out _ (ofN (Kx.namedW row)) rfl Ho2.out.os.rs HL.out hz2.out ?_;intro v' w3 ho3 hg3 hn3;have Ho3:=hI_ ho3;have Hb3:=hI_ (Below.appS B3.out H2.out hg3 hz0.out B3.out.size);clear ho3 hg3 hn3);go_ret;exact ⟨_,rfl,by rw [HF.out];exact (OS.mono Ho3.out hz0.out).oi,Hb3.out⟩
    · have HF:=hI_ (show Kx.behind k x=[f] by rw [HF.out,if_pos hk2]);have hkb:((Kx.inf k.infos f).kind != 2)=true:=by simpa using hk2
      generalize (Kx.inf k.infos f).kind=kd at g0 hkb;clear hk2;go_enter Tryz.func202,Tryz.ntmps202;go_wp2_with fail;refine (specEntryGet_c _ _).mono ?_;rintro e w' ⟨rfl,rfl⟩;rw [EgS He.out];go_wp2_with fail;go_ret;exact ⟨_,rfl,by rw [HF.out];exact (OS.lit (l:=[(f:Int)]) (f:=intC) (sz:=1) (e:=3) B0.out.size _ rfl rfl (by simp)).oi,Below.alloc B0.out B0.out.size _⟩
end Go.Proofs.YtenebmeaoidnoaaGreatDoor
