/- KC16, KC17, joined. -/
import Derived.Test.YtliebkfligagnaaGreatDoorKC14
set_option maxHeartbeats 4000000
set_option maxRecDepth 100000
set_option linter.all false
namespace Go.Proofs.YtliebkfligagnaaGreatDoor
open Go.RowKit
theorem IC (w:World) (n:Nat):Below w.heap.size w (w.drewN n):=let h:=Below.refl w.heap.size w;⟨h.os,h.tape,h.output,h.size,h.block⟩
theorem RS.far {α:Type} {f:α→List Value} {sz:Nat} {w w':World} {v:Value} {l:List α} {r:Option Nat} (h:RS f sz w v l) (hg:w.grownBy w' r) (hv:∀ a n c,v=.slice (some a) n c→some a.block≠r):RS f sz w' v l:=by
 obtain ⟨h1,h2⟩:=h;refine ⟨h1,?_⟩;rcases h2 with h2 | ⟨b,off,cap,rfl,h3,h4,hb,hc⟩
 ·exact .inl h2
 refine .inr ⟨b,off,cap,rfl,h3,h4,Nat.lt_of_lt_of_le hb hg.size,fun k hk j u hu=>?_⟩
 have hne:=hv _ _ _ rfl;exact (hg.cell_far ⟨b,off+k*sz+j,none⟩ hb (by simpa using hne)).trans (hc k hk j u hu)
theorem RS.drop {α:Type} {f:α→List Value} {sz:Nat} {w:World} {b off n cap:Nat} {l:List α} (h:RS f sz w (.slice (some ⟨b,off,none⟩) n cap) l) (k:Nat) (hk:k<n):RS f sz w (.slice (some ⟨b,off+k*sz,none⟩) (n - k) (cap - k)) (l.drop k):=by
 obtain ⟨h1,h2⟩:=h;refine ⟨by simp;omega,?_⟩;rcases h2 with ⟨rfl,a,cap',e,_⟩ | ⟨b',off',cap',e,h3,h4,hb,hc⟩
 ·simp only [Value.slice.injEq] at e;omega
 simp only [Value.slice.injEq,Option.some.injEq,Addr.mk.injEq] at e;obtain ⟨⟨rfl,rfl,_⟩,rfl,rfl⟩:=e;refine .inr ⟨b,off+k*sz,cap - k,by simp,by simp;omega,by omega,hb,fun i hi j u hu=>?_⟩
 have hi':k+i<l.length:=by simp at hi;omega
 have:=hc (k+i) hi' j u (by simpa using hu)
 rw [show off+k*sz+i*sz+j=off+(k+i)*sz+j by rw [Nat.add_mul];omega];exact this
theorem La {α:Type} {f:α→List Value} {sz:Nat} [IV f sz] {e:TypeId} (w2:World) (x:α) (pc:Array Value) (hpc:pc.toList=f x) {l:List α} {u:Value} (h:RS f sz w2 u l) :
  (Hid (OS f sz e (w2.alloc (.cells #[] e)).drew w2.heap.size (.slice (some ⟨w2.heap.size,0,none⟩) 0 0) [])∧Hid (RS f sz (w2.alloc (.cells #[] e)).drew u l)∧Hid (Below w2.heap.size w2 (w2.alloc (.cells #[] e)).drew)) ∧
  (Hid (OS f sz e ((w2.alloc (.cells #[] e)).alloc (.cells pc e)).drew w2.heap.size (.slice (some ⟨w2.heap.size,0,none⟩) 0 0) [])∧Hid (RS f sz ((w2.alloc (.cells #[] e)).alloc (.cells pc e)).drew u l)∧Hid (Below w2.heap.size w2 ((w2.alloc (.cells #[] e)).alloc (.cells pc e)).drew)) ∧
  (Hid (OS f sz e ((w2.alloc (.cells pc e)).alloc (.cells #[] e)).drew w2.heap.size (.slice (some ⟨w2.heap.size+1,0,none⟩) 0 0) [])∧Hid (RS f sz ((w2.alloc (.cells pc e)).alloc (.cells #[] e)).drew u l)∧Hid (Below w2.heap.size w2 ((w2.alloc (.cells pc e)).alloc (.cells #[] e)).drew)) ∧
  Hid (∀ w1,((w2.alloc (.cells #[] e)).alloc (.cells pc e)).drew.grownBy w1 (some w2.heap.size)→RS f sz w1 (.slice (some ⟨w2.heap.size+1,0,none⟩) 1 1) [x]) ∧
  Hid (∀ w1,((w2.alloc (.cells pc e)).alloc (.cells #[] e)).drew.grownBy w1 (some (w2.heap.size+1))→RS f sz w1 (.slice (some ⟨w2.heap.size,0,none⟩) 1 1) [x]):=by
 have b1:Below w2.heap.size w2 (w2.alloc (.cells #[] e)):=dm;have b2:Below w2.heap.size w2 ((w2.alloc (.cells #[] e)).alloc (.cells pc e)):=Below.lit b1 _;have Zf:Below w2.heap.size w2 (w2.alloc (.cells pc e)):=dm;have b3:Below w2.heap.size w2 ((w2.alloc (.cells pc e)).alloc (.cells #[] e)):=Below.lit Zf _;have l3:=(OS.d_ (f:=f) (sz:=sz) (e:=e) (w:=w2.alloc (.cells pc e)) (base:=w2.heap.size) Zf.size);have p2:=RS.one (f:=f) (sz:=sz) x pc hpc (w2.alloc (.cells #[] e)) e;have hs1:(w2.alloc (.cells pc e)).heap.size=w2.heap.size+1:=by simp
 have hs2:(w2.alloc (.cells #[] e)).heap.size=w2.heap.size+1:=by simp
 rw [hs1] at l3;rw [hs2] at p2;refine ⟨⟨(OS.d_ aW).drewN 1,RS.drewN (RS.below h b1) 1,Below.bz b1⟩,⟨((OS.d_ aW).alloc _).drewN 1,RS.drewN (RS.below h b2) 1,Below.bz b2⟩,⟨l3.drewN 1,RS.drewN (RS.below h b3) 1,Below.bz b3⟩,fun w1 hg=>?_,fun w1 hg=>?_⟩
 ·exact RS.far (RS.drewN p2 1) hg (fun a n c e=>by simp only [Value.slice.injEq,Option.some.injEq] at e;obtain ⟨rfl,_⟩:=e;simp)
 exact RS.far (RS.drewN (RS.below (RS.one (f:=f) (sz:=sz) x pc hpc w2 e) (dm)) 1) hg (fun a n c e=>by simp only [Value.slice.injEq,Option.some.injEq] at e;obtain ⟨rfl,_⟩:=e;simp)
theorem wu:∀ (l:List Kx.Str) (s:Kx.Str) (j:Nat),j≤l.length→(∀ i (hi:i<l.length),i<j→Kx.lt l[i] s=true)→(∀ (h:j<l.length),Kx.lt l[j] s=false)→Kx.gz l s=j
 | [],_,j,hj,_,_=>by simp at hj;subst hj;rfl
 | a :: l,s,0,_,_,hs=>by
  have:Kx.lt a s=false:=hs (by simp)
  simp [Kx.gz,List.takeWhile,this]
 | a :: l,s,j+1,hj,hall,hs=>by
  have h0:Kx.lt a s=true:=hall 0 (by simp) (by omega);have ih:=wu l s j (by simpa using hj) (fun i hi hij=>by have:=hall (i+1) (by simpa using hi) (by omega);simpa using this) (fun h=>by have:=hs (by simpa using h);simpa using this)
  unfold Kx.gz at ih ⊢;simp [List.takeWhile,h0,ih]
theorem qc (l:List Kx.Str) (s:Kx.Str) (v:Value) (w:World) (h:dK w v l) (hsl:Dw l) (hss:s.size≤9223372036854775807) :
  Calls Tryz.prog 182 #[v,.string s] w (yH df 1 9 w (if Kx.aS l&&Kx.bT s then (Kx.jS l s).1 else []) [.bool (Kx.aS l&&Kx.bT s&&(Kx.jS l s).2)]):=by
 obtain ⟨a,cap,rfl,hcap,_⟩:=RS.val h;have H:=af h;have Ns:=af (di l _ w h hsl);have XH:=af (fun W=>bY s W hss);clear h hsl hss
 cases hro:Kx.aS l with
 | false =>
  have mW:=af hro;clear hro;go_enter Tryz.func182,Tryz.ntmps182;go_wp2_with fail;refine Ns.out.mono ?_;rintro e w1 ⟨rfl,n,rfl⟩;rw [mW.out];go_wp2_with fail;go_ret2;have hb:=IC w n;exact ⟨_,rfl,OS.d_ aW,Below.lit hb _⟩
 | true =>
  have mW:=af hro;have Zg:l.length≤6:=by unfold Kx.aS at hro;simp only [Bool.and_eq_true,decide_eq_true_eq] at hro;exact hro.2
  clear hro
  cases hso:Kx.bT s with
  | false =>
   have Q7:=af hso;clear hso;go_enter Tryz.func182,Tryz.ntmps182;go_wp2_with fail;refine Ns.out.mono ?_;rintro e w1 ⟨rfl,n,rfl⟩;rw [mW.out];go_wp2_with fail;refine (XH.out _).mono ?_;rintro e w1 ⟨rfl,rfl⟩;rw [Q7.out];go_wp2_with fail;go_ret2;exact ⟨_,rfl,OS.d_ aW,Below.lit (IC w n) _⟩
  | true =>
   have Q7:=af hso;clear hso;go_enter Tryz.func182,Tryz.ntmps182;go_wp2_with fail;refine Ns.out.mono ?_;rintro e w1 ⟨rfl,n,hw1⟩;rw [mW.out];have hb1:Below w.heap.size w w1:=hw1 ▸ IC w n;have B1:=af hb1;replace H:=af (RS.below H.out hb1);clear hb1 hw1 Ns;go_wp2_with fail;refine (XH.out _).mono ?_;rintro e w2 ⟨rfl,rfl⟩;rw [Q7.out];clear XH;go_wp2_with fail;go_loop [6] (fun i=>∃ j:Nat,i=.int .i64 j∧j≤l.length∧Hid (∀ i (hi:i<l.length),i<j→Kx.lt l[i] s=true)) (fun i=>l.length - (intOf i).toNat)
   case atStart=>exact ⟨0,rfl,Nat.zero_le _,fun j _ hj=>absurd hj (Nat.not_lt_zero _)⟩
   case round =>
    obtain ⟨j,rfl,hj,hall⟩:=hrel
    by_cases hlt:j<l.length
    ·have kQ:(j:Int)<(l.length:Int):=by omega
     obtain ⟨b,off,cap',ev,hbl,g0⟩:=dK.at H.out hlt;simp only [Value.slice.injEq] at ev;obtain ⟨rfl,_,rfl⟩:=ev
     cases hq:Kx.lt l[j] s with
     | true =>
      have Hn:=af (show ∀ i (hi:i<l.length),i<j+1→Kx.lt l[i] s=true from fun i hi hij=>by
       by_cases e:i=j
       ·subst e;exact hq
       exact hall.out i hi (by omega))
      unfold Kx.lt at hq;generalize l[j]=y at g0 hq;go_wp2_with fail;go_round
      case rel=>exact ⟨j+1,by go_num,by omega,Hn.out⟩
      case measure=>simp [intOf];omega
     | false =>
      have HP:=af (wu l s j hj hall.out (fun _=>hq));have Hj:=af (show l[Kx.gz l s]?=some l[j] by rw [HP.out];exact List.getElem?_eq_getElem hlt);unfold Kx.lt at hq;have Hx:=af (show Kx.jS l s=(if l[Kx.gz l s]?=some s then (l,true) else if 6≤l.length then (l,false) else (l.take (Kx.gz l s) ++ s :: l.drop (Kx.gz l s),true)) from rfl);generalize l[j]=y at g0 hq Hj
      by_cases hys:y=s
      ·have HF:=af (show Kx.jS l s=(l,true) by rw [Hx.out,if_pos (by rw [Hj.out,hys])]);subst hys;have O1:=af (show OS df 1 9 (w1.alloc (.cells #[] 9)) w1.heap.size (.slice (some ⟨w1.heap.size,0,none⟩) 0 0) [] from OS.d_ aW);have H2:=af (RS.below H.out (Below.lit (Below.refl w1.heap.size w1) (.cells #[] 9)));have hx:=af (show ([]:List Kx.Str).length+l.length≤1099511627776 by simp;omega);clear Hx Hj hall HP;go_wp2_with (at_builtin;refine aV gX rfl _ _ rfl w1.heap.size _ [] rfl O1.out _ l rfl H2.out hx.out (by simp) ?_;intro v' w4 iV hg4 hx4;clear hx4;have kH:=af (show OS df 1 9 w4 w1.heap.size v' l from iV);have B4:=af (Below.dN (Below.lit B1.out (.cells #[] 9)) O1.out hg4 B1.out.size (by simp;exact Nat.le_succ_of_le B1.out.size));clear iV hg4);go_wp2_with fail;go_ret2;rw [HF.out];exact ⟨_,rfl,kH.out.mono B1.out.size,B4.out⟩
      have Zi:ByteArray.toList y≠ByteArray.toList s:=fun e=>hys (Kx.toList_inj e)
      have hyd:decide (ByteArray.toList y=ByteArray.toList s)=false:=by simpa using Zi
      have hye:(ByteArray.toList y==ByteArray.toList s)=false:=by simpa using Zi
      have xQ:=af (show ¬ l[Kx.gz l s]?=some s by rw [Hj.out];simpa using hys);clear Hj
      by_cases h6:6≤l.length
      ·have HF:=af (show Kx.jS l s=(l,false) by rw [Hx.out,if_neg xQ.out,if_pos (by omega)]);have O1:=af (show OS df 1 9 (w1.alloc (.cells #[] 9)) w1.heap.size (.slice (some ⟨w1.heap.size,0,none⟩) 0 0) [] from OS.d_ aW);have H2:=af (RS.below H.out (Below.lit (Below.refl w1.heap.size w1) (.cells #[] 9)));have hx:=af (show ([]:List Kx.Str).length+l.length≤1099511627776 by simp;omega);clear Hx xQ;go_wp2_with (at_builtin;refine aV gX rfl _ _ rfl w1.heap.size _ [] rfl O1.out _ l rfl H2.out hx.out (by simp) ?_;intro v' w4 iV hg4 hx4;clear hx4;have kH:=af (show OS df 1 9 w4 w1.heap.size v' l from iV);have B4:=af (Below.dN (Below.lit B1.out (.cells #[] 9)) O1.out hg4 B1.out.size (by simp;exact Nat.le_succ_of_le B1.out.size));clear iV hg4);go_wp2_with fail;go_ret2;rw [HF.out];exact ⟨_,rfl,kH.out.mono B1.out.size,B4.out⟩
      have HF:=af (show Kx.jS l s=(l.take j ++ s :: l.drop j,true) by rw [Hx.out,if_neg xQ.out,if_neg h6,HP.out]);have Hw1:=af (RS.take H.out j hj);obtain ⟨A,hA,Ui⟩:∃ A:Option Addr,(if cap=j then some (⟨b,off,none⟩:Addr) else some ⟨b,off+j,none⟩)=A∧Hid (RS df 1 w1 (.slice A (l.length - j) (cap - j)) (l.drop j)):=⟨_,if_neg (by omega),af (by have:=RS.drop H.out j hlt;rw [Nat.mul_one] at this;exact this)⟩;have Uj:=af (fun (W:World) (hb:Below w1.heap.size w1 W)=>RS.below Ui.out hb)
      obtain ⟨⟨L1,R1,C1⟩,⟨L2,R2,C2⟩,⟨L3,R3,C3⟩,Q2,Q3⟩:=La (e:=9) w1 s #[.string s] rfl Hw1.out;have XI:l.length≤6:=Zg;have htk:(l.take j).length=j:=by rw [List.length_take];omega
      have hq1:=af (show ([]:List Kx.Str).length+(l.take j).length≤1099511627776 by rw [htk];simp;omega);have hq2:=af (show (l.take j).length+[s].length≤1099511627776 by rw [htk];simp;omega);have hq3:=af (show (l.take j ++ [s]).length+(l.drop j).length≤1099511627776 by rw [List.length_append,htk,List.length_drop];simp;omega);have Q5:(j:Int)≤(cap:Int):=by omega
      have hjL:(j:Int)≤(l.length:Int):=by omega
      have hj0:(0:Int)≤(j:Int):=by omega
      have hlc:(l.length:Int)≤(cap:Int):=by omega
      have h6b:decide ((l.length:Int)≥6)=false:=by simp;omega
      clear Hx xQ HP htk hall Ui;go_wp2_with fail;go_region_held3 (fun _=>True)
       (trivial)
       (first
        | (refine aU gX rfl _ _ rfl w1.heap.size _ [] rfl L1.out _ (l.take j) rfl R1.out hq1.out C1.out.size ?_;intro v1 w4 ho1 hg1 _;rw [List.nil_append] at ho1;have hB1:=Below.dN C1.out L1.out hg1 aW C1.out.size)
        | (refine aU gX rfl _ _ rfl w1.heap.size _ [] rfl L2.out _ (l.take j) rfl R2.out hq1.out C2.out.size ?_;intro v1 w4 ho1 hg1 _;rw [List.nil_append] at ho1;have hB1:=Below.dN C2.out L2.out hg1 aW C2.out.size;have hr1:=Q2.out w4 hg1)
        | (refine aU gX rfl _ _ rfl w1.heap.size _ [] rfl L3.out _ (l.take j) rfl R3.out hq1.out C3.out.size ?_;intro v1 w4 ho1 hg1 _;rw [List.nil_append] at ho1;have hB1:=Below.dN C3.out L3.out hg1 aW C3.out.size;have hr1:=Q3.out w4 hg1)
        | (refine aU gX rfl _ _ rfl w1.heap.size _ (l.take j) rfl ho1 _ [s] rfl hr1 hq2.out hB1.size ?_;intro v2 w5 ho2 hg2 _;have hB2:=Below.dN hB1 ho1 hg2 aW hB1.size;have hr2:=Uj.out w5 hB2)
        | (refine aU gX rfl _ _ rfl w1.heap.size _ (l.take j) rfl (ho1.alloc _) _ [s] rfl (RS.one s #[.string s] rfl w4 9) hq2.out (hB1.alloc hB1.size _).size ?_;intro v2 w5 ho2 hg2 _;have hB2:=Below.dN (hB1.alloc hB1.size _) (ho1.alloc _) hg2 aW (hB1.alloc hB1.size _).size;have hr2:=Uj.out w5 hB2)
        | (refine aU gX rfl _ _ rfl w1.heap.size _ (l.take j ++ [s]) rfl ho2 _ (l.drop j) rfl hr2 hq3.out hB2.size ?_;intro v3 w6 ho3 hg3 _;have hB3:=Below.dN hB2 ho2 hg3 aW hB2.size))
      all_goals (
       have jJ:=af ho3;have B:=af (B1.out.trans (hB3.mono B1.out.size));clear ho3 hg3 hB3 ho2 hg2 hB2 hr2 ho1 hg1 hB1
       try clear hr1
       go_wp2_with fail;go_ret2;rw [HF.out];exact ⟨_,rfl,by have:=jJ.out.mono B1.out.size;rw [List.append_assoc] at this;exact this,B.out⟩)
    have hjn:j=l.length:=by omega
    have HP:=af (wu l s j hj hall.out (fun h=>by omega));have xQ:=af (show ¬ l[Kx.gz l s]?=some s by rw [HP.out,hjn];simp);have Hx:=af (show Kx.jS l s=(if l[Kx.gz l s]?=some s then (l,true) else if 6≤l.length then (l,false) else (l.take (Kx.gz l s) ++ s :: l.drop (Kx.gz l s),true)) from rfl)
    by_cases h6:6≤l.length
    ·have HF:=af (show Kx.jS l s=(l,false) by rw [Hx.out,if_neg xQ.out,if_pos (by omega)]);have O1:=af (show OS df 1 9 (w1.alloc (.cells #[] 9)) w1.heap.size (.slice (some ⟨w1.heap.size,0,none⟩) 0 0) [] from OS.d_ aW);have H2:=af (RS.below H.out (Below.lit (Below.refl w1.heap.size w1) (.cells #[] 9)));have hx:=af (show ([]:List Kx.Str).length+l.length≤1099511627776 by simp;omega);clear Hx xQ;go_wp2_with (at_builtin;refine aV gX rfl _ _ rfl w1.heap.size _ [] rfl O1.out _ l rfl H2.out hx.out (by simp) ?_;intro v' w4 iV hg4 hx4;clear hx4;have kH:=af (show OS df 1 9 w4 w1.heap.size v' l from iV);have B4:=af (Below.dN (Below.lit B1.out (.cells #[] 9)) O1.out hg4 B1.out.size (by simp;exact Nat.le_succ_of_le B1.out.size));clear iV hg4);go_wp2_with fail;go_ret2;rw [HF.out];exact ⟨_,rfl,kH.out.mono B1.out.size,B4.out⟩
    ·
     rcases H.out.2 with ⟨hnil,a',cap',ev,hcm,hnone⟩ | ⟨b,off,cap',ev,_,hcm,_,_⟩
     ·simp only [Value.slice.injEq] at ev;obtain ⟨rfl,hl0,rfl⟩:=ev;subst hnil;simp only [List.length_nil] at hjn;subst hjn;have HF:=af (show Kx.jS [] s=([s],true) from rfl);clear Hx xQ HP hall h6;have hw0:RS df 1 w1 (.slice a 0 cap) ([]:List Kx.Str):=H.out;obtain ⟨⟨L1,R1,C1⟩,⟨L2,R2,C2⟩,⟨L3,R3,C3⟩,Q2,Q3⟩:=La (e:=9) w1 s #[.string s] rfl hw0;have hq1:=af (show ([]:List Kx.Str).length+([]:List Kx.Str).length≤1099511627776 by simp);have hq2:=af (show ([]:List Kx.Str).length+[s].length≤1099511627776 by simp);have hq3:=af (show [s].length+([]:List Kx.Str).length≤1099511627776 by simp);have HE:=af (show ∀ W A c,c≤maxLen→(A=none→c=0)→RS df 1 W (.slice A 0 c) [] from fun W A c h1 h2=>⟨by simp,.inl ⟨rfl,A,c,rfl,h1,h2⟩⟩)
      clear hw0
      cases a with
      | none =>
       have hc0:=hnone rfl;subst hc0;go_wp2_with fail;go_region_held3 (fun _=>True)
        (trivial)
        (first
         | (refine aU gX rfl _ _ rfl w1.heap.size _ [] rfl L1.out _ [] rfl R1.out hq1.out C1.out.size ?_;intro v1 w4 ho1 hg1 _;have hB1:=Below.dN C1.out L1.out hg1 aW C1.out.size)
         | (refine aU gX rfl _ _ rfl w1.heap.size _ [] rfl L2.out _ [] rfl R2.out hq1.out C2.out.size ?_;intro v1 w4 ho1 hg1 _;have hB1:=Below.dN C2.out L2.out hg1 aW C2.out.size;have hr1:=Q2.out w4 hg1)
         | (refine aU gX rfl _ _ rfl w1.heap.size _ [] rfl L3.out _ [] rfl R3.out hq1.out C3.out.size ?_;intro v1 w4 ho1 hg1 _;have hB1:=Below.dN C3.out L3.out hg1 aW C3.out.size;have hr1:=Q3.out w4 hg1)
         | (refine aU gX rfl _ _ rfl w1.heap.size _ [] rfl ho1 _ [s] rfl hr1 hq2.out hB1.size ?_;intro v2 w5 ho2 hg2 _;have hB2:=Below.dN hB1 ho1 hg2 aW hB1.size)
         | (refine aU gX rfl _ _ rfl w1.heap.size _ [] rfl (ho1.alloc _) _ [s] rfl (RS.one s #[.string s] rfl w4 9) hq2.out (hB1.alloc hB1.size _).size ?_;intro v2 w5 ho2 hg2 _;have hB2:=Below.dN (hB1.alloc hB1.size _) (ho1.alloc _) hg2 aW (hB1.alloc hB1.size _).size)
         | (refine aU gX rfl _ _ rfl w1.heap.size _ [s] rfl ho2 _ [] rfl (HE.out _ _ _ (Nat.zero_le _) (fun _=>rfl)) hq3.out hB2.size ?_;intro v3 w6 ho3 hg3 _;have hB3:=Below.dN hB2 ho2 hg3 aW hB2.size))
       all_goals (
        have jJ:=af ho3;have B:=af (B1.out.trans (hB3.mono B1.out.size));clear ho3 hg3 hB3 ho2 hg2 hB2 ho1 hg1 hB1
        try clear hr1
        go_wp2_with fail;go_ret2;rw [HF.out];exact ⟨_,rfl,jJ.out.mono B1.out.size,B.out⟩)
      | some ad =>
       go_wp2_with fail;go_region_held3 (fun _=>True)
        (trivial)
        (first
         | (refine aU gX rfl _ _ rfl w1.heap.size _ [] rfl L1.out _ [] rfl R1.out hq1.out C1.out.size ?_;intro v1 w4 ho1 hg1 _;have hB1:=Below.dN C1.out L1.out hg1 aW C1.out.size)
         | (refine aU gX rfl _ _ rfl w1.heap.size _ [] rfl L2.out _ [] rfl R2.out hq1.out C2.out.size ?_;intro v1 w4 ho1 hg1 _;have hB1:=Below.dN C2.out L2.out hg1 aW C2.out.size;have hr1:=Q2.out w4 hg1)
         | (refine aU gX rfl _ _ rfl w1.heap.size _ [] rfl L3.out _ [] rfl R3.out hq1.out C3.out.size ?_;intro v1 w4 ho1 hg1 _;have hB1:=Below.dN C3.out L3.out hg1 aW C3.out.size;have hr1:=Q3.out w4 hg1)
         | (refine aU gX rfl _ _ rfl w1.heap.size _ [] rfl ho1 _ [s] rfl hr1 hq2.out hB1.size ?_;intro v2 w5 ho2 hg2 _;have hB2:=Below.dN hB1 ho1 hg2 aW hB1.size)
         | (refine aU gX rfl _ _ rfl w1.heap.size _ [] rfl (ho1.alloc _) _ [s] rfl (RS.one s #[.string s] rfl w4 9) hq2.out (hB1.alloc hB1.size _).size ?_;intro v2 w5 ho2 hg2 _;have hB2:=Below.dN (hB1.alloc hB1.size _) (ho1.alloc _) hg2 aW (hB1.alloc hB1.size _).size)
         | (refine aU gX rfl _ _ rfl w1.heap.size _ [s] rfl ho2 _ [] rfl (HE.out _ _ _ hcm (fun h=>by cases h)) hq3.out hB2.size ?_;intro v3 w6 ho3 hg3 _;have hB3:=Below.dN hB2 ho2 hg3 aW hB2.size))
       all_goals (
        have jJ:=af ho3;have B:=af (B1.out.trans (hB3.mono B1.out.size));clear ho3 hg3 hB3 ho2 hg2 hB2 ho1 hg1 hB1
        try clear hr1
        go_wp2_with fail;go_ret2;rw [HF.out];exact ⟨_,rfl,jJ.out.mono B1.out.size,B.out⟩)
     simp only [Value.slice.injEq] at ev;obtain ⟨rfl,_,rfl⟩:=ev;have hcapm:=hcm;subst hjn;have HF:=af (show Kx.jS l s=(l.take l.length ++ s :: l.drop l.length,true) by rw [Hx.out,if_neg xQ.out,if_neg h6,HP.out]);have Hw1:=af (RS.take H.out l.length hj);obtain ⟨A,hA,Ui⟩:∃ A:Option Addr,(if cap=l.length then some (⟨b,off,none⟩:Addr) else some ⟨b,off+l.length,none⟩)=A∧Hid (RS df 1 w1 (.slice A 0 (cap - l.length)) (l.drop l.length)):=⟨_,rfl,af ⟨by simp,.inl ⟨List.drop_eq_nil_of_le (by omega),_,_,rfl,by have:=hcapm;omega,fun h=>by split at h <;> cases h⟩⟩⟩
     have Uj:=af (fun (W:World) (hb:Below w1.heap.size w1 W)=>RS.below Ui.out hb)
     obtain ⟨⟨L1,R1,C1⟩,⟨L2,R2,C2⟩,⟨L3,R3,C3⟩,Q2,Q3⟩:=La (e:=9) w1 s #[.string s] rfl Hw1.out;have XI:l.length≤6:=Zg;have htk:(l.take l.length).length=l.length:=by rw [List.length_take];omega
     have hq1:=af (show ([]:List Kx.Str).length+(l.take l.length).length≤1099511627776 by rw [htk];simp;omega);have hq2:=af (show (l.take l.length).length+[s].length≤1099511627776 by rw [htk];simp;omega);have hq3:=af (show (l.take l.length ++ [s]).length+(l.drop l.length).length≤1099511627776 by rw [List.length_append,htk,List.length_drop];simp;omega);have Q5:(l.length:Int)≤(cap:Int):=by omega
     have hjL:(l.length:Int)≤(l.length:Int):=by omega
     have hj0:(0:Int)≤(l.length:Int):=by omega
     have hlc:(l.length:Int)≤(cap:Int):=by omega
     have h6b:decide ((l.length:Int)≥6)=false:=by simp;omega
     clear Hx xQ HP htk hall Ui;go_wp2_with fail;go_region_held3 (fun _=>True)
      (trivial)
      (first
       | (refine aU gX rfl _ _ rfl w1.heap.size _ [] rfl L1.out _ (l.take l.length) rfl R1.out hq1.out C1.out.size ?_;intro v1 w4 ho1 hg1 _;rw [List.nil_append] at ho1;have hB1:=Below.dN C1.out L1.out hg1 aW C1.out.size)
       | (refine aU gX rfl _ _ rfl w1.heap.size _ [] rfl L2.out _ (l.take l.length) rfl R2.out hq1.out C2.out.size ?_;intro v1 w4 ho1 hg1 _;rw [List.nil_append] at ho1;have hB1:=Below.dN C2.out L2.out hg1 aW C2.out.size;have hr1:=Q2.out w4 hg1)
       | (refine aU gX rfl _ _ rfl w1.heap.size _ [] rfl L3.out _ (l.take l.length) rfl R3.out hq1.out C3.out.size ?_;intro v1 w4 ho1 hg1 _;rw [List.nil_append] at ho1;have hB1:=Below.dN C3.out L3.out hg1 aW C3.out.size;have hr1:=Q3.out w4 hg1)
       | (refine aU gX rfl _ _ rfl w1.heap.size _ (l.take l.length) rfl ho1 _ [s] rfl hr1 hq2.out hB1.size ?_;intro v2 w5 ho2 hg2 _;have hB2:=Below.dN hB1 ho1 hg2 aW hB1.size;have hr2:=Uj.out w5 hB2)
       | (refine aU gX rfl _ _ rfl w1.heap.size _ (l.take l.length) rfl (ho1.alloc _) _ [s] rfl (RS.one s #[.string s] rfl w4 9) hq2.out (hB1.alloc hB1.size _).size ?_;intro v2 w5 ho2 hg2 _;have hB2:=Below.dN (hB1.alloc hB1.size _) (ho1.alloc _) hg2 aW (hB1.alloc hB1.size _).size;have hr2:=Uj.out w5 hB2)
       | (refine aU gX rfl _ _ rfl w1.heap.size _ (l.take l.length ++ [s]) rfl ho2 _ (l.drop l.length) rfl hr2 hq3.out hB2.size ?_;intro v3 w6 ho3 hg3 _;have hB3:=Below.dN hB2 ho2 hg3 aW hB2.size))
     all_goals (
      have jJ:=af ho3;have B:=af (B1.out.trans (hB3.mono B1.out.size));clear ho3 hg3 hB3 ho2 hg2 hB2 hr2 ho1 hg1 hB1
      try clear hr1
      go_wp2_with fail;go_ret2;rw [HF.out];exact ⟨_,rfl,by have:=jJ.out.mono B1.out.size;rw [List.append_assoc] at this;exact this,B.out⟩)
def kU (c:List Kx.Cached) (x:Kx.Cached):List Kx.Cached:=c.filter fun y=>y.env != x.env||y.page != x.page
theorem A_ (c:List Kx.Cached) (x:Kx.Cached):(kU c x).length≤c.length:=List.length_filter_le _ _
theorem FY (c:List Kx.Cached) (x:Kx.Cached) {k:Nat} (hk:k<c.length):kU (c.take (k+1)) x=kU (c.take k) x ++ kU [c[k]] x:=by
 unfold kU;rw [List.take_succ_eq_append_getElem hk,List.filter_append]
theorem Gx (c:List Kx.Cached) (x:Kx.Cached) (v:Value) (w:World) (h:dZ w v c) (hc4:c.length≤1000):Calls Tryz.prog 218 #[v,.agg #[.int .i64 x.env,.int .i64 x.page,.int .i64 x.frame,.bool x.write]] w (yu b_ 4 112 w (Kx.qp c x)):=by
 obtain ⟨a,cap,rfl,_,_⟩:=RS.val h;obtain ⟨w0,hw0⟩:∃ w0,w.alloc (.cells #[.int .i64 x.env,.int .i64 x.page,.int .i64 x.frame,.bool x.write] 112)=w0:=⟨_,rfl⟩;have B0:Below w.heap.size w w0:=hw0 ▸ dm;have X0:=af (show BX w0 w.heap.size 112 [.int .i64 x.env,.int .i64 x.page,.int .i64 x.frame,.bool x.write] from hw0 ▸ BX.new w _ _);have H:=af (show dZ w0 _ c from RS.below h B0);have HB0:=af B0;clear h B0;go_enter Tryz.func218,Tryz.ntmps218;go_wp2_with fail;go_loopw [5,6] (fun out i wr=>∃ k:Nat,i=.int .i64 k∧k≤c.length∧Hid (OS b_ 4 112 wr w0.heap.size out (kU (c.take k) x))∧Hid (Below w0.heap.size w0 wr)) (fun _ i _=>c.length - (intOf i).toNat)
 case atStart=>exact ⟨0,rfl,Nat.zero_le _,OS.d_ aW,fZ.alloc aW _⟩
 case round =>
  obtain ⟨k,rfl,hk,ho,hb⟩:=hrel
  by_cases hlt:k<c.length
  ·have kQ:(k:Int)<(c.length:Int):=by omega
   obtain ⟨b,off,cap',ev,hbl,hc⟩:=RS.at (RS.below H.out hb.out) (k:=k) hlt;simp only [Value.slice.injEq] at ev;obtain ⟨rfl,_,rfl⟩:=ev;have Ht:=af (FY c x hlt);have Hlen:=af (show (kU (c.take k) x).length≤k from Nat.le_trans (A_ _ _) (List.length_take_le _ _));generalize c[k]=y at hc Ht;have g0:=hc 0 _ rfl;have g1:=hc 1 _ rfl;have g2:=hc 2 _ rfl;have g3:=hc 3 _ rfl;rw [Nat.add_zero] at g0;have HX:=af (X0.out.below hb.out);obtain ⟨p0,p1,p2,p3⟩:=HX.out.c4;clear hc hbl HX;have hsz:=af hb.out.size;have hxl:=af (show (kU (c.take k) x).length+1≤1099511627776 by have:=Hlen.out;omega)
   cases hcd:(y.env != x.env||y.page != x.page) with
   | false =>
    have Hx:=af (show kU [y] x=[] by simp only [kU,List.filter_cons,hcd];rfl);rw [Bool.or_eq_false_iff] at hcd;obtain ⟨hc1,hc2⟩:=hcd;go_wp2_with fail;go_quiet (fail);go_wp2_with fail;go_roundw
    case rel=>exact ⟨k+1,by go_num,by omega,by show OS _ _ _ _ _ _ _;rw [Ht.out,Hx.out,List.append_nil];exact ho.out.drewN _,⟨hb.out.os,hb.out.tape,hb.out.output,hb.out.size,hb.out.block⟩⟩
    case measure=>simp [intOf];omega
   | true =>
    have Hx:=af (show kU [y] x=[y] by simp only [kU,List.filter_cons,hcd];rfl);have hAP:∀ W:World,W=W→True:=fun _ _=>trivial
    cases hc1:(y.env != x.env) with
    | true =>
     clear hcd;go_wp2_with fail;go_quiet (fail);obtain ⟨W1,hW1⟩:∃ W1,wr.drewN nq=W1:=⟨_,rfl⟩;have hb1:=hW1 ▸ IC wr nq;have ho1:=af (ho.out.below hb1);have Hb1:=af (hb.out.trans (hb1.mono hb.out.size));have hsz1:=af Hb1.out.size;have q0:=(hb1.cell (p:=⟨b,off+k*4,none⟩) (World.block_lt_of_cell? wr _ g0)).trans g0;have q1:=(hb1.cell (p:=⟨b,off+k*4+1,none⟩) (World.block_lt_of_cell? wr _ g1)).trans g1;have q2:=(hb1.cell (p:=⟨b,off+k*4+2,none⟩) (World.block_lt_of_cell? wr _ g2)).trans g2;have q3:=(hb1.cell (p:=⟨b,off+k*4+3,none⟩) (World.block_lt_of_cell? wr _ g3)).trans g3;rw [hW1];clear hW1 hb1 g0 g1 g2 g3 p0 p1 p2 p3 ho hb
     go_wp2_with (at_builtin;refine aV gB rfl _ _ rfl w0.heap.size _ (kU (c.take k) x) rfl (ho1.out.alloc _) _ [y] rfl (RS.one y #[.int .i64 y.env,.int .i64 y.page,.int .i64 y.frame,.bool y.write] rfl _ _) hxl.out (by simp;exact Nat.le_succ_of_le hsz1.out) ?_;intro v' w3 ho3 hg3 _;have jJ:=af ho3;have ql:=af hg3;clear ho3 hg3);go_roundw
     case rel =>
      refine ⟨k+1,by go_num,by omega,?_,?_⟩
      ·show OS _ _ _ _ _ _ _;rw [Ht.out,Hx.out];exact jJ.out
      exact Below.dN (Hb1.out.alloc Hb1.out.size _) (ho1.out.alloc _) ql.out aW (by simp;exact Nat.le_succ_of_le hsz1.out)
     case measure=>simp [intOf];omega
    | false =>
     have hc2:(y.page != x.page)=true:=by rw [hc1,Bool.false_or] at hcd;exact hcd
     clear hcd;go_wp2_with fail;go_quiet (fail);obtain ⟨W1,hW1⟩:∃ W1,wr.drewN nq=W1:=⟨_,rfl⟩;have hb1:=hW1 ▸ IC wr nq;have ho1:=af (ho.out.below hb1);have Hb1:=af (hb.out.trans (hb1.mono hb.out.size));have hsz1:=af Hb1.out.size;have q0:=(hb1.cell (p:=⟨b,off+k*4,none⟩) (World.block_lt_of_cell? wr _ g0)).trans g0;have q1:=(hb1.cell (p:=⟨b,off+k*4+1,none⟩) (World.block_lt_of_cell? wr _ g1)).trans g1;have q2:=(hb1.cell (p:=⟨b,off+k*4+2,none⟩) (World.block_lt_of_cell? wr _ g2)).trans g2;have q3:=(hb1.cell (p:=⟨b,off+k*4+3,none⟩) (World.block_lt_of_cell? wr _ g3)).trans g3;rw [hW1];clear hW1 hb1 g0 g1 g2 g3 p0 p1 p2 p3 ho hb
     go_wp2_with (at_builtin;refine aV gB rfl _ _ rfl w0.heap.size _ (kU (c.take k) x) rfl (ho1.out.alloc _) _ [y] rfl (RS.one y #[.int .i64 y.env,.int .i64 y.page,.int .i64 y.frame,.bool y.write] rfl _ _) hxl.out (by simp;exact Nat.le_succ_of_le hsz1.out) ?_;intro v' w3 ho3 hg3 _;have jJ:=af ho3;have ql:=af hg3;clear ho3 hg3);go_roundw
     case rel =>
      refine ⟨k+1,by go_num,by omega,?_,?_⟩
      ·show OS _ _ _ _ _ _ _;rw [Ht.out,Hx.out];exact jJ.out
      exact Below.dN (Hb1.out.alloc Hb1.out.size _) (ho1.out.alloc _) ql.out aW (by simp;exact Nat.le_succ_of_le hsz1.out)
     case measure=>simp [intOf];omega
  have hkn:k=c.length:=by omega
  subst hkn;have Ho:=ho.out;rw [List.take_length] at Ho;have JM:=af (show Kx.qp c x=(if 4≤(kU c x).length then (kU c x).drop 1 else kU c x) ++ [x] from rfl);have hl:=A_ c x;have BV:=af Ho;clear Ho ho;generalize kU c x=o at BV JM hl
  by_cases h4:4≤o.length
  ·obtain ⟨l2,hl2⟩:∃ l2,o.drop 1=l2:=⟨_,rfl⟩;have HF:=af (show Kx.qp c x=l2 ++ [x] by rw [JM.out,if_pos h4,hl2]);have hL2:=af (show l2.length≤1000 by rw [←hl2,List.length_drop];omega);obtain ⟨g,cg,rfl,hg1,hg2⟩:=BV.out.shape (by omega);have hcg:=(RS.len BV.out.rs rfl).2;have HR:=af (show RS b_ 4 wr (.slice (some ⟨g,4,none⟩) (o.length - 1) (cg - 1)) l2 by have:=RS.drop BV.out.rs 1 (by omega);rw [hl2] at this;simpa using this);have aa':(1:Int)≤(cg:Int):=by omega
   have hn1:¬ cg=1:=by omega
   have aba:(1:Int)≤(o.length:Int):=by omega
   have UM:decide ((o.length:Int)≥4)=true:=by simp;omega
   clear JM hl2;have hpc:=af (fun W (hW:Below wr.heap.size wr W)=>(X0.out.below (hb.out.trans (hW.mono hb.out.size))).c4)
   obtain ⟨p0,p1,p2,p3⟩:=hpc.out wr fZ;obtain ⟨⟨L1,R1,C1⟩,⟨L2,R2,C2⟩,⟨L3,R3,C3⟩,Q2,Q3⟩:=La (e:=112) wr x #[.int .i64 x.env,.int .i64 x.page,.int .i64 x.frame,.bool x.write] rfl HR.out;have hq1:=af (show ([]:List Kx.Cached).length+l2.length≤1099511627776 by have:=hL2.out;simp;omega);have hq2:=af (show l2.length+[x].length≤1099511627776 by have:=hL2.out;simp;omega);have c1:=hpc.out _ C1.out;have c2:=hpc.out _ C2.out;have c3:=hpc.out _ C3.out;have c4:=hpc.out _ (Below.lit (Below.refl wr.heap.size wr) (.cells #[.int .i64 x.env,.int .i64 x.page,.int .i64 x.frame,.bool x.write] 112));go_wp2_with fail;go_region_held3 (fun wz=>wz.cell? ⟨w.heap.size,0,none⟩=some (.int .i64 x.env)∧wz.cell? ⟨w.heap.size,1,none⟩=some (.int .i64 x.page)∧wz.cell? ⟨w.heap.size,2,none⟩=some (.int .i64 x.frame)∧wz.cell? ⟨w.heap.size,3,none⟩=some (.bool x.write))
    (first | assumption | exact hc1 | exact hc2 | go_keep)
    (first
     | (refine aU gB rfl _ _ rfl wr.heap.size _ [] rfl L1.out _ l2 rfl R1.out hq1.out C1.out.size ?_;intro v1 w4 ho1 hg1 _;rw [List.nil_append] at ho1;have hB1:=Below.dN C1.out L1.out hg1 aW C1.out.size;have hc1:=hpc.out _ hB1)
     | (refine aU gB rfl _ _ rfl wr.heap.size _ [] rfl L2.out _ l2 rfl R2.out hq1.out C2.out.size ?_;intro v1 w4 ho1 hg1 _;rw [List.nil_append] at ho1;have hB1:=Below.dN C2.out L2.out hg1 aW C2.out.size;have hr1:=Q2.out w4 hg1;have hc1:=hpc.out _ hB1)
     | (refine aU gB rfl _ _ rfl wr.heap.size _ [] rfl L3.out _ l2 rfl R3.out hq1.out C3.out.size ?_;intro v1 w4 ho1 hg1 _;rw [List.nil_append] at ho1;have hB1:=Below.dN C3.out L3.out hg1 aW C3.out.size;have hr1:=Q3.out w4 hg1;have hc1:=hpc.out _ hB1)
     | (refine aU gB rfl _ _ rfl wr.heap.size _ l2 rfl ho1 _ [x] rfl hr1 hq2.out hB1.size ?_;intro v2 w5 ho2 hg2 _;have hB2:=Below.dN hB1 ho1 hg2 aW hB1.size;have hc2:=hpc.out _ hB2)
     | (refine aU gB rfl _ _ rfl wr.heap.size _ l2 rfl (ho1.alloc _) _ [x] rfl (RS.one x #[.int .i64 x.env,.int .i64 x.page,.int .i64 x.frame,.bool x.write] rfl w4 112) hq2.out (hB1.alloc hB1.size _).size ?_;intro v2 w5 ho2 hg2 _;have hB2:=Below.dN (hB1.alloc hB1.size _) (ho1.alloc _) hg2 aW (hB1.alloc hB1.size _).size;have hc2:=hpc.out _ hB2))
   all_goals (
    have jJ:=af ho2;have B:=af (HB0.out.trans ((hb.out.trans (hB2.mono hb.out.size)).mono HB0.out.size));have hz:=af (Nat.le_trans HB0.out.size hb.out.size);clear ho2 hg2 hB2 ho1 hg1 hB1 hc1 hc2
    try clear hr1
    go_wp2_with fail;go_ret;exact ⟨_,rfl,by rw [HF.out];exact jJ.out.mono hz.out,B.out⟩)
  have HF:=af (show Kx.qp c x=o ++ [x] by rw [JM.out,if_neg h4]);have hL2:=af (show o.length≤1000 by omega);obtain ⟨l2,hl2⟩:∃ l2,o=l2:=⟨_,rfl⟩;subst hl2;have HR:=af BV.out.rs;obtain ⟨ao,co,rfl,_,_⟩:=RS.val BV.out.rs;have UM:decide ((o.length:Int)≥4)=false:=by simp;omega
  clear JM;have hpc:=af (fun W (hW:Below wr.heap.size wr W)=>(X0.out.below (hb.out.trans (hW.mono hb.out.size))).c4)
  obtain ⟨p0,p1,p2,p3⟩:=hpc.out wr fZ;obtain ⟨⟨L1,R1,C1⟩,⟨L2,R2,C2⟩,⟨L3,R3,C3⟩,Q2,Q3⟩:=La (e:=112) wr x #[.int .i64 x.env,.int .i64 x.page,.int .i64 x.frame,.bool x.write] rfl HR.out;have hq1:=af (show ([]:List Kx.Cached).length+o.length≤1099511627776 by have:=hL2.out;simp;omega);have hq2:=af (show o.length+[x].length≤1099511627776 by have:=hL2.out;simp;omega);have c1:=hpc.out _ C1.out;have c2:=hpc.out _ C2.out;have c3:=hpc.out _ C3.out;have c4:=hpc.out _ (Below.lit (Below.refl wr.heap.size wr) (.cells #[.int .i64 x.env,.int .i64 x.page,.int .i64 x.frame,.bool x.write] 112));go_wp2_with fail;go_region_held3 (fun wz=>wz.cell? ⟨w.heap.size,0,none⟩=some (.int .i64 x.env)∧wz.cell? ⟨w.heap.size,1,none⟩=some (.int .i64 x.page)∧wz.cell? ⟨w.heap.size,2,none⟩=some (.int .i64 x.frame)∧wz.cell? ⟨w.heap.size,3,none⟩=some (.bool x.write))
   (first | assumption | exact hc1 | exact hc2 | go_keep)
   (first
    | (refine aU gB rfl _ _ rfl wr.heap.size _ [] rfl L1.out _ o rfl R1.out hq1.out C1.out.size ?_;intro v1 w4 ho1 hg1 _;rw [List.nil_append] at ho1;have hB1:=Below.dN C1.out L1.out hg1 aW C1.out.size;have hc1:=hpc.out _ hB1)
    | (refine aU gB rfl _ _ rfl wr.heap.size _ [] rfl L2.out _ o rfl R2.out hq1.out C2.out.size ?_;intro v1 w4 ho1 hg1 _;rw [List.nil_append] at ho1;have hB1:=Below.dN C2.out L2.out hg1 aW C2.out.size;have hr1:=Q2.out w4 hg1;have hc1:=hpc.out _ hB1)
    | (refine aU gB rfl _ _ rfl wr.heap.size _ [] rfl L3.out _ o rfl R3.out hq1.out C3.out.size ?_;intro v1 w4 ho1 hg1 _;rw [List.nil_append] at ho1;have hB1:=Below.dN C3.out L3.out hg1 aW C3.out.size;have hr1:=Q3.out w4 hg1;have hc1:=hpc.out _ hB1)
    | (refine aU gB rfl _ _ rfl wr.heap.size _ o rfl ho1 _ [x] rfl hr1 hq2.out hB1.size ?_;intro v2 w5 ho2 hg2 _;have hB2:=Below.dN hB1 ho1 hg2 aW hB1.size;have hc2:=hpc.out _ hB2)
    | (refine aU gB rfl _ _ rfl wr.heap.size _ o rfl (ho1.alloc _) _ [x] rfl (RS.one x #[.int .i64 x.env,.int .i64 x.page,.int .i64 x.frame,.bool x.write] rfl w4 112) hq2.out (hB1.alloc hB1.size _).size ?_;intro v2 w5 ho2 hg2 _;have hB2:=Below.dN (hB1.alloc hB1.size _) (ho1.alloc _) hg2 aW (hB1.alloc hB1.size _).size;have hc2:=hpc.out _ hB2))
  all_goals (
   have jJ:=af ho2;have B:=af (HB0.out.trans ((hb.out.trans (hB2.mono hb.out.size)).mono HB0.out.size));have hz:=af (Nat.le_trans HB0.out.size hb.out.size);clear ho2 hg2 hB2 ho1 hg1 hB1 hc1 hc2
   try clear hr1
   go_wp2_with fail;go_ret;exact ⟨_,rfl,by rw [HF.out];exact jJ.out.mono hz.out,B.out⟩)
end Go.Proofs.YtliebkfligagnaaGreatDoor
