/- Contracts: the reference's RightsAdd and l4Put. -/
import Derived.Test.YthcmmoibpgcgaaaGreatDoorKLa
import Derived.Test.YthcmmoibpgcgaaaGreatDoorKIa
set_option maxHeartbeats 4000000
set_option maxRecDepth 100000
set_option linter.all false
open List renaming length_append->A1,nil_append->A2,length_take->A3
open Nat renaming le_succ_of_le->A4
open Option.some renaming injEq->A5
open Go.Value renaming slice->A0
open Go.Proofs.Tryz
namespace Go.Proofs.YthcmmoibpgcgaaaGreatDoor
open Go.RowKit Kx
variable {sz:Nat}
theorem IC (w:World) (n:Nat):Below w.heap.size w (w.drewN n):=let h:=Below.refl w.heap.size w;⟨h.os,h.tape,h.output,h.size,h.block⟩
theorem RS.far {α:Type} {f:α->List Value} {w w':World} {v:Value} {l:List α} {r:Option Nat} (h:RS f sz w v l) (hg:w.grownBy w' r) (hv:∀ a n c,v=A0 (some a) n c->some a.block≠r):RS f sz w' v l:=by
 obtain ⟨h1,h2⟩:=h;refine ⟨h1,?_⟩;rcases h2 with h2 | ⟨b,off,cap,rfl,h3,h4,hb,hc⟩
 ·exact .inl h2
 refine .inr ⟨b,off,cap,rfl,h3,h4,Nat.lt_of_lt_of_le hb hg.size,fun k hk j u hu=>?_⟩
 have hne:=hv _ _ _ rfl;exact (hg.cell_far ⟨b,off+k*sz+j,none⟩ hb (by simpa using hne)).trans (hc k hk j u hu)
theorem RS.drop {α:Type} {f:α->List Value} {w:World} {b off n cap:Nat} {l:List α} (h:RS f sz w (A0 (some ⟨b,off,none⟩) n cap) l) (k:Nat) (hk:k<n):RS f sz w (A0 (some ⟨b,off+k*sz,none⟩) (n - k) (cap - k)) (l.drop k):=by
 obtain ⟨h1,h2⟩:=h;refine ⟨by simp;omega,?_⟩;rcases h2 with ⟨rfl,a,cap',e,_⟩ | ⟨b',off',cap',e,h3,h4,hb,hc⟩
 ·simp only [Value.slice.injEq] at e;omega
 obtain ⟨⟨rfl,rfl,_⟩,rfl,rfl⟩:=Zb e;clear e;refine .inr ⟨b,off+k*sz,cap - k,by simp,by simp;omega,by omega,hb,fun i hi j u hu=>?_⟩
 have hi':k+i<l.length:=by simp at hi;omega
 have:=hc (k+i) hi' j u (by simpa using hu)
 rw [show off+k*sz+i*sz+j=off+(k+i)*sz+j by rw [Nat.add_mul];omega];exact this
theorem La {α:Type} {f:α->List Value} [IV f sz] {e:TypeId} (w2:World) (x:α) (pc:Array Value) (hpc:pc.toList=f x) {l:List α} {u:Value} (h:RS f sz w2 u l) :
  (TI (OS f sz e (w2.alloc (.cells #[] e)).drew w2.heap.size (A0 (some ⟨w2.heap.size,0,none⟩) 0 0) [])/\TI (RS f sz (w2.alloc (.cells #[] e)).drew u l)/\TI (Below w2.heap.size w2 (w2.alloc (.cells #[] e)).drew)) /\
  (TI (OS f sz e ((w2.alloc (.cells #[] e)).alloc (.cells pc e)).drew w2.heap.size (A0 (some ⟨w2.heap.size,0,none⟩) 0 0) [])/\TI (RS f sz ((w2.alloc (.cells #[] e)).alloc (.cells pc e)).drew u l)/\TI (Below w2.heap.size w2 ((w2.alloc (.cells #[] e)).alloc (.cells pc e)).drew)) /\
  (TI (OS f sz e ((w2.alloc (.cells pc e)).alloc (.cells #[] e)).drew w2.heap.size (A0 (some ⟨w2.heap.size+1,0,none⟩) 0 0) [])/\TI (RS f sz ((w2.alloc (.cells pc e)).alloc (.cells #[] e)).drew u l)/\TI (Below w2.heap.size w2 ((w2.alloc (.cells pc e)).alloc (.cells #[] e)).drew)) /\
  TI (∀ w1,((w2.alloc (.cells #[] e)).alloc (.cells pc e)).drew.grownBy w1 (some w2.heap.size)->RS f sz w1 (A0 (some ⟨w2.heap.size+1,0,none⟩) 1 1) [x]) /\
  TI (∀ w1,((w2.alloc (.cells pc e)).alloc (.cells #[] e)).drew.grownBy w1 (some (w2.heap.size+1))->RS f sz w1 (A0 (some ⟨w2.heap.size,0,none⟩) 1 1) [x]):=by
 have b1:Below w2.heap.size w2 (w2.alloc (.cells #[] e)):=dm;have b2:Below w2.heap.size w2 ((w2.alloc (.cells #[] e)).alloc (.cells pc e)):=Below.lit b1 _;have Zf:Below w2.heap.size w2 (w2.alloc (.cells pc e)):=dm;have b3:Below w2.heap.size w2 ((w2.alloc (.cells pc e)).alloc (.cells #[] e)):=Below.lit Zf _;have l3:=(OS.d_ (f:=f) (sz:=sz) (e:=e) (w:=w2.alloc (.cells pc e)) (base:=w2.heap.size) Zf.size);have p2:=RS.one (f:=f) (sz:=sz) x pc hpc (w2.alloc (.cells #[] e)) e;have hs1:(w2.alloc (.cells pc e)).heap.size=w2.heap.size+1:=by simp
 have hs2:(w2.alloc (.cells #[] e)).heap.size=w2.heap.size+1:=by simp
 rw [hs1] at l3;rw [hs2] at p2;refine ⟨⟨(OS.d_ aW).drewN 1,RS.drewN (RS.below h b1) 1,Below.bz b1⟩,⟨((OS.d_ aW).alloc _).drewN 1,RS.drewN (RS.below h b2) 1,Below.bz b2⟩,⟨l3.drewN 1,RS.drewN (RS.below h b3) 1,Below.bz b3⟩,fun w1 hg=>?_,fun w1 hg=>?_⟩
 ·exact RS.far (RS.drewN p2 1) hg (fun a n c e=>by simp only [Value.slice.injEq,A5] at e;obtain ⟨rfl,_⟩:=e;simp)
 exact RS.far (RS.drewN (RS.below (RS.one (f:=f) (sz:=sz) x pc hpc w2 e) (dm)) 1) hg (fun a n c e=>by simp only [Value.slice.injEq,A5] at e;obtain ⟨rfl,_⟩:=e;simp)
theorem wu:∀ (l:List Kx.Str) (s:Kx.Str) (j:Nat),j<=l.length->(∀ i (hi:i<l.length),i<j->Kx.lt l[i] s=true)->(∀ (h:j<l.length),Kx.lt l[j] s=false)->gz l s=j
 | [],_,j,hj,_,_=>by simp at hj;subst hj;rfl
 | a :: l,s,0,_,_,hs=>by
  have:Kx.lt a s=false:=hs (by simp)
  simp [gz,List.takeWhile,this]
 | a :: l,s,j+1,hj,hall,hs=>by
  have h0:Kx.lt a s=true:=hall 0 (by simp) (by omega);have ih:=wu l s j (by simpa using hj) (fun i hi hij=>by have:=hall (i+1) (by simpa using hi) (by omega);simpa using this) (fun h=>by have:=hs (by simpa using h);simpa using this)
  unfold gz at ih ⊢;simp [List.takeWhile,h0,ih]
theorem qc (l:List Kx.Str) (s:Kx.Str) (v:Value) (w:World) (h:dK w v l) (hsl:Dw l) (hss:s.size<=9223372036854775807) :
  Calls prog 209 #[v,.string s] w (yH df 1 9 w (if aS l&&bT s then (jS l s).1 else []) [.bool (aS l&&bT s&&(jS l s).2)]):=by
 obtain ⟨a,cap,rfl,hcap,_⟩:=RS.val h;have H:=af h;have Ns:=af (di l _ w h hsl);have XH:=af (fun W=>bY s W hss);clear h hsl hss
 cases hro:aS l with
 | false =>
  have mW:=af hro;clear hro;go_enter func209,ntmps209;go_wp2_with fail;refine Ns.o.mono ?_;rintro e w1 ⟨rfl,n,rfl⟩;rw [mW.o];go_wp2_with fail;go_ret2;have hb:=IC w n;exact ⟨_,rfl,OS.d_ aW,Below.lit hb _⟩
 | true =>
  have mW:=af hro;have Zg:l.length<=6:=by unfold aS at hro;simp only [Bool.and_eq_true,decide_eq_true_eq] at hro;exact hro.2
  clear hro
  cases hso:bT s with
  | false =>
   have Q7:=af hso;clear hso;go_enter func209,ntmps209;go_wp2_with fail;refine Ns.o.mono ?_;rintro e w1 ⟨rfl,n,rfl⟩;rw [mW.o];go_wp2_with fail;refine (XH.o _).mono ?_;rintro e w1 ⟨rfl,rfl⟩;rw [Q7.o];go_wp2_with fail;go_ret2;exact ⟨_,rfl,OS.d_ aW,Below.lit (IC w n) _⟩
  | true =>
   have Q7:=af hso;clear hso;go_enter func209,ntmps209;go_wp2_with fail;refine Ns.o.mono ?_;rintro e w1 ⟨rfl,n,hw1⟩;rw [mW.o];have hb1:Below w.heap.size w w1:=hw1 ▸ IC w n;have B1:=af hb1;replace H:=af (RS.below H.o hb1);clear hb1 hw1 Ns;go_wp2_with fail;refine (XH.o _).mono ?_;rintro e w2 ⟨rfl,rfl⟩;rw [Q7.o];clear XH;go_wp2_with fail;go_loop [6] (fun i=>∃ j:Nat,i=I_ j/\j<=l.length/\TI (∀ i (hi:i<l.length),i<j->Kx.lt l[i] s=true)) (fun i=>l.length - (intOf i).toNat)
   case atStart=>exact ⟨0,rfl,Nat.zero_le _,fun j _ hj=>absurd hj (Nat.not_lt_zero _)⟩
   case round =>
    obtain ⟨j,rfl,hj,hall⟩:=hrel
    by_cases hlt:j<l.length
    ·have kQ:(j:Int)<(l.length:Int):=by omega
     obtain ⟨b,off,cap',ev,hbl,g0⟩:=dK.at H.o hlt;obtain ⟨rfl,_,rfl⟩:=Za ev;clear ev
     cases hq:Kx.lt l[j] s with
     | true =>
      have Hn:=af (show ∀ i (hi:i<l.length),i<j+1->Kx.lt l[i] s=true from fun i hi hij=>by
       by_cases e:i=j
       ·subst e;exact hq
       exact hall.o i hi (by omega))
      unfold Kx.lt at hq;generalize l[j]=y at g0 hq;go_wp2_with fail;go_round
      case rel=>exact ⟨j+1,by go_num,by omega,Hn.o⟩
      case measure=>simp [intOf];omega
     | false =>
      have HP:=af (wu l s j hj hall.o (fun _=>hq));have Hj:=af (show l[gz l s]?=some l[j] by rw [HP.o];exact List.getElem?_eq_getElem hlt);unfold Kx.lt at hq;have Hx:=af (show jS l s=(if l[gz l s]?=some s then (l,true) else if 6<=l.length then (l,false) else (l.take (gz l s) ++ s :: l.drop (gz l s),true)) from rfl);generalize l[j]=y at g0 hq Hj
      by_cases hys:y=s
      ·have HF:=af (show jS l s=(l,true) by rw [Hx.o,if_pos (by rw [Hj.o,hys])]);subst hys;have O1:=af (show OS df 1 9 (w1.alloc (.cells #[] 9)) w1.heap.size (A0 (some ⟨w1.heap.size,0,none⟩) 0 0) [] from OS.d_ aW);have H2:=af (RS.below H.o (Below.lit (Below.refl w1.heap.size w1) (.cells #[] 9)));have hx:=af (show ([]:List Kx.Str).length+l.length<=1099511627776 by simp;omega);clear Hx Hj hall HP;go_wp2_with (at_builtin;refine aV gX rfl _ _ rfl w1.heap.size _ [] rfl O1.o _ l rfl H2.o hx.o (by simp) ?_;intro v' w4 iV hg4 hx4;clear hx4;have kH:=af (show OS df 1 9 w4 w1.heap.size v' l from iV);have B4:=af (Below.dN (Below.lit B1.o (.cells #[] 9)) O1.o hg4 B1.o.size (by simp;exact A4 B1.o.size));clear iV hg4);go_wp2_with fail;go_ret2;rw [HF.o];exact ⟨_,rfl,kH.o.mono B1.o.size,B4.o⟩
      have Zi:ByteArray.toList y≠ByteArray.toList s:=fun e=>hys (Kx.toList_inj e)
      have hyd:decide (ByteArray.toList y=ByteArray.toList s)=false:=by simpa using Zi
      have hye:(ByteArray.toList y==ByteArray.toList s)=false:=by simpa using Zi
      have xQ:=af (show ¬ l[gz l s]?=some s by rw [Hj.o];simpa using hys);clear Hj
      by_cases h6:6<=l.length
      ·have HF:=af (show jS l s=(l,false) by rw [Hx.o,if_neg xQ.o,if_pos (by omega)]);have O1:=af (show OS df 1 9 (w1.alloc (.cells #[] 9)) w1.heap.size (A0 (some ⟨w1.heap.size,0,none⟩) 0 0) [] from OS.d_ aW);have H2:=af (RS.below H.o (Below.lit (Below.refl w1.heap.size w1) (.cells #[] 9)));have hx:=af (show ([]:List Kx.Str).length+l.length<=1099511627776 by simp;omega);clear Hx xQ;go_wp2_with (at_builtin;refine aV gX rfl _ _ rfl w1.heap.size _ [] rfl O1.o _ l rfl H2.o hx.o (by simp) ?_;intro v' w4 iV hg4 hx4;clear hx4;have kH:=af (show OS df 1 9 w4 w1.heap.size v' l from iV);have B4:=af (Below.dN (Below.lit B1.o (.cells #[] 9)) O1.o hg4 B1.o.size (by simp;exact A4 B1.o.size));clear iV hg4);go_wp2_with fail;go_ret2;rw [HF.o];exact ⟨_,rfl,kH.o.mono B1.o.size,B4.o⟩
      have HF:=af (show jS l s=(l.take j ++ s :: l.drop j,true) by rw [Hx.o,if_neg xQ.o,if_neg h6,HP.o]);have Hw1:=af (RS.take H.o j hj);obtain ⟨A,hA,Ui⟩:∃ A:Option Addr,(if cap=j then some (⟨b,off,none⟩:Addr) else some ⟨b,off+j,none⟩)=A/\TI (RS df 1 w1 (A0 A (l.length - j) (cap - j)) (l.drop j)):=⟨_,if_neg (by omega),af (by have:=RS.drop H.o j hlt;rw [Nat.mul_one] at this;exact this)⟩;have Uj:=af (fun (W:World) (hb:Below w1.heap.size w1 W)=>RS.below Ui.o hb)
      obtain ⟨⟨L1,R1,C1⟩,⟨L2,R2,C2⟩,⟨L3,R3,C3⟩,Q2,Q3⟩:=La (e:=9) w1 s #[.string s] rfl Hw1.o;have XI:l.length<=6:=Zg;have htk:(l.take j).length=j:=by rw [A3];omega
      have hq1:=af (show ([]:List Kx.Str).length+(l.take j).length<=1099511627776 by rw [htk];simp;omega);have hq2:=af (show (l.take j).length+[s].length<=1099511627776 by rw [htk];simp;omega);have hq3:=af (show (l.take j ++ [s]).length+(l.drop j).length<=1099511627776 by rw [A1,htk,List.length_drop];simp;omega);have Q5:(j:Int)<=(cap:Int):=by omega
      have hjL:(j:Int)<=(l.length:Int):=by omega
      have hj0:(0:Int)<=(j:Int):=by omega
      have hlc:(l.length:Int)<=(cap:Int):=by omega
      have h6b:decide ((l.length:Int)≥6)=false:=by simp;omega
      clear Hx xQ HP htk hall Ui;go_wp2_with fail;go_region_held3 (fun _=>True)
       (trivial)
       (first
        | (refine aU gX rfl _ _ rfl w1.heap.size _ [] rfl L1.o _ (l.take j) rfl R1.o hq1.o C1.o.size ?_;intro v1 w4 ho1 hg1 _;rw [A2] at ho1;have hB1:=Below.dN C1.o L1.o hg1 aW C1.o.size)
        | (refine aU gX rfl _ _ rfl w1.heap.size _ [] rfl L2.o _ (l.take j) rfl R2.o hq1.o C2.o.size ?_;intro v1 w4 ho1 hg1 _;rw [A2] at ho1;have hB1:=Below.dN C2.o L2.o hg1 aW C2.o.size;have hr1:=Q2.o w4 hg1)
        | (refine aU gX rfl _ _ rfl w1.heap.size _ [] rfl L3.o _ (l.take j) rfl R3.o hq1.o C3.o.size ?_;intro v1 w4 ho1 hg1 _;rw [A2] at ho1;have hB1:=Below.dN C3.o L3.o hg1 aW C3.o.size;have hr1:=Q3.o w4 hg1)
        | (refine aU gX rfl _ _ rfl w1.heap.size _ (l.take j) rfl ho1 _ [s] rfl hr1 hq2.o hB1.size ?_;intro v2 w5 ho2 hg2 _;have hB2:=Below.dN hB1 ho1 hg2 aW hB1.size;have hr2:=Uj.o w5 hB2)
        | (refine aU gX rfl _ _ rfl w1.heap.size _ (l.take j) rfl (ho1.alloc _) _ [s] rfl (RS.one s #[.string s] rfl w4 9) hq2.o (hB1.alloc hB1.size _).size ?_;intro v2 w5 ho2 hg2 _;have hB2:=Below.dN (hB1.alloc hB1.size _) (ho1.alloc _) hg2 aW (hB1.alloc hB1.size _).size;have hr2:=Uj.o w5 hB2)
        | (refine aU gX rfl _ _ rfl w1.heap.size _ (l.take j ++ [s]) rfl ho2 _ (l.drop j) rfl hr2 hq3.o hB2.size ?_;intro v3 w6 ho3 hg3 _;have hB3:=Below.dN hB2 ho2 hg3 aW hB2.size))
      all_goals (
       have jJ:=af ho3;have B:=af (B1.o.trans (hB3.mono B1.o.size));clear ho3 hg3 hB3 ho2 hg2 hB2 hr2 ho1 hg1 hB1
       try clear hr1
       go_wp2_with fail;go_ret2;rw [HF.o];exact ⟨_,rfl,by have:=jJ.o.mono B1.o.size;rw [List.append_assoc] at this;exact this,B.o⟩)
    have hjn:j=l.length:=by omega
    have HP:=af (wu l s j hj hall.o (fun h=>by omega));have xQ:=af (show ¬ l[gz l s]?=some s by rw [HP.o,hjn];simp);have Hx:=af (show jS l s=(if l[gz l s]?=some s then (l,true) else if 6<=l.length then (l,false) else (l.take (gz l s) ++ s :: l.drop (gz l s),true)) from rfl)
    by_cases h6:6<=l.length
    ·have HF:=af (show jS l s=(l,false) by rw [Hx.o,if_neg xQ.o,if_pos (by omega)]);have O1:=af (show OS df 1 9 (w1.alloc (.cells #[] 9)) w1.heap.size (A0 (some ⟨w1.heap.size,0,none⟩) 0 0) [] from OS.d_ aW);have H2:=af (RS.below H.o (Below.lit (Below.refl w1.heap.size w1) (.cells #[] 9)));have hx:=af (show ([]:List Kx.Str).length+l.length<=1099511627776 by simp;omega);clear Hx xQ;go_wp2_with (at_builtin;refine aV gX rfl _ _ rfl w1.heap.size _ [] rfl O1.o _ l rfl H2.o hx.o (by simp) ?_;intro v' w4 iV hg4 hx4;clear hx4;have kH:=af (show OS df 1 9 w4 w1.heap.size v' l from iV);have B4:=af (Below.dN (Below.lit B1.o (.cells #[] 9)) O1.o hg4 B1.o.size (by simp;exact A4 B1.o.size));clear iV hg4);go_wp2_with fail;go_ret2;rw [HF.o];exact ⟨_,rfl,kH.o.mono B1.o.size,B4.o⟩
    ·
     rcases H.o.2 with ⟨hnil,a',cap',ev,hcm,hnone⟩ | ⟨b,off,cap',ev,_,hcm,_,_⟩
     ·obtain ⟨rfl,hl0,rfl⟩:=Za ev;clear ev;subst hnil;simp only [List.length_nil] at hjn;subst hjn;have HF:=af (show jS [] s=([s],true) from rfl);clear Hx xQ HP hall h6;have hw0:RS df 1 w1 (A0 a 0 cap) ([]:List Kx.Str):=H.o;obtain ⟨⟨L1,R1,C1⟩,⟨L2,R2,C2⟩,⟨L3,R3,C3⟩,Q2,Q3⟩:=La (e:=9) w1 s #[.string s] rfl hw0;have hq1:=af (show ([]:List Kx.Str).length+([]:List Kx.Str).length<=1099511627776 by simp);have hq2:=af (show ([]:List Kx.Str).length+[s].length<=1099511627776 by simp);have hq3:=af (show [s].length+([]:List Kx.Str).length<=1099511627776 by simp);have HE:=af (show ∀ W A c,c<=maxLen->(A=none->c=0)->RS df 1 W (A0 A 0 c) [] from fun W A c h1 h2=>⟨by simp,.inl ⟨rfl,A,c,rfl,h1,h2⟩⟩)
      clear hw0
      cases a with
      | none =>
       have hc0:=hnone rfl;subst hc0;go_wp2_with fail;go_region_held3 (fun _=>True)
        (trivial)
        (first
         | (refine aU gX rfl _ _ rfl w1.heap.size _ [] rfl L1.o _ [] rfl R1.o hq1.o C1.o.size ?_;intro v1 w4 ho1 hg1 _;have hB1:=Below.dN C1.o L1.o hg1 aW C1.o.size)
         | (refine aU gX rfl _ _ rfl w1.heap.size _ [] rfl L2.o _ [] rfl R2.o hq1.o C2.o.size ?_;intro v1 w4 ho1 hg1 _;have hB1:=Below.dN C2.o L2.o hg1 aW C2.o.size;have hr1:=Q2.o w4 hg1)
         | (refine aU gX rfl _ _ rfl w1.heap.size _ [] rfl L3.o _ [] rfl R3.o hq1.o C3.o.size ?_;intro v1 w4 ho1 hg1 _;have hB1:=Below.dN C3.o L3.o hg1 aW C3.o.size;have hr1:=Q3.o w4 hg1)
         | (refine aU gX rfl _ _ rfl w1.heap.size _ [] rfl ho1 _ [s] rfl hr1 hq2.o hB1.size ?_;intro v2 w5 ho2 hg2 _;have hB2:=Below.dN hB1 ho1 hg2 aW hB1.size)
         | (refine aU gX rfl _ _ rfl w1.heap.size _ [] rfl (ho1.alloc _) _ [s] rfl (RS.one s #[.string s] rfl w4 9) hq2.o (hB1.alloc hB1.size _).size ?_;intro v2 w5 ho2 hg2 _;have hB2:=Below.dN (hB1.alloc hB1.size _) (ho1.alloc _) hg2 aW (hB1.alloc hB1.size _).size)
         | (refine aU gX rfl _ _ rfl w1.heap.size _ [s] rfl ho2 _ [] rfl (HE.o _ _ _ (Nat.zero_le _) (fun _=>rfl)) hq3.o hB2.size ?_;intro v3 w6 ho3 hg3 _;have hB3:=Below.dN hB2 ho2 hg3 aW hB2.size))
       all_goals (
        have jJ:=af ho3;have B:=af (B1.o.trans (hB3.mono B1.o.size));clear ho3 hg3 hB3 ho2 hg2 hB2 ho1 hg1 hB1
        try clear hr1
        go_wp2_with fail;go_ret2;rw [HF.o];exact ⟨_,rfl,jJ.o.mono B1.o.size,B.o⟩)
      | some ad =>
       go_wp2_with fail;go_region_held3 (fun _=>True)
        (trivial)
        (first
         | (refine aU gX rfl _ _ rfl w1.heap.size _ [] rfl L1.o _ [] rfl R1.o hq1.o C1.o.size ?_;intro v1 w4 ho1 hg1 _;have hB1:=Below.dN C1.o L1.o hg1 aW C1.o.size)
         | (refine aU gX rfl _ _ rfl w1.heap.size _ [] rfl L2.o _ [] rfl R2.o hq1.o C2.o.size ?_;intro v1 w4 ho1 hg1 _;have hB1:=Below.dN C2.o L2.o hg1 aW C2.o.size;have hr1:=Q2.o w4 hg1)
         | (refine aU gX rfl _ _ rfl w1.heap.size _ [] rfl L3.o _ [] rfl R3.o hq1.o C3.o.size ?_;intro v1 w4 ho1 hg1 _;have hB1:=Below.dN C3.o L3.o hg1 aW C3.o.size;have hr1:=Q3.o w4 hg1)
         | (refine aU gX rfl _ _ rfl w1.heap.size _ [] rfl ho1 _ [s] rfl hr1 hq2.o hB1.size ?_;intro v2 w5 ho2 hg2 _;have hB2:=Below.dN hB1 ho1 hg2 aW hB1.size)
         | (refine aU gX rfl _ _ rfl w1.heap.size _ [] rfl (ho1.alloc _) _ [s] rfl (RS.one s #[.string s] rfl w4 9) hq2.o (hB1.alloc hB1.size _).size ?_;intro v2 w5 ho2 hg2 _;have hB2:=Below.dN (hB1.alloc hB1.size _) (ho1.alloc _) hg2 aW (hB1.alloc hB1.size _).size)
         | (refine aU gX rfl _ _ rfl w1.heap.size _ [s] rfl ho2 _ [] rfl (HE.o _ _ _ hcm (fun h=>by cases h)) hq3.o hB2.size ?_;intro v3 w6 ho3 hg3 _;have hB3:=Below.dN hB2 ho2 hg3 aW hB2.size))
       all_goals (
        have jJ:=af ho3;have B:=af (B1.o.trans (hB3.mono B1.o.size));clear ho3 hg3 hB3 ho2 hg2 hB2 ho1 hg1 hB1
        try clear hr1
        go_wp2_with fail;go_ret2;rw [HF.o];exact ⟨_,rfl,jJ.o.mono B1.o.size,B.o⟩)
     obtain ⟨rfl,_,rfl⟩:=Za ev;clear ev;have hcapm:=hcm;subst hjn;have HF:=af (show jS l s=(l.take l.length ++ s :: l.drop l.length,true) by rw [Hx.o,if_neg xQ.o,if_neg h6,HP.o]);have Hw1:=af (RS.take H.o l.length hj);obtain ⟨A,hA,Ui⟩:∃ A:Option Addr,(if cap=l.length then some (⟨b,off,none⟩:Addr) else some ⟨b,off+l.length,none⟩)=A/\TI (RS df 1 w1 (A0 A 0 (cap - l.length)) (l.drop l.length)):=⟨_,rfl,af ⟨by simp,.inl ⟨List.drop_eq_nil_of_le (by omega),_,_,rfl,by have:=hcapm;omega,fun h=>by split at h <;> cases h⟩⟩⟩
     have Uj:=af (fun (W:World) (hb:Below w1.heap.size w1 W)=>RS.below Ui.o hb)
     obtain ⟨⟨L1,R1,C1⟩,⟨L2,R2,C2⟩,⟨L3,R3,C3⟩,Q2,Q3⟩:=La (e:=9) w1 s #[.string s] rfl Hw1.o;have XI:l.length<=6:=Zg;have htk:(l.take l.length).length=l.length:=by rw [A3];omega
     have hq1:=af (show ([]:List Kx.Str).length+(l.take l.length).length<=1099511627776 by rw [htk];simp;omega);have hq2:=af (show (l.take l.length).length+[s].length<=1099511627776 by rw [htk];simp;omega);have hq3:=af (show (l.take l.length ++ [s]).length+(l.drop l.length).length<=1099511627776 by rw [A1,htk,List.length_drop];simp;omega);have Q5:(l.length:Int)<=(cap:Int):=by omega
     have hjL:(l.length:Int)<=(l.length:Int):=by omega
     have hj0:(0:Int)<=(l.length:Int):=by omega
     have hlc:(l.length:Int)<=(cap:Int):=by omega
     have h6b:decide ((l.length:Int)≥6)=false:=by simp;omega
     clear Hx xQ HP htk hall Ui;go_wp2_with fail;go_region_held3 (fun _=>True)
      (trivial)
      (first
       | (refine aU gX rfl _ _ rfl w1.heap.size _ [] rfl L1.o _ (l.take l.length) rfl R1.o hq1.o C1.o.size ?_;intro v1 w4 ho1 hg1 _;rw [A2] at ho1;have hB1:=Below.dN C1.o L1.o hg1 aW C1.o.size)
       | (refine aU gX rfl _ _ rfl w1.heap.size _ [] rfl L2.o _ (l.take l.length) rfl R2.o hq1.o C2.o.size ?_;intro v1 w4 ho1 hg1 _;rw [A2] at ho1;have hB1:=Below.dN C2.o L2.o hg1 aW C2.o.size;have hr1:=Q2.o w4 hg1)
       | (refine aU gX rfl _ _ rfl w1.heap.size _ [] rfl L3.o _ (l.take l.length) rfl R3.o hq1.o C3.o.size ?_;intro v1 w4 ho1 hg1 _;rw [A2] at ho1;have hB1:=Below.dN C3.o L3.o hg1 aW C3.o.size;have hr1:=Q3.o w4 hg1)
       | (refine aU gX rfl _ _ rfl w1.heap.size _ (l.take l.length) rfl ho1 _ [s] rfl hr1 hq2.o hB1.size ?_;intro v2 w5 ho2 hg2 _;have hB2:=Below.dN hB1 ho1 hg2 aW hB1.size;have hr2:=Uj.o w5 hB2)
       | (refine aU gX rfl _ _ rfl w1.heap.size _ (l.take l.length) rfl (ho1.alloc _) _ [s] rfl (RS.one s #[.string s] rfl w4 9) hq2.o (hB1.alloc hB1.size _).size ?_;intro v2 w5 ho2 hg2 _;have hB2:=Below.dN (hB1.alloc hB1.size _) (ho1.alloc _) hg2 aW (hB1.alloc hB1.size _).size;have hr2:=Uj.o w5 hB2)
       | (refine aU gX rfl _ _ rfl w1.heap.size _ (l.take l.length ++ [s]) rfl ho2 _ (l.drop l.length) rfl hr2 hq3.o hB2.size ?_;intro v3 w6 ho3 hg3 _;have hB3:=Below.dN hB2 ho2 hg3 aW hB2.size))
     all_goals (
      have jJ:=af ho3;have B:=af (B1.o.trans (hB3.mono B1.o.size));clear ho3 hg3 hB3 ho2 hg2 hB2 hr2 ho1 hg1 hB1
      try clear hr1
      go_wp2_with fail;go_ret2;rw [HF.o];exact ⟨_,rfl,by have:=jJ.o.mono B1.o.size;rw [List.append_assoc] at this;exact this,B.o⟩)
end Go.Proofs.YthcmmoibpgcgaaaGreatDoor
