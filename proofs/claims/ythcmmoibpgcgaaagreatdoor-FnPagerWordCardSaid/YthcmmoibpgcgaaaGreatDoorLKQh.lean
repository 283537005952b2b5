/- What the laws of this kind share. (joined by joinh.py) -/
import Derived.Test.YthcmmoibpgcgaaaGreatDoorKDf
import Derived.Test.YthcmmoibpgcgaaaGreatDoorKI12
import Derived.Test.YthcmmoibpgcgaaaGreatDoorWalkG
set_option linter.all false
set_option maxHeartbeats 16000000
set_option maxRecDepth 100000
open Go.Proofs.Tryz
namespace Go.Proofs.YthcmmoibpgcgaaaGreatDoor
end Go.Proofs.YthcmmoibpgcgaaaGreatDoor
namespace Kx

def Uo (p:aH) (ad:Nat):Int:=
 let x:=aA p.pages (ad / 4)
 if x.wh=1 then word p.k.mem x.at_.toNat (ad % 4) else if x.wh=2 then word p.swap x.at_.toNat (ad % 4) else 0
def Ro (p:aH) (ad:Int):Int:=if !bI p||!bK ad 0 63 then -1 else Uo p ad.toNat

end Kx

namespace Kx

theorem Ls {l:List Str} {s x:Str}:x ∈ (jS l s).1->x ∈ l\/x=s:=by
 rcases tN l s with ⟨e,_⟩ | e | ⟨e,hl,hn⟩ <;> rw [e]
 ·exact .inl
 ·exact .inl
 intro hx;simp only [List.mem_append,List.mem_cons] at hx;rcases hx with hx | rfl | hx
 ·exact .inl (List.mem_of_mem_take hx)
 ·exact .inr rfl
 exact .inl (List.mem_of_mem_drop hx)
end Kx

namespace Kx

def Bg (p:aH) (ad:Int):aH×Int×Bool:=
 if !bI p||!bK ad 0 63 then (aH.zero,0,false)
 else let r:=gq p (ad / 4)
  if !r.2 then (r.1,0,false) else ({ r.1 with k:=(bJ r.1.k 10 ad 0 0).1 },(bJ r.1.k 10 ad 0 0).2.1,true)
def QM (p:aH) (c:Call):aH×Int:=({ p with k:=(cO p.k c).1 },(cO p.k c).2.2)
end Kx

namespace Kx

def jZ (k k':Kernel) (g:Nat):Prop:=
 row k'.mem g=row k.mem g/\(inf k'.ag g).kind=(inf k.ag g).kind/\(inf k'.ag g).guard=(inf k.ag g).guard/\(inf k'.ag g).refs<=(inf k.ag g).refs
theorem jZ.refl (k:Kernel) (g:Nat):jZ k k g:=⟨rfl,rfl,rfl,Int.le_refl _⟩
theorem jZ.of {k k':Kernel} {g:Nat} (h1:row k'.mem g=row k.mem g) (h2:inf k'.ag g=inf k.ag g):jZ k k' g:=⟨h1,by rw [h2],by rw [h2],by rw [h2];exact Int.le_refl _⟩

theorem CS (k:Kernel) (c:Call) (h0:(pinned k c).2=0) :
  ∃ kd d,bK c.a 0 11=true/\(pinned k c).1=bD (setKind k.ag c.a.toNat kd) (ax (row k.mem c.a.toNat)) d/\((c.kind=4/\kd=c.b/\d=1/\rowOk k.mem k.ag c.a.toNat c.b (au k.ah c.env.toNat).aB=true)\/(d=-1/\kd=1/\aX (inf k.ag c.a.toNat).kind=true)):=by
 obtain ⟨l',hp⟩:∃ l',Kx.pinned k c=(l',0):=⟨_,Prod.ext rfl h0⟩;rw [hp];unfold Kx.pinned at hp;split at hp
 ·rename_i h4
  obtain ⟨h0,h12,_,_,hkd,hk1,hr0,hro,hok,rfl⟩:=Ep hp;exact ⟨c.b,1,ay.2 ⟨h0,by omega⟩,rfl,.inl ⟨h4,rfl,rfl,hro⟩⟩
 obtain ⟨h0,h12,hkd,hr0,hok,rfl⟩:=zo hp;exact ⟨1,-1,ay.2 ⟨h0,by omega⟩,rfl,.inr ⟨rfl,rfl,hkd⟩⟩

section
variable {k:Kernel} (h:Ok k) {c:Call} {g:Nat} (he:bK c.env 0 2=true) (hk:(inf k.ag g).kind≠0) (hm:jQ k c.env (inf k.ag g).guard=false)
include h hk in
theorem Eu:jZ k (take k c).1 g:=by
 unfold Kx.take;split
 ·exact .refl k g
 split
 ·exact .refl k g
 split
 ·exact .refl k g
 rename_i f hf
 obtain ⟨hf1,hf2⟩:=wE hf;have hne:g≠f:=fun e=>hk (e ▸ hf2)
 refine .of ?_ ?_
 ·show row (k.mem.set f _) g=_
  rw [rC (by rw [h.m12,<-h.i12];exact hf1),if_neg hne]
 show inf (k.ag.set f _) g=_
 rw [nJ hf1,if_neg hne]
include hm in
theorem rE (Ew:jQ k c.env (inf k.ag c.a.toNat).guard=true):g≠c.a.toNat:=fun e=>by subst e;rw [hm] at Ew;cases Ew
include h hm in
theorem Ey:jZ k (give k c).1 g:=by
 unfold Kx.give;split
 ·exact .refl k g
 rename_i hc
 split
 ·exact .refl k g
 obtain ⟨h0,h12,hk0,Ew,hk1,_⟩:=fQ (Classical.not_not.1 hc);exact .of rfl (by show inf (k.ag.set _ _) g=_;rw [nJ (by rw [h.i12];exact h12),if_neg (rE hm Ew)])
include h hm in
theorem Ez:jZ k (oP k c).1 g:=by
 unfold Kx.oP;split
 ·exact .refl k g
 rename_i hc
 split
 ·exact .refl k g
 obtain ⟨h0,h12,hk0,Ew,hk1,_⟩:=fQ (Classical.not_not.1 hc);exact .of (by show row (bG _ _ _ _) g=_;rw [iH (by rw [h.m12];exact h12),if_neg (rE hm Ew)]) rfl
include h hm in
theorem Gg (he:bK c.env 0 2=true):jZ k (lu k c).1 g:=by
 unfold Kx.lu;split
 ·exact .refl k g
 rename_i h1
 split
 ·exact .refl k g
 rename_i h2
 split
 ·exact .refl k g
 rename_i h3
 split
 ·exact .refl k g
 rename_i h4
 simp only [Bool.not_eq_true',Bool.or_eq_true,not_or,Bool.not_eq_false,Bool.and_eq_true,not_and,beq_iff_eq] at h1;have h5:(pinned k c).2=0:=by rcases uO h c h1.1.1 he h1.2 with h5 | h5 | h5 <;> simp_all
 have Ew:jQ k c.env (inf k.ag c.a.toNat).guard=true:=by simpa using h2
 obtain ⟨kd,d,ha,hl,hcase⟩:=CS k c h5;have hne:=rE hm Ew;rw [ay] at ha;have hin:=tJ (g:=g) (kd:=kd) (d:=d) (f:=c.a.toNat) (fs:=ax (row k.mem c.a.toNat)) h.i12 (by omega) (fun x hx=>kE hx);refine ⟨rfl,?_,?_,?_⟩
 ·show (inf (pinned k c).1 g).kind=_
  rw [hl,hin];simp [hne]
 ·show (inf (pinned k c).1 g).guard=_
  rw [hl,hin]
 show (inf (pinned k c).1 g).refs<=_
 rw [hl,hin];simp only;rcases hcase with ⟨_,rfl,rfl,hro⟩ | ⟨rfl,rfl,_⟩
 ·have:(ax (row k.mem c.a.toNat)).count g=0:=by
   refine List.count_eq_zero.2 fun hg=>?_
   obtain ⟨w,hw,b,hen⟩:=iL.1 hg;rcases wC.1 hro w hw with h0 | ⟨g',b',he',_,_,hmay⟩
   ·subst h0;rw [g_] at hen;cases hen
   rw [hen] at he';simp only [Option.some.injEq,Prod.mk.injEq] at he';obtain ⟨rfl,rfl⟩:=he';unfold jQ at hm;rw [hm] at hmay;cases hmay
  rw [this];simp
 omega
theorem Aa {k:Kernel} {c:Call} (hd:lJ k c=false) {f:Nat} {b:Bool} (hen:entry c.c=some (f,b)):jQ k c.env (inf k.ag f).guard=true:=by
 unfold lJ at hd;rw [hen] at hd;simpa using hd
include h hm in
theorem Gh:jZ k (lQ k c).1 g:=by
 unfold Kx.lQ;split
 ·exact .refl k g
 rename_i hc
 split
 ·exact .refl k g
 split
 ·exact .refl k g
 split
 ·exact .refl k g
 rename_i hd
 obtain ⟨h0,h12,hk0,Ew,_,hk⟩:=fQ (Classical.not_not.1 hc);have hne:=rE hm Ew;have hin:inf (aP (aP k.ag (word k.mem c.a.toNat c.b.toNat) (-1)) c.c 1) g={ inf k.ag g with refs:=(inf k.ag g).refs+-1*(nm (word k.mem c.a.toNat c.b.toNat) g:Int)+1*(nm c.c g:Int) }:=by
  rw [iI (by rw [fH,h.i12]),iI h.i12]
 have hn:nm c.c g=0:=by
  rcases Nat.eq_zero_or_pos (nm c.c g) with h0 | h0
  ·exact h0
  have h2:nm c.c g=1:=by unfold nm at h0 ⊢;split at h0 <;> simp_all
  obtain ⟨b',hen⟩:=nY.1 h2;have:=Aa (by simpa using hd) hen;rw [hm] at this;cases this
 refine ⟨?_,?_,?_,?_⟩
 ·show row (bG _ _ _ _) g=_;rw [iH (by rw [h.m12];exact h12),if_neg hne]
 ·show (inf (aP (aP _ _ _) _ _) g).kind=_;rw [hin]
 ·show (inf (aP (aP _ _ _) _ _) g).guard=_;rw [hin]
 show (inf (aP (aP _ _ _) _ _) g).refs<=_;rw [hin,hn];simp only;omega
theorem rY {l:List aG} {f g:Nat} {d:Int} (hf:f<l.length) (hd:f=g->d<=0):(inf (aF l f d) g).kind=(inf l g).kind/\(inf (aF l f d) g).guard=(inf l g).guard/\(inf (aF l f d) g).refs<=(inf l g).refs:=by
 rw [lU hf];split
 ·rename_i q;subst q;have:=hd rfl;exact ⟨rfl,rfl,by simp only;omega⟩
 exact ⟨rfl,rfl,Int.le_refl _⟩
include h hm in
theorem EC (he:bK c.env 0 2=true):jZ k (mM k c).1 g:=by
 unfold Kx.mM;split
 ·exact .refl k g
 rename_i h1
 split
 ·exact .refl k g
 rename_i h2
 rw [ay] at he;have he3:c.env.toNat<3:=by omega
 simp only [Bool.not_eq_true',Bool.not_eq_false,List.all_eq_true,allowed] at h2;have ha:c.a=-1\/(0<=c.a/\c.a<=11):=by
  by_cases h0:c.a=-1
  ·exact .inl h0
  right
  simp only [h0,ne_eq,not_false_eq_true,true_and,Bool.or_eq_true,Bool.not_eq_true',bne_iff_ne,not_or,Bool.not_eq_false,Classical.not_not,ay] at h1;exact h1.1
 have hro:=h.root _ he3;generalize (au k.ah c.env.toNat).root=old at hro;have hl1:∀ l1,l1=(if 0<=old then aF k.ag old.toNat (-1) else k.ag)->l1.length=12/\(inf l1 g).kind=(inf k.ag g).kind/\(inf l1 g).guard=(inf k.ag g).guard/\(inf l1 g).refs<=(inf k.ag g).refs:=by
  rintro l1 rfl;split
  ·have:=rY (l:=k.ag) (f:=old.toNat) (g:=g) (d:=-1) (by rw [h.i12];omega) (by omega)
   exact ⟨by rw [fD,h.i12],this⟩
  exact ⟨h.i12,rfl,rfl,Int.le_refl _⟩
 simp only
 generalize (if 0<=old then aF k.ag old.toNat (-1) else k.ag)=l1 at hl1;obtain ⟨q1,q2,q3,q4⟩:=hl1 l1 rfl
 by_cases h0:0<=c.a
 ·simp only [if_pos h0];have:=rY (l:=l1) (f:=c.a.toNat) (g:=g) (d:=1) (by rw [q1];omega) (fun e=>by
   have Ew:=h2 c.a.toNat (iY.2 ⟨h0,by omega,.inl rfl⟩);rw [e] at Ew;unfold jQ at hm;rw [hm] at Ew;cases Ew)
  exact ⟨rfl,this.1.trans q2,this.2.1.trans q3,Int.le_trans this.2.2 q4⟩
 simp only [if_neg h0];exact ⟨rfl,q2,q3,q4⟩
theorem Ac:jZ k (f_ k c).1 g:=by
 unfold Kx.f_;split
 ·exact .refl k g
 split
 ·exact .refl k g
 split
 ·split
  ·exact .of rfl rfl
  exact .refl k g
 split
 ·exact .refl k g
 exact .of rfl rfl
include h hm in
theorem Ad (he:bK c.env 0 2=true):jZ k (access k c).1 g:=by
 rcases uS h he with e | ⟨ca,e | ⟨f,a,w,hf,_,hr,e⟩⟩ <;> rw [e]
 ·exact .refl k g
 ·exact .of rfl rfl
 refine .of ?_ rfl;show row (bG _ _ _ _) g=_;rw [ay] at he;have hne:g≠f:=fun e=>by
  subst e;have Ew:=h.all c.env.toNat (by omega) g hr;unfold jQ at hm;rw [hm] at Ew;cases Ew
 rw [iH (by rw [h.m12];exact hf),if_neg hne]
include h hk hm he in
theorem QN:jZ k (cO k c).1 g:=by
 unfold Kx.cO;split
 ·exact .refl k g
 unfold Kx.qm;split
 ·exact Eu h hk
 split
 ·exact Ey h hm
 split
 ·exact Ez h hm
 split
 ·exact Gg h hm he
 split
 ·exact Gh h hm
 split
 ·exact EC h hm he
 split
 ·exact Ac
 split
 ·exact Ad h hm he
 exact .refl k g
end

theorem ED {k:Kernel} (h3:k.ah.length=3) {c:Call} (he:bK c.env 0 2=true) {e:Nat} (hne:(e:Int)≠c.env):(au (cO k c).1.ah e).root=(au k.ah e).root:=by
 rw [ay] at he;have hrt:∀ r,(au (dE k.ah c.env.toNat r) e).root=(au k.ah e).root:=fun r=>by
  unfold dE;rw [mr (by omega),if_neg (by omega)]
 have hrg:∀ (a:Nat) r,a<3->(au (aY k.ah a r) e).root=(au k.ah e).root:=fun a r ha=>by
  unfold aY;rw [mr (by omega)];split
  ·rename_i q;rw [q]
  rfl
 unfold Kx.cO;split
 ·rfl
 unfold Kx.qm;split
 ·unfold Kx.take;repeat' split
  all_goals rfl
 split
 ·unfold Kx.give;repeat' split
  all_goals rfl
 split
 ·unfold Kx.oP;repeat' split
  all_goals rfl
 split
 ·unfold Kx.lu;repeat' split
  all_goals rfl
 split
 ·unfold Kx.lQ;repeat' split
  all_goals rfl
 split
 ·unfold Kx.mM;split
  ·rfl
  split
  ·rfl
  exact hrt _
 split
 ·unfold Kx.f_;split
  ·rfl
  rename_i h1
  simp only [Bool.not_eq_true',Bool.or_eq_true,not_or,Bool.not_eq_false,ay] at h1;split
  ·rfl
  split
  ·split
   ·exact hrg _ _ (by omega)
   rfl
  split
  ·rfl
  exact hrg _ _ (by omega)
 split
 ·unfold Kx.access;split
  ·rfl
  split
  repeat' split
  all_goals rfl
 rfl
theorem Ae {k:Kernel} (h3:k.ah.length=3) {c:Call} (he:bK c.env 0 2=true) (h8:c.kind≠8) (h9:c.kind≠9) {e:Nat}:(au (cO k c).1.ah e).aB=(au k.ah e).aB:=by
 rw [ay] at he;have hrt:∀ r,(au (dE k.ah c.env.toNat r) e).aB=(au k.ah e).aB:=fun r=>by
  unfold dE;rw [mr (by omega)];split
  ·rename_i q;rw [q]
  rfl
 unfold Kx.cO;split
 ·rfl
 unfold Kx.qm;split
 ·unfold Kx.take;repeat' split
  all_goals rfl
 split
 ·unfold Kx.give;repeat' split
  all_goals rfl
 split
 ·unfold Kx.oP;repeat' split
  all_goals rfl
 split
 ·unfold Kx.lu;repeat' split
  all_goals rfl
 split
 ·unfold Kx.lQ;repeat' split
  all_goals rfl
 split
 ·unfold Kx.mM;split
  ·rfl
  split
  ·rfl
  exact hrt _
 split
 ·rename_i h;omega
 split
 ·unfold Kx.access;split
  ·rfl
  split
  repeat' split
  all_goals rfl
 rfl

end Kx

namespace Kx


theorem Bh {a b c:Str} (h:pre a b=true) (h':pre b c=true):pre a c=true:=by
 unfold pre at *;rw [List.isPrefixOf_iff_prefix] at *;exact h.trans h'
theorem I9 {l:List Str} {a b:Str} (h:may l a=true) (h':pre a b=true):may l b=true:=by
 unfold may at *;rw [List.any_eq_true] at *;obtain ⟨x,hx,hp⟩:=h;exact ⟨x,hx,Bh hp h'⟩

theorem uT {k:Kernel} (h:Ok k) {c:Call} (he:bK c.env 0 2=true) (hn:jQ k c.env sA=false) (e:Nat):may (au (cO k c).1.ah e).aB sA=may (au k.ah e).aB sA:=by
 by_cases Zp:c.kind≠8/\c.kind≠9
 ·rw [Ae h.e3 he Zp.1 Zp.2]
 have key:∀ name,jQ k c.env name=true->pre name sA=false:=fun name hm=>by
  cases hp:pre name sA
  ·rfl
  unfold jQ at hm hn;rw [I9 hm hp] at hn;cases hn
 unfold cO;split
 ·rfl
 have hd:qm k c=f_ k c:=by
  unfold qm;rw [if_neg (by omega),if_neg (by omega),if_neg (by omega),if_neg (by omega),if_neg (by omega),if_neg (by omega),if_pos (by omega)]
 rw [hd];unfold f_;split
 ·rfl
 rename_i h1
 simp only [Bool.not_eq_true',Bool.or_eq_true,not_or,Bool.not_eq_false,ay] at h1;split
 ·rfl
 rename_i h2
 have hpre:=key c.name (by simpa using h2);have PX:c.a.toNat<k.ah.length:=by rw [h.e3];omega
 have Zq:∀ r,may r sA=may (au k.ah c.a.toNat).aB sA->may (au (aY k.ah c.a.toNat r) e).aB sA=may (au k.ah e).aB sA:=fun r hr=>by
  unfold aY;rw [mr PX];split
  ·rename_i q;rw [q];exact hr
  rfl
 split
 ·split
  ·refine Zq _ ?_;rw [Bool.eq_iff_iff];constructor
   ·intro hm;unfold may at hm ⊢;rw [List.any_eq_true] at hm ⊢;obtain ⟨x,hx,hp⟩:=hm;rcases Ls hx with hx | rfl
    ·exact ⟨x,hx,hp⟩
    rw [hpre] at hp;cases hp
   exact CQ fun x hx=>Et hx
  rfl
 split
 ·rfl
 refine Zq _ ?_;rw [Bool.eq_iff_iff];constructor
 ·exact CQ fun x hx=>(List.mem_filter.1 hx).1
 intro hm;unfold may at hm ⊢;rw [List.any_eq_true] at hm ⊢;obtain ⟨x,hx,hp⟩:=hm;refine ⟨x,List.mem_filter.2 ⟨hx,?_⟩,hp⟩
 cases hq:pre c.name x
 ·rfl
 rw [Bh hq hp] at hpre;cases hpre
theorem rZ.other {p:aH} (h:rZ p) {c:Call} (he:bK c.env 1 2=true):rZ (QM p c).1:=by
 have he1:=ay.1 he;have he2:bK c.env 0 2=true:=ay.2 ⟨by omega,he1.2⟩;have hl:=h.low;have hn:jQ p.k c.env sA=false:=hl.CU c.env.toNat (by omega) (by omega);have hok:=hl.ok.cO c he2;have hsp:∀ g,1<=(inf p.k.ag g).kind->(inf p.k.ag g).guard=sA->jZ p.k (cO p.k c).1 g:=fun g h1 h2=>QN hl.ok he2 (by omega) (by rw [h2];exact hn)
 have hrt:(au (cO p.k c).1.ah 0).root=(au p.k.ah 0).root:=ED hl.ok.e3 he2 (by omega);have hroot:=hsp (au p.k.ah 0).root.toNat (by rw [hl.top.1];omega) hl.rg;have hlow:∀ i,i<4->jZ p.k (cO p.k c).1 (p.low.getD i 0).toNat:=fun i hi=>hsp _ (by rw [(hl.kind hi).1];omega) (hl.lg i hi)
 have hk3:aX (inf (cO p.k c).1.ag (au p.k.ah 0).root.toNat).kind=true:=by rw [hroot.2.1,hl.top.1];rfl
 have hk2:∀ i,i<4->aX (inf (cO p.k c).1.ag (p.low.getD i 0).toNat).kind=true:=fun i hi=>by rw [(hlow i hi).2.1,(hl.kind hi).1];rfl
 have hlow':Low (cO p.k c).1 p.low:=by
  refine hl.keep hok hrt (by rw [uT hl.ok he2 hn];exact hl.me) (fun e h1 h2=>by rw [uT hl.ok he2 hn];exact hl.CU e h1 h2) ?_ hroot.1;rintro g (rfl | ⟨i,hi,rfl⟩)
  ·refine ⟨hroot.2.2.1,?_⟩;have h1:=hok.qN (e:=0) (by omega) (by rw [hrt];exact hl.r0);rw [hrt] at h1;have h2:=hroot.2.2.2;have h3:=hl.r1;omega
  refine ⟨(hlow i hi).2.2.1,?_⟩;have h1:=hok.iG (t:=(au p.k.ah 0).root.toNat) (g:=(p.low.getD i 0).toNat) hl.top.2 hk3 (by rw [hroot.1];exact hl.named hi);have h2:=(hlow i hi).2.2.2;have h3:=hl.l1 i hi;omega
 refine ⟨hlow',h.swap,h.p16,h.slot,fun n hn=>?_,h.hand,h.lim,h.cnt⟩
 have hpw:pw (cO p.k c).1 p.low n=pw p.k p.low n:=by unfold pw word;rw [(hlow (n / 4) (by omega)).1]
 show At (cO p.k c).1 p.low p.swap n (aA p.pages n)
 rcases h.page n hn with h1 | ⟨h1,h2,h3,h4,h5,h6⟩ | h1
 ·exact .inl (by rw [hpw];exact h1)
 ·have hen:entry (pw p.k p.low n)=some ((aA p.pages n).at_.toNat,true):=by rw [h4];exact jf (by omega) true
  have hd:=hl.data hn hen;have hs:=hsp (aA p.pages n).at_.toNat (by omega) h5;refine .inr (.inl ⟨h1,h2,h3,by rw [hpw];exact h4,hs.2.2.1.trans h5,?_⟩);have q1:=hok.iG (t:=(p.low.getD (n / 4) 0).toNat) (g:=(aA p.pages n).at_.toNat) (hl.kind (i:=n / 4) (by omega)).2 (hk2 _ (by omega)) (iP (i:=n % 4) (b:=true) (by
   show entry (pw (cO p.k c).1 p.low n)=_
   rw [hpw];exact hen))
  have q2:=hs.2.2.2;omega
 exact .inr (.inr (by rw [hpw];exact h1))

end Kx

namespace Kx


end Kx

namespace Kx

theorem rZ.load {p:aH} (h:rZ p) {ad:Int} (ha:bK ad 0 63=true):rZ (Bg p ad).1:=by
 have ht:=h.touched (n:=ad / 4) (by rw [ay] at ha ⊢;omega);unfold Bg;rw [iD.2 h,ha];simp only [Bool.not_true,Bool.or_self,Bool.false_eq_true,if_false];split
 ·exact ht
 exact ht.acc (.inl rfl) rfl
end Kx

namespace Go.Proofs.YthcmmoibpgcgaaaGreatDoor
open Go.RowKit Kx

theorem RM.at4 {w:World} {v:Value} {m:List (List Int)} (h:RM w v m) {f a:Nat} (hf:f<m.length) (h4:(Kx.row m f).length=4) (ha:a<4) :
  ∃ b off cap b' off' cap',v=.slice (some ⟨b,off,none⟩) m.length cap/\w.cell? ⟨b,off+f,none⟩=some (.slice (some ⟨b',off',none⟩) 4 cap')/\w.cell? ⟨b',off'+a,none⟩=some (I_ (Kx.word m f a)):=by
 obtain ⟨b,off,cap,u,rfl,_,hc,hr⟩:=h.at (k:=f) hf;obtain ⟨b',off',cap',rfl,_,hc'⟩:=hr.at (k:=a) (by omega);rw [h4] at hc;have e:Kx.word m f a=(Kx.row m f)[a]'(by omega):=by simp [Kx.word,show a<(Kx.row m f).length by omega]
 rw [e];exact ⟨b,off,cap,b',off',cap',rfl,hc,hc'⟩
theorem ad3 (p:Kx.aH) (ad:Nat) (vm vi ve vc vs vl vp:Value) (hand limit:Int) (w:World) (h:RP w vm vi ve vc vs vl vp p) (hm:bW p.k.mem=true) (hpl:p.pages.length=16) (hsl:p.swap.length=16)
  (hA:ad<64) (h1:(Kx.aA p.pages (ad / 4)).wh=1->0<=(Kx.aA p.pages (ad / 4)).at_/\(Kx.aA p.pages (ad / 4)).at_<=11)
  (h2:(Kx.aA p.pages (ad / 4)).wh=2->0<=(Kx.aA p.pages (ad / 4)).at_/\(Kx.aA p.pages (ad / 4)).at_<=15/\(Kx.row p.swap (Kx.aA p.pages (ad / 4)).at_.toNat).length=4) :
  Calls prog 76 #[bU vm vi ve vc vs vl vp hand limit,I_ ad] w fun e w'=>e=.returned (I_ (Kx.Uo p ad))/\Below w.heap.size w w':=by
 obtain ⟨w0,hw0⟩:∃ w0,w.alloc (.cells #[vm,vi,ve,vc,vs,vl,vp,I_ hand,I_ limit] 32)=w0:=⟨_,rfl⟩;have dB:=af (show Below w.heap.size w w0 from hw0 ▸ (Below.refl w.heap.size w).alloc aW _);have jF:=af (show su w0 w.heap.size vm vi ve vc vs vl vp hand limit from hw0 ▸ su.new w vm vi ve vc vs vl vp hand limit _);have HP:=af (h.below dB.o);obtain ⟨q,hq⟩:∃ q,ad / 4=q:=⟨_,rfl⟩;obtain ⟨r,hr⟩:∃ r,ad % 4=r:=⟨_,rfl⟩;have eq:(ad:Int) / 4=(q:Int):=by omega
 have er:(ad:Int) % 4=(r:Int):=by omega
 have aeX:(q:Int)<16:=by omega
 have hr4:(r:Int)<4:=by omega
 obtain ⟨bp,op,cap,rfl,hbp,g1,g2,g3⟩:=rP.at HP.o.g (k:=q) (by omega);have HW:=af (show Kx.Uo p ad=(if (Kx.aA p.pages q).wh=1 then Kx.word p.k.mem (Kx.aA p.pages q).at_.toNat r else if (Kx.aA p.pages q).wh=2 then Kx.word p.swap (Kx.aA p.pages q).at_.toNat r else 0) by rw [<-hq,<-hr];rfl);rw [hq] at h1 h2;obtain ⟨pg,hx⟩:∃ pg,Kx.aA p.pages q=pg:=⟨_,rfl⟩;rw [hx] at h1 h2 g1 g2 g3 HW;clear hx;obtain ⟨x,y,z⟩:=pg;dsimp only at h1 h2 g1 g2 g3 HW;obtain ⟨w1,hw1⟩:∃ w1,w0.alloc (.cells #[I_ x,I_ y,.bool z] 42)=w1:=⟨_,rfl⟩;have B1:=af (show Below w0.heap.size w0 w1 from hw1 ▸ dm);obtain ⟨c0,c1,c2⟩:=(show w1.cell? ⟨w0.heap.size,0,none⟩=some (I_ x)/\w1.cell? ⟨w0.heap.size,1,none⟩=some (I_ y)/\w1.cell? ⟨w0.heap.size,2,none⟩=some (.bool z) from hw1 ▸ Dh.new w0 _ _ _ 42);obtain ⟨⟨m0,m1,m2,m3⟩,⟨m4,m5,m6,m7,m8⟩,_⟩:=jF.o.below B1.o
 have k6:=jF.o.2.1.2.2.1;have Vr:=af (HP.o.below B1.o);have HB:=af (dB.o.trans (B1.o.mono dB.o.size));have HI:=af h1;have HJ:=af h2;have hAI:(ad:Int)<64:=by omega
 have Vo:=af hsl;have Hm:=af hm;rw [hpl] at m6 k6 hw0 ⊢;clear jF h hbp hq hr h1 h2 hsl hm hpl
 by_cases hx1:x=1
 ·subst hx1;obtain ⟨y0,ZG⟩:=HI.o rfl;obtain ⟨n,rfl⟩:=Int.eq_ofNat_of_zero_le y0;obtain ⟨b,off,cap1,b',off',cap2,rfl,e1,e2,_,_⟩:=Vr.o.k.m.word Hm.o (f:=n) (a:=r) (by omega) (by omega);have MJ:(n:Int)<12:=by omega
  have HF:=af (show Kx.Uo p ad=Kx.word p.k.mem n r by rw [HW.o];rfl);clear HI HJ HW;unfold bU;go_enter func76,ntmps76;go_wp2_with fail;go_ret;exact ⟨by rw [HF.o];rfl,HB.o⟩
 by_cases hx2:x=2
 ·subst hx2;obtain ⟨y0,y15,hr4⟩:=HJ.o rfl;obtain ⟨n,rfl⟩:=Int.eq_ofNat_of_zero_le y0;obtain ⟨b,off,cap1,b',off',cap2,rfl,e1,e2⟩:=Vr.o.s.at4 (f:=n) (a:=r) (by rw [Vo.o];omega) hr4 (by omega);have MJ:(n:Int)<(p.swap.length:Int):=by rw [Vo.o];omega
  have HF:=af (show Kx.Uo p ad=Kx.word p.swap n r by rw [HW.o];rfl);clear HI HJ HW hr4;unfold bU;go_enter func76,ntmps76;go_wp2_with fail;go_ret;exact ⟨by rw [HF.o];rfl,HB.o⟩
 have hxa:(x==1)=false:=by simpa using hx1
 have hxb:(x==2)=false:=by simpa using hx2
 have HF:=af (show Kx.Uo p ad=0 by rw [HW.o,if_neg hx1,if_neg hx2]);clear HI HJ HW hx1 hx2;unfold bU;go_enter func76,ntmps76;go_wp2_with fail;go_ret;exact ⟨by rw [HF.o];rfl,HB.o⟩

theorem aeb (p:Kx.aH) (ad:Int) (vm vi ve vc vs vl vp:Value) (w:World) (h:RP w vm vi ve vc vs vl vp p) (hs:iQ p.k) :
  Calls prog 19 #[bU vm vi ve vc vs vl vp p.hand p.limit,I_ ad] w fun e w'=>e=.returned (I_ (Kx.Ro p ad))/\Below w.heap.size w w':=by
 obtain ⟨w0,hw0⟩:∃ w0,w.alloc (.cells #[vm,vi,ve,vc,vs,vl,vp,I_ p.hand,I_ p.limit] 32)=w0:=⟨_,rfl⟩;have dB:=af (show Below w.heap.size w w0 from hw0 ▸ (Below.refl w.heap.size w).alloc aW _);have jF:=af (show su w0 w.heap.size vm vi ve vc vs vl vp p.hand p.limit from hw0 ▸ su.new w vm vi ve vc vs vl vp p.hand p.limit _);have HP:=af (h.below dB.o);have Hs:=af hs;have HV:=af (show Kx.Ro p ad=if !Kx.bI p||!Kx.bK ad 0 63 then -1 else Kx.Uo p ad.toNat from rfl);obtain ⟨⟨m0,m1,m2,m3⟩,⟨m4,m5,m6,m7,m8⟩,_⟩:=jF.o;have HC:=af (n_ p vm vi ve vc vs vl vp w0 HP.o Hs.o);clear h hs;unfold bU at HC ⊢;go_enter func19,ntmps19;go_wp2_with fail;clear hw0;refine HC.o.mono ?_;rintro e w1 ⟨rfl,hb1⟩;have B1:=af hb1;clear hb1 m0 m1 m2 m3 m4 m5 m6 m7 m8 HC;obtain ⟨⟨m0,m1,m2,m3⟩,⟨m4,m5,m6,m7,m8⟩,_⟩:=jF.o.below B1.o
 cases hv:Kx.bI p with
 | false =>
  have HF:=af (show Kx.Ro p ad=-1 by rw [HV.o,hv];rfl);clear hv HV;go_wp2_with fail;go_ret;exact ⟨by rw [HF.o];rfl,dB.o.trans (B1.o.mono dB.o.size)⟩
 | true =>
  have V1:=af hv;clear hv;go_wp2_with fail;refine (kC _ _).mono ?_;rintro e w' ⟨rfl,rfl⟩
  cases hv:Kx.bK ad 0 63 with
  | false =>
   have HF:=af (show Kx.Ro p ad=-1 by rw [HV.o,hv];simp);clear hv HV;go_wp2_with fail;go_ret;exact ⟨by rw [HF.o];rfl,dB.o.trans (B1.o.mono dB.o.size)⟩
  | true =>
   obtain ⟨h0,h63⟩:=Kx.ay.1 hv;obtain ⟨a,rfl⟩:=Int.eq_ofNat_of_zero_le h0;have HF:=af (show Kx.Ro p a=Kx.Uo p a by rw [HV.o,V1.o,hv];simp);have OK:=af (Kx.iD.1 V1.o);have Hm:=af (show bW p.k.mem=true from by
    have:=V1.o
    unfold Kx.bI at this;simp only [Bool.and_eq_true] at this;have:=this.1.1.1.1.1.1.1.1.1;unfold az at this;simp only [Bool.and_eq_true] at this;exact this.1.1.1.1.1.1)
   have HPg:=af (show Kx.dC p (a / 4)=true from by
    have:=V1.o
    unfold Kx.bI at this;simp only [Bool.and_eq_true,List.all_eq_true] at this;exact this.1.1.1.2 _ (by simp;omega))
   have HSw:=af (show p.swap.length=16/\∀ i,i<16->Kx.row p.swap i=[]\/(Kx.row p.swap i).length=4 from by
    have h2:=OK.o.swap;rw [BM,Bool.and_eq_true,List.all_eq_true] at h2;refine ⟨by simpa using h2.2,fun i hi=>?_⟩
    have h3:=h2.1 i (by have:=h2.2;simp at this ⊢;omega);unfold Na Kx.dQ at h3;rw [Bool.or_eq_true] at h3;rcases h3 with h3 | h3
    ·exact .inl (by simpa using h3)
    rw [Bool.and_eq_true] at h3;exact .inr (by simpa using h3.2))
   have HC:=af (ad3 p a vm vi ve vc vs vl vp p.hand p.limit w1 (HP.o.below B1.o) Hm.o OK.o.p16 HSw.o.1 (by omega)
    (fun e=>by
     have:=HPg.o
     rw [GU,if_neg (by rw [e];decide),if_pos e] at this;simp only [Bool.and_eq_true] at this;exact Kx.ay.1 this.1.1.1)
    (fun e=>by
     have:=HPg.o
     rw [GU,if_neg (by rw [e];decide),if_neg (by rw [e];decide),if_pos e] at this;simp only [Bool.and_eq_true] at this;obtain ⟨y0,y15⟩:=Kx.ay.1 this.1.1.1;refine ⟨y0,y15,?_⟩;rcases HSw.o.2 (Kx.aA p.pages (a / 4)).at_.toNat (by omega) with h | h
     ·rw [h] at this;simp at this
     exact h))
   unfold bU at HC;clear hv HV h0;go_wp2_with fail;refine HC.o.mono ?_;rintro e w2 ⟨rfl,hb2⟩;have B2:=af (B1.o.trans (hb2.mono B1.o.size));clear hb2;go_wp2_with fail;go_ret;exact ⟨by rw [HF.o];rfl,dB.o.trans (B2.o.mono dB.o.size)⟩

theorem ads (ws:List Int) (v:Value) (w:World) (h:RI w v ws) :
  Calls prog 70 #[v] w fun e w'=>e=.returned (.bool (!(ws.isEmpty||Kx.dQ ws)))/\Below w.heap.size w w':=by
 obtain ⟨a,cap,rfl⟩:=h.val;have Hc:=af (IU ws _ w h);have He:=af (lh ws);have hl:=h.1
 by_cases h0:ws=[]
 ·subst h0;clear h Hc He;go_enter func70,ntmps70;go_wp2_with fail;go_ret;exact ⟨by rfl,Below.refl _ _⟩
 have hg:decide (0<ws.length)=true:=by simpa using List.length_pos_iff.2 h0
 have hem:=af (show ws.isEmpty=false by cases ws with | nil=>exact absurd rfl h0 | cons=>rfl)
 clear h h0;go_enter func70,ntmps70;go_wp2_with (go_at_call 71;refine Hc.o.mono ?_;rintro e w' ⟨rfl,hb'⟩;have kR:=af hb';clear hb';rw [He.o]);go_ret;exact ⟨ak (by rw [hem.o];rfl),kR.o⟩
theorem acw (s:List (List Int)) (v:Value) (w:World) (h:RM w v s) :
  Calls prog 14 #[v] w fun e w'=>e=.returned (.bool (jE s))/\Below w.heap.size w w':=by
 obtain ⟨hl,a,cap,rfl,_,_⟩:=h.len;obtain ⟨vs,hvl,hvs,hr⟩:=h;have hc:=zZ 70 #[] (fun k=>!((Kx.row s k).isEmpty||Kx.dQ (Kx.row s k))) vs _ w hvs ⟨Proofs.enters_of func70 (by kernel_rfl) rfl,fun k W hk hb=>by
  have h2:=(hr k hk (by omega)).below hb;have e1:vs.getD k undef=vs[k]:=by simp [hk]
  have e2:Kx.row s k=s[k]'(by omega):=by simp [Kx.row,show k<s.length by omega]
  show Calls prog 70 #[vs.getD k undef] W fun e w'=>e=.returned (.bool (!((Kx.row s k).isEmpty||Kx.dQ (Kx.row s k))))/\Below W.heap.size W w'
  rw [e1,e2];exact ads _ _ _ h2⟩
 have e:((List.range vs.length).any fun k=>!((Kx.row s k).isEmpty||Kx.dQ (Kx.row s k)))=!(s.all fun ws=>ws.isEmpty||Kx.dQ ws):=by
  rw [hvl,Bool.eq_iff_iff,List.any_eq_true,Bool.not_eq_true',List.all_eq_false];constructor
  ·rintro ⟨k,hk,hq⟩;have hk:k<s.length:=by simpa using hk
   exact ⟨_,Kx.row_mem hk,by simpa using hq⟩
  rintro ⟨x,hx,hq⟩;obtain ⟨k,hk,rfl⟩:=List.getElem_of_mem hx;exact ⟨k,by simpa using hk,by rw [show Kx.row s k=s[k] from by simp [Kx.row,hk]];simpa using hq⟩
 rw [e] at hc;have Hc:=af hc;clear hc e hr hvs hvl;have HM:=af (show jE s=((s.all fun ws=>ws.isEmpty||Kx.dQ ws)&&s.length==16) from rfl);generalize (s.all fun ws=>ws.isEmpty||Kx.dQ ws)=t at Hc HM
 by_cases h12:s.length=16
 ·have hb:((s.length:Int)==16)=true:=by simp;omega
  have fJ:=af h12;clear h12;go_enter func14,ntmps14;go_wp2_with (go_at_call 69;refine Hc.o.mono ?_;rintro e w' ⟨rfl,hb'⟩;have kR:=af hb';clear hb');go_ret;exact ⟨ak (by rw [HM.o,fJ.o];simp),kR.o⟩
 have hb:((s.length:Int)==16)=false:=by simp;omega
 have fJ:=af h12;clear h12;go_enter func14,ntmps14;go_wp2_with fail;go_ret;exact ⟨ak (by rw [HM.o];simp [fJ.o]),Below.refl _ _⟩
theorem aal (f:Nat) (w:World) (hf:f<12):Calls prog 124 #[I_ f,.bool true] w fun e w'=>e=.returned (.tuple #[I_ (Kx.put f true),.bool true])/\w=w':=by
 have Hv:=af (show Kx.bK (f:Int) 0 11=true by rw [Kx.ay];omega);have wJ:(f:Int)<12:=by omega
 have HP:=af (show Kx.put f true=4*(f:Int)+3 from rfl);go_enter func124,ntmps124;go_wp2_with (go_at_call 63;refine (jO _ _).mono ?_;rintro e w' ⟨rfl,rfl⟩;rw [Hv.o]);go_ret2;exact ⟨by rw [HP.o];rfl,rfl⟩
theorem abS (f:Int) (w:World) (hf:Kx.bK f 0 11=false):Calls prog 124 #[I_ f,.bool true] w fun e w'=>e=.returned (.tuple #[I_ 0,.bool false])/\w=w':=by
 have Hv:=af hf;clear hf;go_enter func124,ntmps124;go_wp2_with (go_at_call 63;refine (jO _ _).mono ?_;rintro e w' ⟨rfl,rfl⟩;rw [Hv.o]);go_ret2;exact ⟨rfl,rfl⟩
theorem Rj {l:List Kx.aG} (h:bC l=true) {f:Nat} (hf:f<12) (hg:(Kx.inf l f).guard=Kx.sA):(Kx.inf l f).kind≠0:=by
 unfold bC at h;simp only [Bool.and_eq_true,List.all_eq_true] at h;have hl:l.length=12:=by simpa using h.2
 have e:Kx.inf l f=l[f]'(by omega):=by simp [Kx.inf,show f<l.length by omega]
 have h2:=h.1 _ (List.getElem_mem (show f<l.length by omega));rw [<-e] at h2;intro h0;unfold cZ at h2;rw [if_pos h0] at h2;have:Kx.inf l f=Kx.aG.zero:=by simpa using h2
 rw [this] at hg;exact absurd (congrArg ByteArray.toList hg) (by decide +kernel)
theorem ab7 (l:List Kx.aG) (f pb:Nat) (vi:Value) (w:World) (h:bV w vi l) (jI:bC l=true) (hf:f<12) (hc:w.cell? ⟨pb,1,none⟩=some vi) :
  Calls prog 123 #[.pointer (some ⟨pb,0,none⟩),I_ f] w fun e w'=>e=.returned (.bool (mine l f))/\Below w.heap.size w w':=by
 have h12:=af (show l.length=12 by unfold bC at jI;simp only [Bool.and_eq_true] at jI;simpa using jI.2);have hk:=af (Rj jI hf);have HM:=af (show mine l f=(decide ((Kx.inf l f).guard=Kx.sA)&&(Kx.inf l f).refs==1) from rfl);obtain ⟨b,off,cap,rfl,_,g0,g1,g2⟩:=bV.at h (k:=f) (by rw [h12.o];exact hf);have wJ:(f:Int)<(l.length:Int):=by rw [h12.o];omega
 clear h jI;generalize Kx.inf l f=y at g0 g1 g2 hk HM;obtain ⟨kd,gf,rf⟩:=y;dsimp only at g0 g1 g2 hk HM;obtain ⟨w0,hw0⟩:∃ w0,w.alloc (.cells #[I_ kd,.string gf,I_ rf] 98)=w0:=⟨_,rfl⟩;have hb:=af (show Below w.heap.size w w0 from hw0 ▸ fZ.alloc aW _);obtain ⟨c0,c1,c2⟩:=(show w0.cell? ⟨w.heap.size,0,none⟩=some (I_ kd)/\w0.cell? ⟨w.heap.size,1,none⟩=some (.string gf)/\w0.cell? ⟨w.heap.size,2,none⟩=some (I_ rf) from hw0 ▸ Dh.new w _ _ _ _)
 by_cases hg:gf=Kx.sA
 case neg =>
  have hgt:=toList_inj hg;have hgd:decide (ByteArray.toList gf=[97])=false:=by simpa using hgt
  have hge:(ByteArray.toList gf==[97])=false:=by simpa using hgt
  have HF:=af (show mine l f=false by rw [HM.o,show decide (gf=Kx.sA)=false from by simpa using hg];rfl);clear HM hg hk;go_enter func123,ntmps123;go_wp2_with fail;go_ret;exact ⟨ak HF.o.symm,hb.o⟩
 have hkn:(kd != 0)=true:=by simpa using hk.o hg
 have HF:=af (show mine l f=(rf==1) by rw [HM.o,show decide (gf=Kx.sA)=true from by simpa using hg];simp);unfold Kx.sA at hg;subst hg;clear HM hk
 by_cases hr:rf=1
 ·subst hr;go_enter func123,ntmps123;go_wp2_with fail;go_ret;exact ⟨ak HF.o.symm,hb.o⟩
 have hrb:(rf==1)=false:=by simpa using hr
 rw [hrb] at HF;clear hr;go_enter func123,ntmps123;go_wp2_with fail;go_ret;exact ⟨ak HF.o.symm,hb.o⟩
theorem aev (m:List (List Int)) (low:List Int) (n pb:Nat) (vm vl:Value) (w:World) (hm:RM w vm m) (hmo:bW m=true) (hl:RI w vl low) (hll:low.length=4) (hlo:∀ i,i<4->0<=low.getD i 0/\low.getD i 0<=11) (hn:n<16)
  (h0:w.cell? ⟨pb,0,none⟩=some vm) (h5:w.cell? ⟨pb,5,none⟩=some vl) :
  Calls prog 128 #[.pointer (some ⟨pb,0,none⟩),I_ n] w (Qt (.int .i64 (Kx.word m (low.getD (n / 4) 0).toNat (n % 4))) w):=by
 obtain ⟨q,hq⟩:∃ q,n / 4=q:=⟨_,rfl⟩;obtain ⟨r,hr⟩:∃ r,n % 4=r:=⟨_,rfl⟩;have eq:(n:Int) / 4=(q:Int):=by omega
 have er:(n:Int) % 4=(r:Int):=by omega
 have hq4:(q:Int)<4:=by omega
 have et:(n:Int).tmod 4=(r:Int):=by rw [Int.tmod_eq_emod_of_nonneg (by omega)];exact er
 have ed_:(n:Int).tdiv 4=(q:Int):=by rw [Int.tdiv_eq_ediv_of_nonneg (by omega)];exact eq
 have hr0:(0:Int)<=(r:Int):=by omega
 have ZC:IntKind.i64.wrap (q:Int)=(q:Int):=IntWalk.i64_in _ (by omega);have hq0:(0:Int)<=(q:Int):=by omega
 have hr4:(r:Int)<4:=by omega
 have MJ:(n:Int)<16:=by omega
 rw [hq,hr];obtain ⟨bl,ol,cl,rfl,hbl,hcl⟩:=hl.at (k:=q) (by omega);have hget:low[q]'(by omega)=low.getD q 0:=by simp [show q<low.length by omega]
 rw [hget] at hcl;obtain ⟨hf0,Px⟩:=hlo q (by omega);generalize low.getD q 0=f at hcl hf0 Px ⊢;obtain ⟨f0,rfl⟩:=Int.eq_ofNat_of_zero_le hf0;rw [Int.toNat_natCast];have dG:f0<12:=by omega
 have wJ:(f0:Int)<12:=by omega
 obtain ⟨bm,om,cm,bq,oq,cq,rfl,n1,n2,_,_⟩:=hm.word hmo (f:=f0) (a:=r) dG (by omega);generalize Kx.word m f0 r=wd at n2 ⊢;rw [hll] at h5;clear hm hmo hl hlo hget hf0 Px hbl hq hr hll;go_enter func128,ntmps128;go_wp2_with fail;go_quiet (fail);go_wp2_with fail;go_ret;exact ⟨rfl,_,rfl⟩
theorem ady (p:Kx.aH) (wh:Int) (pb:Nat) (vp:Value) (w:World) (h:rP w vp p.pages) (h6:w.cell? ⟨pb,6,none⟩=some vp) :
  Calls prog 50 #[.pointer (some ⟨pb,0,none⟩),I_ wh] w fun e w'=>e=.returned (I_ (Kx.countP p wh))/\Below w.heap.size w w':=by
 obtain ⟨ap,cp,rfl,_,_⟩:=RS.val h;have hpl:=h.1;have HG:=af h;clear h;go_enter func50,ntmps50;go_wp2_with fail;go_loopw [5,13] (fun n i wr=>∃ q:Nat,i=I_ q/\q<=p.pages.length/\n=I_ (uz p wh q)/\TI (Below w.heap.size w wr)) (fun _ i _=>p.pages.length - (intOf i).toNat)
 case atStart=>exact ⟨0,rfl,Nat.zero_le _,by rw [H_];rfl,Below.refl _ _⟩
 case round =>
  clear h6;obtain ⟨q,rfl,hq,rfl,hb⟩:=hrel
  by_cases hlt:q<p.pages.length
  ·obtain ⟨b,off,cap,ev,hbb,h1,h2,h3⟩:=rP.at (RS.below HG.o hb.o) hlt;obtain ⟨rfl,_,rfl⟩:=Za ev;clear ev;have kQ:(q:Int)<(p.pages.length:Int):=by omega
   have hst:=af (Ia p wh q hlt);have hle:=Nb p wh q;generalize Kx.aA p.pages q=pg at h1 h2 h3 hst;obtain ⟨x,y,z⟩:=pg;dsimp only at h1 h2 h3 hst;obtain ⟨W1,hW1⟩:∃ W1,wr.alloc (.cells #[I_ x,I_ y,.bool z] 42)=W1:=⟨_,rfl⟩;have B1:=af (show Below w.heap.size w W1 from hW1 ▸ hb.o.alloc hb.o.size _);obtain ⟨c0,c1,c2⟩:=(show W1.cell? ⟨wr.heap.size,0,none⟩=some (I_ x)/\W1.cell? ⟨wr.heap.size,1,none⟩=some (I_ y)/\W1.cell? ⟨wr.heap.size,2,none⟩=some (.bool z) from hW1 ▸ Dh.new wr _ _ _ 42)
   by_cases hx:x=wh
   ·have hN:=af (show uz p wh (q+1)=uz p wh q+1 by rw [hst.o,if_pos hx]);subst hx;generalize uz p x q=n0 at hN hle;have MJ:(n0:Int)<=1099511627776:=by omega
    clear hst;go_wp2_with fail;go_roundw
    case rel=>exact ⟨q+1,by go_num,by omega,by rw [hN.o];go_num,B1.o⟩
    case measure=>simp [intOf];omega
   have hN:=af (show uz p wh (q+1)=uz p wh q by rw [hst.o,if_neg hx,Nat.add_zero]);have hxb:(x==wh)=false:=by simpa using hx
   clear hst hx;go_wp2_with fail;go_roundw
   case rel=>exact ⟨q+1,by go_num,by omega,by rw [hN.o],B1.o⟩
   case measure=>simp [intOf];omega
  have e:q=p.pages.length:=by omega
  subst e;have HF:=af (JS p wh);go_wp2_with fail;go_ret;exact ⟨by rw [HF.o];rfl,hb.o⟩

theorem Qz (p:Kx.aH):iC p=(!decide ((Kx.au p.k.ah 0).root<0)&&p.low.length==4&&mine p.k.ag (Kx.au p.k.ah 0).root.toNat&&(List.range 4).all (oN p (Kx.au p.k.ah 0).root.toNat)):=by
 unfold iC mine;simp only [Bool.and_assoc]
theorem QA (p:Kx.aH) (root i:Nat):oN p root i=(Kx.bK (p.low.getD i 0) 0 11&&(Kx.word p.k.mem root i==Kx.put (p.low.getD i 0).toNat true)&&mine p.k.ag (p.low.getD i 0).toNat):=by
 rw [xZ];unfold mine;simp only [Bool.and_assoc]
theorem adS (p:Kx.aH) (pb:Nat) (vm vi ve vc vs vl vp:Value) (hand limit:Int) (w:World) (h:RP w vm vi ve vc vs vl vp p) (hbx:su w pb vm vi ve vc vs vl vp hand limit) (hk:az p.k=true) :
  Calls prog 46 #[.pointer (some ⟨pb,0,none⟩)] w fun e w'=>e=.returned (.bool (iC p))/\Below w.heap.size w w':=by
 obtain ⟨hmo,jI,h12,_,hen,hro⟩:=aI hk;have lL:=hro 0 (by omega);have kG:=af hmo;have nM:=af jI;have jF:=af hbx;have HP:=af h;have HV:=af (Qz p);have HL:=af (QA p);obtain ⟨be,oe,ce,_,e,_,_,hroot,_⟩:=h.k.e.at (k:=0) (by omega);rw [hen] at e;subst e;rw [Nat.zero_mul,Nat.add_zero] at hroot;obtain ⟨al,cl,rfl⟩:=h.l.val;obtain ⟨ai,ci,rfl,_,_⟩:=RS.val h.k.i;obtain ⟨_,am,cm,rfl,_,_⟩:=h.k.m.len;obtain ⟨⟨k0,k1,k2,k3⟩,⟨k4,k5,k6,k7,k8⟩,hbl⟩:=hbx;have agx:=h.l.1;generalize (Kx.au p.k.ah 0).root=root at hroot lL HV;clear h hro hk hen hmo jI h12 hbl
 by_cases hneg:root<0
 ·have HF:=af (show iC p=false by rw [HV.o,show decide (root<0)=true from by simpa using hneg];rfl);clear HV;go_enter func46,ntmps46;go_wp2_with fail;go_ret;exact ⟨ak HF.o.symm,Below.refl _ _⟩
 obtain ⟨r,rfl⟩:=Int.eq_ofNat_of_zero_le (Int.not_lt.1 hneg);rw [Int.toNat_natCast,show decide ((r:Int)<0)=false from by simp,Bool.not_false,Bool.true_and] at HV;have D_:r<12:=by omega
 clear hneg
 by_cases h4:p.low.length=4
 case neg =>
  have HF:=af (show iC p=false by rw [HV.o,show (p.low.length==4)=false from by simpa using h4];rfl);have hne:((p.low.length:Int) != 4)=true:=by rw [bne_iff_ne];omega
  clear HV h4;go_enter func46,ntmps46;go_wp2_with fail;go_ret;exact ⟨ak HF.o.symm,Below.refl _ _⟩
 have hne:((p.low.length:Int) != 4)=false:=by rw [bne_eq_false_iff_eq];omega
 rw [show (p.low.length==4)=true from by simpa using h4,Bool.true_and] at HV;have H4:=af h4;clear h4;have HC:=af (ab7 p.k.ag r pb (.slice ai p.k.ag.length ci) w HP.o.k.i nM.o D_ k1);go_enter func46,ntmps46;go_wp2_with fail;refine HC.o.mono ?_;rintro e w1 ⟨rfl,hb1⟩;have B1:=af hb1;clear hb1 HC
 cases Jt:mine p.k.ag r with
 | false =>
  have HF:=af (show iC p=false by rw [HV.o,Jt];rfl);clear HV Jt;go_wp2_with fail;go_ret;exact ⟨ak HF.o.symm,B1.o⟩
 | true =>
  rw [Jt,Bool.true_and] at HV;obtain ⟨⟨j0,j1,j2,j3⟩,⟨j4,j5,j6,j7,j8⟩,_⟩:=jF.o.below B1.o;clear Jt k0 k1 k2 k3 k4 k5 k6 k7 k8 hroot;go_wp2_with fail;go_loopw [37] (fun i wr=>∃ q:Nat,i=I_ q/\q<=p.low.length/\TI (∀ j,j<q->oN p r j=true)/\TI (Below w.heap.size w wr)) (fun i _=>p.low.length - (intOf i).toNat)
  case atStart=>exact ⟨0,rfl,Nat.zero_le _,fun j hj=>absurd hj (Nat.not_lt_zero _),B1.o⟩
  case round =>
   clear j0 j1 j2 j3 j4 j5 j6 j7 j8 B1;obtain ⟨q,rfl,hq,hall,hb⟩:=hrel
   by_cases hlt:q<p.low.length
   ·obtain ⟨⟨k0,k1,k2,k3⟩,⟨k4,k5,k6,k7,k8⟩,_⟩:=jF.o.below hb.o;have HPr:=af (HP.o.below hb.o);obtain ⟨bl,ol,cl',ev,_,hc⟩:=HPr.o.l.at hlt;obtain ⟨rfl,_,rfl⟩:=Za ev;clear ev;have hq4:q<4:=by have:=H4.o;omega
    have agy:(q:Int)<4:=by omega
    have kQ:(q:Int)<(p.low.length:Int):=by omega
    have HB:=af (show oN p r q=false->iC p=false from fun h=>by
     rw [HV.o,List.all_eq_false];exact ⟨q,by simpa using hq4,by rw [h];simp⟩)
    have HN:=af (show oN p r q=true->∀ j,j<q+1->oN p r j=true from fun h=>fF hall.o h);have bF:=af (HL.o r q);obtain ⟨bm,om,TB,bq,oq,cq,ev,n1,n2,_,_⟩:=HPr.o.k.m.word kG.o (f:=r) (a:=q) D_ hq4;have uk:=(jC.1 kG.o).1;rw [<-uk] at ev;obtain ⟨rfl,_,rfl⟩:=Za ev;clear ev;have hrm:(r:Int)<(p.k.mem.length:Int):=by rw [uk];omega
    have hget:p.low[q]=p.low.getD q 0:=by simp [hlt]
    rw [hget] at hc;clear hget uk;generalize Kx.word p.k.mem r q=wd at n2 bF;generalize p.low.getD q 0=f at hc bF
    cases hin:Kx.bK f 0 11 with
    | false =>
     have HF:=af (HB.o (by rw [bF.o,hin];rfl));have jR:=af hin;clear HB HN bF hin;go_wp2_with fail;refine (abS _ _ jR.o).mono ?_;rintro e w' ⟨rfl,rfl⟩;go_wp2_with fail;go_ret;exact ⟨ak HF.o.symm,hb.o⟩
    | true =>
     obtain ⟨f0,f11⟩:=Kx.ay.1 hin;obtain ⟨g,rfl⟩:=Int.eq_ofNat_of_zero_le f0;rw [hin,Bool.true_and,Int.toNat_natCast] at bF;have zM:g<12:=by omega
     clear hin f0;generalize hpw:Kx.put g true=pw at bF;have Hpw:=af hpw;clear hpw
     by_cases hw:wd=pw
     case neg =>
      have hwb:(wd != pw)=true:=by simpa using hw
      have HF:=af (HB.o (by rw [bF.o,show (wd==pw)=false from by simpa using hw];rfl));clear HB HN bF hw;go_wp2_with fail;refine (aal g _ zM).mono ?_;rintro e w' ⟨rfl,rfl⟩;rw [Hpw.o];go_wp2_with fail;go_ret;exact ⟨ak HF.o.symm,hb.o⟩
     have hwb:(wd != pw)=false:=by simpa using hw
     rw [show (wd==pw)=true from by simpa using hw,Bool.true_and] at bF;have HC:=af (ab7 p.k.ag g pb _ wr HPr.o.k.i nM.o zM k1);clear hw;go_wp2_with fail;refine (aal g _ zM).mono ?_;rintro e w' ⟨rfl,rfl⟩;rw [Hpw.o];go_wp2_with fail;refine HC.o.mono ?_;rintro e w2 ⟨rfl,hb2⟩;have B2:=af (hb.o.trans (hb2.mono hb.o.size));clear hb2 HC
     cases Jt:mine p.k.ag g with
     | false =>
      have HF:=af (HB.o (by rw [bF.o,Jt]));clear HB HN bF Jt;go_wp2_with fail;go_ret;exact ⟨ak HF.o.symm,B2.o⟩
     | true =>
      have ug:=af (HN.o (by rw [bF.o,Jt]));clear HB HN bF Jt;go_wp2_with fail;go_roundw
      case rel=>exact ⟨q+1,by go_num,by omega,ug.o,B2.o⟩
      case measure=>simp [intOf];omega
   have HF:=af (show iC p=true by
    rw [HV.o,List.all_eq_true];intro j hj;have h9:=H4.o;have h8:j<4:=by simpa using hj
    exact hall.o j (by omega))
   go_wp2_with fail;go_ret;exact ⟨ak HF.o.symm,hb.o⟩

theorem uH (rb p:Nat) (w:World) (h:RD w rb p) (hp:p<=900000) :
  Calls prog 74 #[.pointer (some ⟨rb,0,none⟩)] w fun e w'=>∃ x:Int,e=.returned (I_ x)/\nP rb p 2 w w':=by
 have hlt:=h.lt;go_enter func74,ntmps74;go_wp2_with fail;refine (aN rb p 20 _ h (by omega) (by omega) (by omega)).mono ?_;rintro e w1 ⟨x,rfl,x0,x1,hr,hg⟩;have hlt1:=hr.lt;have Hr:=af hr;have Hg:=af hg;clear hr hg h
 by_cases h0:x=0
 ·subst h0;have B1:Below w1.heap.size w1 (w1.alloc (.cells #[I_ (-1),I_ 64,I_ 100] 3)):=dm;have HC:=af (aN rb (p+1) 3 (w1.alloc (.cells #[I_ (-1),I_ 64,I_ 100] 3)) (Hr.o.keep B1) (by omega) (by omega) (by omega));clear B1;go_wp2_with fail;refine HC.o.mono ?_;rintro e w2 ⟨y,rfl,y0,y1,hr,hg⟩;obtain ⟨n,rfl⟩:=Int.eq_ofNat_of_zero_le y0;obtain ⟨z,hc⟩:=wI [-1,64,100] (by decide) hlt1 hg (n:=n) (by simp;omega);have Hw:=af (show nP rb p 2 w w2 from ⟨p+2,by omega,hr,grownBy_trans (grownBy_alloc Hg.o _) hg⟩);clear hr hg HC;go_wp2_with fail;go_ret;exact ⟨z,rfl,Hw.o⟩
 have UI:(x==0)=false:=by simpa using h0
 go_wp2_with fail;refine (aN rb (p+1) 64 _ Hr.o (by omega) (by omega) (by omega)).mono ?_;rintro e w2 ⟨y,rfl,y0,y1,hr2,hg2⟩;have Hw:=af (show nP rb p 2 w w2 from ⟨p+2,by omega,hr2,grownBy_trans Hg.o hg2⟩);clear hr2 hg2;go_wp2_with fail;go_ret;exact ⟨_,rfl,Hw.o⟩

def abH (n:Nat) (F:Nat->Nat):List Int:=(List.range n).map fun g=>(F g:Int)
theorem aaO (n:Nat) (F:Nat->Nat):(abH n F).length=n:=by simp [abH]
theorem abL (n:Nat) (F:Nat->Nat) (k:Nat) (h:k<(abH n F).length):(abH n F)[k]=(F k:Int):=by simp [abH]
theorem adC (n:Nat) (F F':Nat->Nat) (k:Nat) (x:Int) (hx:x=(F' k:Int)) (h:∀ g,g≠k->F' g=F g):(abH n F).set k x=abH n F':=by
 refine List.ext_getElem (by simp [abH]) fun i h1 h2=>?_
 rw [List.getElem_set];split
 ·rename_i e;subst e;rw [abL,hx]
 rename_i e;rw [abL,abL,h i (Ne.symm e)]
theorem abZ {n:Nat} {F F':Nat->Nat} (h:∀ g,g<n->F g=F' g):abH n F=abH n F':=by
 unfold abH;exact List.map_congr_left fun g hg=>by rw [h g (by simpa using hg)]
def pI_ (p:Kx.aH) (n:Nat):Bool:=
 if (Kx.aA p.pages n).wh=0 then (Kx.aA p.pages n)==Kx.dV.zero&&Kx.word p.k.mem ((p.low.getD (n / 4) 0).toNat) (n % 4)==0
 else if (Kx.aA p.pages n).wh=1 then Kx.bK (Kx.aA p.pages n).at_ 0 11&&(Kx.word p.k.mem ((p.low.getD (n / 4) 0).toNat) (n % 4)==Kx.put (Kx.aA p.pages n).at_.toNat true)&&mine p.k.ag (Kx.aA p.pages n).at_.toNat
 else if (Kx.aA p.pages n).wh=2 then Kx.bK (Kx.aA p.pages n).at_ 0 15&&!(Kx.aA p.pages n).used&&Kx.word p.k.mem ((p.low.getD (n / 4) 0).toNat) (n % 4)==0
 else false
theorem aed (p:Kx.aH) (n:Nat):pI_ p n=(
 if (Kx.aA p.pages n).wh=0 then (Kx.aA p.pages n)==Kx.dV.zero&&Kx.word p.k.mem ((p.low.getD (n / 4) 0).toNat) (n % 4)==0
 else if (Kx.aA p.pages n).wh=1 then Kx.bK (Kx.aA p.pages n).at_ 0 11&&(Kx.word p.k.mem ((p.low.getD (n / 4) 0).toNat) (n % 4)==Kx.put (Kx.aA p.pages n).at_.toNat true)&&mine p.k.ag (Kx.aA p.pages n).at_.toNat
 else if (Kx.aA p.pages n).wh=2 then Kx.bK (Kx.aA p.pages n).at_ 0 15&&!(Kx.aA p.pages n).used&&Kx.word p.k.mem ((p.low.getD (n / 4) 0).toNat) (n % 4)==0
 else false):=rfl
def KeptIP (p:Kx.aH) (n:Nat) (w:World) (base:Nat) (g cap:Nat) (e:Ending) (w':World):Prop:=
 e=.returned (.bool (pI_ p n))/\w.grownBy w' (some g)/\(pI_ p n=true->OS iR 1 3 w' base (.slice (some ⟨g,0,none⟩) 16 cap) (abH 16 fun s=>rM p s (n+1)))
theorem KeptIP.no {p:Kx.aH} {n:Nat} {w w':World} {base g cap:Nat} (h:pI_ p n=false) (hg:w.grownBy w' (some g)):KeptIP p n w base g cap (.returned (.bool false)) w':=
 ⟨by rw [h],hg,fun e=>by rw [h] at e;cases e⟩
theorem KeptIP.yes {p:Kx.aH} {n:Nat} {w w':World} {base g cap:Nat} {b:Bool} (h:pI_ p n=b) (hb:Below w.heap.size w w') (hk:OS iR 1 3 w base (.slice (some ⟨g,0,none⟩) 16 cap) (abH 16 fun s=>rM p s n)) (hs:∀ s,rM p s (n+1)=rM p s n):KeptIP p n w base g cap (.returned (.bool b)) w':=
 ⟨by rw [h],IG hb _,fun _=>by rw [show (abH 16 fun s=>rM p s (n+1))=abH 16 fun s=>rM p s n from abZ fun s _=>hs s];exact hk.below hb⟩
theorem adX (p:Kx.aH) (n pb base g cap:Nat) (vm vi ve vc vs vl vp:Value) (hand limit:Int) (w:World) (h:RP w vm vi ve vc vs vl vp p) (hbx:su w pb vm vi ve vc vs vl vp hand limit) (hmo:bW p.k.mem=true) (jI:bC p.k.ag=true) (hpl:p.pages.length=16) (hll:p.low.length=4)
  (hlo:∀ i,i<4->0<=p.low.getD i 0/\p.low.getD i 0<=11) (hn:n<16) (hk:OS iR 1 3 w base (.slice (some ⟨g,0,none⟩) 16 cap) (abH 16 fun s=>rM p s n)) :
  Calls prog 48 #[.pointer (some ⟨pb,0,none⟩),I_ n,.slice (some ⟨g,0,none⟩) 16 cap] w (KeptIP p n w base g cap):=by
 have bF:=af (aed p n);have jF:=af hbx;have HP:=af h;have nM:=af jI;have HW:=af (show ∀ wz,Below w.heap.size w wz->Calls prog 128 #[.pointer (some ⟨pb,0,none⟩),I_ n] wz (Qt (.int .i64 (Kx.word p.k.mem (p.low.getD (n / 4) 0).toNat (n % 4))) wz) from fun wz hz=>aev p.k.mem p.low n pb vm vl wz (h.k.m.below hz) hmo (h.l.below hz) hll hlo hn (hbx.below hz).1.1 (hbx.below hz).2.1.2.1)
 have MJ:(n:Int)<16:=by omega
 have jU:=af (fun s=>Ic p s n (by omega))
 have MN:=af (fun s=>Nc p s n);have Hk:=af hk;have k6:=hbx.2.1.2.2.1;have hbl:=af hbx.2.2;obtain ⟨bp,op,cp,rfl,hbp,g0,g1,g2⟩:=rP.at h.g (k:=n) (by omega);have Hbp:=af hbp;rw [hpl] at k6 HP jF;generalize Kx.word p.k.mem ((p.low.getD (n / 4) 0).toNat) (n % 4)=wd at HW bF;generalize hx:Kx.aA p.pages n=pg at g0 g1 g2 bF jU;obtain ⟨x,y,z⟩:=pg;dsimp only at g0 g1 g2 bF;have Hpl:=af hpl;clear h hbx hmo jI hpl hll hlo hk hbp hx
 have ik:=af (show ∀ wz,Below w.heap.size w wz->(wz.cell? ⟨pb,6,none⟩=some (.slice (some ⟨bp,op,none⟩) 16 cp)/\wz.cell? ⟨bp,op+n*3,none⟩=some (I_ x)/\wz.cell? ⟨bp,op+n*3+1,none⟩=some (I_ y)/\wz.cell? ⟨bp,op+n*3+2,none⟩=some (.bool z)) from fun wz hz=>⟨(hz.cell (p:=⟨pb,6,none⟩) hbl.o).trans k6,(hz.cell (p:=⟨bp,op+n*3,none⟩) Hbp.o).trans g0,(hz.cell (p:=⟨bp,op+n*3+1,none⟩) Hbp.o).trans g1,(hz.cell (p:=⟨bp,op+n*3+2,none⟩) Hbp.o).trans g2⟩)
 have S1:=ik.o w fZ;go_enter func48,ntmps48;go_wp2_with fail;obtain ⟨W1,hW1⟩:∃ W1,(w.alloc (.cells #[I_ 0,I_ 0,.bool false] 42)).drew=W1:=⟨_,rfl⟩;have B1:=af (show Below w.heap.size w W1 from hW1 ▸ Below.bz (dm));have S2:=ik.o W1 B1.o;have HZ:=af (show ∀ wz,Below W1.heap.size W1 wz->((wz.frozen? ⟨w.heap.size,0,none⟩=false/\wz.frozen? ⟨w.heap.size,1,none⟩=false/\wz.frozen? ⟨w.heap.size,2,none⟩=false) /\
   wz.cell? ⟨w.heap.size,0,none⟩=some (I_ 0)/\wz.cell? ⟨w.heap.size,1,none⟩=some (I_ 0)/\wz.cell? ⟨w.heap.size,2,none⟩=some (.bool false))/\w.heap.size<wz.heap.size from fun wz hz=>by
  have hl:w.heap.size<W1.heap.size:=by rw [<-hW1];show w.heap.size<(w.alloc _).heap.size;simp
  have h:(w.alloc (.cells #[I_ 0,I_ 0,.bool false] 42)).heap[w.heap.size]?=some (.cells #[I_ 0,I_ 0,.bool false] 42 (0,0)):=heap_alloc_new w _;have h':W1.heap[w.heap.size]?=some (.cells #[I_ 0,I_ 0,.bool false] 42 (0,0)):=by rw [<-hW1];exact h
  have hf:∀ o,W1.frozen? ⟨w.heap.size,o,none⟩=false:=fun o=>by
   simp only [World.frozen?,h'];simp
  exact ⟨⟨⟨(hz.frozen (p:=⟨w.heap.size,0,none⟩) hl).trans (hf 0),(hz.frozen (p:=⟨w.heap.size,1,none⟩) hl).trans (hf 1),(hz.frozen (p:=⟨w.heap.size,2,none⟩) hl).trans (hf 2)⟩,
   (hz.cell (p:=⟨w.heap.size,0,none⟩) hl).trans (cell_of_row _ _ 0 _ _ _ h'),(hz.cell (p:=⟨w.heap.size,1,none⟩) hl).trans (cell_of_row _ _ 1 _ _ _ h'),(hz.cell (p:=⟨w.heap.size,2,none⟩) hl).trans (cell_of_row _ _ 2 _ _ _ h')⟩,Nat.lt_of_lt_of_le hl hz.size⟩)
 refine afi ik fun hHeld=>?_
 refine afW 0 ?_;refine tH 8 ?_;refine wpAnyH_ready (rs:=[9,10]) (by kernel_rfl) (by simp) ?_;refine AllReadyH.cons rfl (fun K hK=>?_) (AllReadyH.cons rfl (fun K hK=>?_) AllReadyH.nil)
 ·(rw [if_pos (by rfl)];go_simp;go_at_call 128;refine (HW.o w.drew ⟨rfl,rfl,rfl,Nat.le_refl _,fun _ _=>rfl⟩).mono ?_;rintro e w2 ⟨rfl,nn,hw2⟩;have hb2:Below w.heap.size w w2:=(by rw [hw2];exact ⟨rfl,rfl,rfl,Nat.le_refl _,fun _ _=>rfl⟩);clear hw2;have hc2:=ik.o w2 hb2;go_wp2_with fail)
  refine afS hK fun hHeld=>?_
  clear hK K;refine ahk 10 fun K hK=>?_
  (go_simp)
  refine afS hK fun hHeld=>?_
  clear hK K;refine ahk 11 fun K hK=>?_
  (go_simp)
  refine afS hK fun hHeld=>?_
  clear hK K;refine tH 12 ?_;refine wpAnyH_done (by kernel_rfl) ?_ _;obtain ⟨bx,ebx⟩:∃ b,w2.heap.size=b:=⟨_,rfl⟩;obtain ⟨WF,hWF⟩:∃ W,w2.alloc (.cells #[I_ x,I_ y,.bool z] 42)=W:=⟨_,rfl⟩;have BF:=af (show Below w.heap.size w WF from hWF ▸ hb2.alloc hb2.size _);have HX:=af (show (WF.cell? ⟨bx,0,none⟩=some (I_ x)/\WF.cell? ⟨bx,1,none⟩=some (I_ y)/\WF.cell? ⟨bx,2,none⟩=some (.bool z))/\bx<WF.heap.size/\w.heap.size<=bx from by subst ebx;exact ⟨hWF ▸ Dh.new w2 _ _ _ _,by rw [<-hWF];simp,hb2.size⟩);rw [hWF,ebx];clear hWF ebx hc2 hb2 S1 g0 g1 g2 k6 hW1 S2 HZ B1;obtain ⟨⟨c0,c1,c2⟩,afn,hbx0⟩:=HX.o;obtain ⟨⟨j0,j1,j2,j3⟩,⟨j4,j5,j6,j7,j8⟩,_⟩:=jF.o.below BF.o
  by_cases h0:x=0
  ·subst h0;have HS:=af (show ∀ s,rM p s (n+1)=rM p s n from fun s=>by rw [jU.o,if_neg (by simp [VO])];rfl)
   have bF:=af (show pI_ p n=(((⟨0,y,z⟩:Kx.dV)==Kx.dV.zero)&&wd==0) from bF.o)
   by_cases hy:y=0
   case neg =>
    have HF:=af (show pI_ p n=false by rw [bF.o,show ((⟨0,y,z⟩:Kx.dV)==Kx.dV.zero)=false from by simp [Kx.dV.zero,hy],Bool.false_and]);have hyb:(y==0)=false:=by simpa using hy
    clear bF hy;go_wp2_with fail;go_ret;exact KeptIP.yes HF.o BF.o Hk.o HS.o
   subst hy
   cases z
   case true =>
    have HF:=af (show pI_ p n=false by rw [bF.o];rfl);clear bF;go_wp2_with fail;go_ret;exact KeptIP.yes HF.o BF.o Hk.o HS.o
   have HF:=af (show pI_ p n=(wd==0) by rw [bF.o];rfl);clear bF;go_wp2_with fail;go_ret;exact KeptIP.yes HF.o BF.o Hk.o HS.o
  have hxa:(x==0)=false:=by simpa using h0
  by_cases h1:x=1
  ·subst h1;have HS:=af (show ∀ s,rM p s (n+1)=rM p s n from fun s=>by rw [jU.o,if_neg (by simp [VO])];rfl)
   have Ky:=af (show pI_ p n=(Kx.bK y 0 11&&(wd==Kx.put y.toNat true)&&mine p.k.ag y.toNat) from bF.o);clear bF
   cases hin:Kx.bK y 0 11 with
   | false =>
    have HF:=af (show pI_ p n=false by rw [Ky.o,hin];rfl);have jR:=af hin;clear hin Ky h0 hxa;go_wp2_with fail;refine (abS _ _ jR.o).mono ?_;rintro e w' ⟨rfl,rfl⟩;go_wp2_with fail;go_ret;exact KeptIP.yes HF.o BF.o Hk.o HS.o
   | true =>
    obtain ⟨y0,ZG⟩:=Kx.ay.1 hin;obtain ⟨f,rfl⟩:=Int.eq_ofNat_of_zero_le y0;rw [hin,Bool.true_and,Int.toNat_natCast] at Ky;have dG:f<12:=by omega
    have HC:=af (ab7 p.k.ag f pb vi WF (RS.below HP.o.k.i BF.o) nM.o dG j1);clear hin y0 h0 hxa;generalize hpw:Kx.put f true=pw at Ky;have Hpw:=af hpw;clear hpw
    by_cases hw:wd=pw
    case neg =>
     have hwb:(wd==pw)=false:=by simpa using hw
     have HF:=af (show pI_ p n=false by rw [Ky.o,hwb];rfl);clear Ky hw;go_wp2_with fail;refine (aal f _ dG).mono ?_;rintro e w' ⟨rfl,rfl⟩;rw [Hpw.o];go_wp2_with fail;go_ret;exact KeptIP.yes HF.o BF.o Hk.o HS.o
    have hwb:(wd==pw)=true:=by simpa using hw
    rw [hwb,Bool.true_and] at Ky;clear hw;go_wp2_with fail;refine (aal f _ dG).mono ?_;rintro e w' ⟨rfl,rfl⟩;rw [Hpw.o];go_wp2_with fail;refine HC.o.mono ?_;rintro e w3 ⟨rfl,hb3⟩;have B3:=af (BF.o.trans (hb3.mono BF.o.size));clear hb3 HC c0 c1 c2 j0 j1 j2 j3 j4 j5 j6 j7 j8;go_wp2_with fail;go_ret;exact KeptIP.yes Ky.o B3.o Hk.o HS.o
  have hxb:(x==1)=false:=by simpa using h1
  by_cases h2:x=2
  ·subst h2;have bF:=af (show pI_ p n=(Kx.bK y 0 15&&!z&&wd==0) from bF.o);clear h0 h1 hxa hxb
   cases hin:Kx.bK y 0 15 with
   | false =>
    have HF:=af (show pI_ p n=false by rw [bF.o,hin];rfl);have jR:=af hin;clear hin bF;go_wp2_with fail;refine (jD _ _ _ _).mono ?_;rintro e w' ⟨rfl,rfl⟩;rw [jR.o];go_wp2_with fail;go_ret;exact KeptIP.no HF.o (IG BF.o _)
   | true =>
    have jR:=af hin;obtain ⟨y0,y15⟩:=Kx.ay.1 hin;obtain ⟨s0,rfl⟩:=Int.eq_ofNat_of_zero_le y0;have Yc:s0<16:=by omega
    rw [hin,Bool.true_and] at bF;clear hin y0
    cases z
    case true =>
     have HF:=af (show pI_ p n=false by rw [bF.o];rfl);clear bF;go_wp2_with fail;refine (jD _ _ _ _).mono ?_;rintro e w' ⟨rfl,rfl⟩;rw [jR.o];go_wp2_with fail;go_ret;exact KeptIP.no HF.o (IG BF.o _)
    rw [Bool.not_false,Bool.true_and] at bF
    by_cases hw:wd=0
    case neg =>
     have hwb:(wd==0)=false:=by simpa using hw
     have hwn:(wd != 0)=true:=by simpa using hw
     have HF:=af (show pI_ p n=false by rw [bF.o,hwb]);clear bF hw hwb;go_wp2_with fail;refine (jD _ _ _ _).mono ?_;rintro e w' ⟨rfl,rfl⟩;rw [jR.o];go_wp2_with fail;go_ret;exact KeptIP.no HF.o (IG BF.o _)
    subst hw;have HT:=af (show pI_ p n=true by rw [bF.o];rfl);have hkF:=(Hk.o.below BF.o).oi;obtain ⟨b6,cap6,e,_,hcg,hfg⟩:=hkF.at (k:=s0) (by rw [aaO];exact Yc);obtain ⟨⟨rfl,_,_⟩,yc,rfl⟩:=Zb e;clear e yc;rw [abL] at hcg;have hset:=af (adC 16 (fun s=>rM p s n) (fun s=>rM p s (n+1)) s0 ((rM p s0 n:Int)+1) (by rw [jU.o,if_pos (by simp [VO])];omega) (fun i hi=>by rw [jU.o,if_neg (by simp [VO];omega)];rfl))
    have hst:=hkF.stored (aaO _ _) s0 ((rM p s0 n:Int)+1);rw [hset.o] at hst;have uh:=af hst.1;have JD:=af (grownBy_trans (IG BF.o (some g)) hst.2);have hsI:(s0:Int)<16:=by omega
    have MO:(rM p s0 n:Int)<=1000:=by have:=MN.o s0;omega
    clear hst hset hkF bF;generalize rM p s0 n=q0 at hcg uh MO JD;go_wp2_with fail;refine (jD _ _ _ _).mono ?_;rintro e w' ⟨rfl,rfl⟩;rw [jR.o];go_wp2_with fail;go_ret;exact ⟨by rw [HT.o];rfl,JD.o,fun _=>uh.o.os⟩
  have hxc:(x==2)=false:=by simpa using h2
  have HF:=af (show pI_ p n=false by rw [bF.o,if_neg h0,if_neg h1,if_neg h2]);clear bF h0 h1 h2;go_wp2_with fail;go_ret;exact KeptIP.no HF.o (IG BF.o _)
 (rw [if_pos (by rfl)];go_simp)
 refine hK.out _ _ ?_ (fun hHeld=>?_)
 ·first | exact S2 | assumption | go_keep
 clear hK K;refine nH ?_;refine ahk 9 fun K hK=>?_
 (go_simp;go_at_call 128;refine (HW.o W1 B1.o).mono ?_;rintro e w2 ⟨rfl,nn,hw2⟩;have hb2:Below W1.heap.size W1 w2:=(by rw [hw2];exact ⟨rfl,rfl,rfl,Nat.le_refl _,fun _ _=>rfl⟩);clear hw2;have hb3:=B1.o.trans (hb2.mono B1.o.size);have hc2:=ik.o w2 hb3;obtain ⟨⟨⟨f0,f1,f2⟩,e0,e1,e2⟩,el⟩:=HZ.o w2 hb2;go_wp2_with fail)
 refine afS hK fun hHeld=>?_
 clear hK K;refine ahk 11 fun K hK=>?_
 (go_simp)
 refine hK.out _ _ ?_ (fun hHeld=>?_)
 ·exact ik.o _ (((hb3.setCell (p:=⟨w.heap.size,0,none⟩) aW _).setCell (p:=⟨w.heap.size,1,none⟩) aW _).setCell (p:=⟨w.heap.size,2,none⟩) aW _)
 clear hK K;refine nH ?_;refine tH 12 ?_;refine wpAnyH_done (by kernel_rfl) ?_ _;obtain ⟨bx,ebx⟩:∃ b,w.heap.size=b:=⟨_,rfl⟩;have z0:=World.cell?_setCell_same' w2 ⟨w.heap.size,0,none⟩ (I_ x) (by rw [e0];rfl);have hWF:∃ WF,((w2.setCell ⟨w.heap.size,0,none⟩ (I_ x)).setCell ⟨w.heap.size,1,none⟩ (I_ y)).setCell ⟨w.heap.size,2,none⟩ (.bool z)=WF:=⟨_,rfl⟩;obtain ⟨WF,hWF⟩:=hWF;have BF:=af (show Below w.heap.size w WF from hWF ▸ ((hb3.setCell (p:=⟨w.heap.size,0,none⟩) aW _).setCell (p:=⟨w.heap.size,1,none⟩) aW _).setCell (p:=⟨w.heap.size,2,none⟩) aW _);have HX:=af (show (WF.cell? ⟨bx,0,none⟩=some (I_ x)/\WF.cell? ⟨bx,1,none⟩=some (I_ y)/\WF.cell? ⟨bx,2,none⟩=some (.bool z))/\bx<WF.heap.size/\w.heap.size<=bx from by
  subst ebx;have y1:(w2.setCell ⟨w.heap.size,0,none⟩ (I_ x)).cell? ⟨w.heap.size,1,none⟩=some (I_ 0):=by rw [World.cell?_setCell_other _ _ _ _ (by simp)];exact e1
  have y2:((w2.setCell ⟨w.heap.size,0,none⟩ (I_ x)).setCell ⟨w.heap.size,1,none⟩ (I_ y)).cell? ⟨w.heap.size,2,none⟩=some (.bool false):=by rw [World.cell?_setCell_other _ _ _ _ (by simp),World.cell?_setCell_other _ _ _ _ (by simp)];exact e2
  have hsz:WF.heap.size=w2.heap.size:=by rw [<-hWF];simp
  refine ⟨⟨?_,?_,?_⟩,by rw [hsz];exact el,Nat.le_refl _⟩
  ·rw [<-hWF,World.cell?_setCell_other _ _ _ _ (by simp),World.cell?_setCell_other _ _ _ _ (by simp)];exact z0
  ·rw [<-hWF,World.cell?_setCell_other _ _ _ _ (by simp)];exact World.cell?_setCell_same' _ _ _ (by rw [y1];rfl)
  rw [<-hWF];exact World.cell?_setCell_same' _ _ _ (by rw [y2];rfl))
 clear hc2 f0 f1 f2 e0 e1 e2 el z0;rw [hWF,ebx];clear hWF hb2 hb3 S1 g0 g1 g2 k6 hW1 S2 HZ B1;obtain ⟨⟨c0,c1,c2⟩,afn,hbx0⟩:=HX.o;obtain ⟨⟨j0,j1,j2,j3⟩,⟨j4,j5,j6,j7,j8⟩,_⟩:=jF.o.below BF.o
 by_cases h0:x=0
 ·subst h0;have HS:=af (show ∀ s,rM p s (n+1)=rM p s n from fun s=>by rw [jU.o,if_neg (by simp [VO])];rfl)
  have bF:=af (show pI_ p n=(((⟨0,y,z⟩:Kx.dV)==Kx.dV.zero)&&wd==0) from bF.o)
  by_cases hy:y=0
  case neg =>
   have HF:=af (show pI_ p n=false by rw [bF.o,show ((⟨0,y,z⟩:Kx.dV)==Kx.dV.zero)=false from by simp [Kx.dV.zero,hy],Bool.false_and]);have hyb:(y==0)=false:=by simpa using hy
   clear bF hy;go_wp2_with fail;go_ret;exact KeptIP.yes HF.o BF.o Hk.o HS.o
  subst hy
  cases z
  case true =>
   have HF:=af (show pI_ p n=false by rw [bF.o];rfl);clear bF;go_wp2_with fail;go_ret;exact KeptIP.yes HF.o BF.o Hk.o HS.o
  have HF:=af (show pI_ p n=(wd==0) by rw [bF.o];rfl);clear bF;go_wp2_with fail;go_ret;exact KeptIP.yes HF.o BF.o Hk.o HS.o
 have hxa:(x==0)=false:=by simpa using h0
 by_cases h1:x=1
 ·subst h1;have HS:=af (show ∀ s,rM p s (n+1)=rM p s n from fun s=>by rw [jU.o,if_neg (by simp [VO])];rfl)
  have Ky:=af (show pI_ p n=(Kx.bK y 0 11&&(wd==Kx.put y.toNat true)&&mine p.k.ag y.toNat) from bF.o);clear bF
  cases hin:Kx.bK y 0 11 with
  | false =>
   have HF:=af (show pI_ p n=false by rw [Ky.o,hin];rfl);have jR:=af hin;clear hin Ky h0 hxa;go_wp2_with fail;refine (abS _ _ jR.o).mono ?_;rintro e w' ⟨rfl,rfl⟩;go_wp2_with fail;go_ret;exact KeptIP.yes HF.o BF.o Hk.o HS.o
  | true =>
   obtain ⟨y0,ZG⟩:=Kx.ay.1 hin;obtain ⟨f,rfl⟩:=Int.eq_ofNat_of_zero_le y0;rw [hin,Bool.true_and,Int.toNat_natCast] at Ky;have dG:f<12:=by omega
   have HC:=af (ab7 p.k.ag f pb vi WF (RS.below HP.o.k.i BF.o) nM.o dG j1);clear hin y0 h0 hxa;generalize hpw:Kx.put f true=pw at Ky;have Hpw:=af hpw;clear hpw
   by_cases hw:wd=pw
   case neg =>
    have hwb:(wd==pw)=false:=by simpa using hw
    have HF:=af (show pI_ p n=false by rw [Ky.o,hwb];rfl);clear Ky hw;go_wp2_with fail;refine (aal f _ dG).mono ?_;rintro e w' ⟨rfl,rfl⟩;rw [Hpw.o];go_wp2_with fail;go_ret;exact KeptIP.yes HF.o BF.o Hk.o HS.o
   have hwb:(wd==pw)=true:=by simpa using hw
   rw [hwb,Bool.true_and] at Ky;clear hw;go_wp2_with fail;refine (aal f _ dG).mono ?_;rintro e w' ⟨rfl,rfl⟩;rw [Hpw.o];go_wp2_with fail;refine HC.o.mono ?_;rintro e w3 ⟨rfl,hb3⟩;have B3:=af (BF.o.trans (hb3.mono BF.o.size));clear hb3 HC c0 c1 c2 j0 j1 j2 j3 j4 j5 j6 j7 j8;go_wp2_with fail;go_ret;exact KeptIP.yes Ky.o B3.o Hk.o HS.o
 have hxb:(x==1)=false:=by simpa using h1
 by_cases h2:x=2
 ·subst h2;have bF:=af (show pI_ p n=(Kx.bK y 0 15&&!z&&wd==0) from bF.o);clear h0 h1 hxa hxb
  cases hin:Kx.bK y 0 15 with
  | false =>
   have HF:=af (show pI_ p n=false by rw [bF.o,hin];rfl);have jR:=af hin;clear hin bF;go_wp2_with fail;refine (jD _ _ _ _).mono ?_;rintro e w' ⟨rfl,rfl⟩;rw [jR.o];go_wp2_with fail;go_ret;exact KeptIP.no HF.o (IG BF.o _)
  | true =>
   have jR:=af hin;obtain ⟨y0,y15⟩:=Kx.ay.1 hin;obtain ⟨s0,rfl⟩:=Int.eq_ofNat_of_zero_le y0;have Yc:s0<16:=by omega
   rw [hin,Bool.true_and] at bF;clear hin y0
   cases z
   case true =>
    have HF:=af (show pI_ p n=false by rw [bF.o];rfl);clear bF;go_wp2_with fail;refine (jD _ _ _ _).mono ?_;rintro e w' ⟨rfl,rfl⟩;rw [jR.o];go_wp2_with fail;go_ret;exact KeptIP.no HF.o (IG BF.o _)
   rw [Bool.not_false,Bool.true_and] at bF
   by_cases hw:wd=0
   case neg =>
    have hwb:(wd==0)=false:=by simpa using hw
    have hwn:(wd != 0)=true:=by simpa using hw
    have HF:=af (show pI_ p n=false by rw [bF.o,hwb]);clear bF hw hwb;go_wp2_with fail;refine (jD _ _ _ _).mono ?_;rintro e w' ⟨rfl,rfl⟩;rw [jR.o];go_wp2_with fail;go_ret;exact KeptIP.no HF.o (IG BF.o _)
   subst hw;have HT:=af (show pI_ p n=true by rw [bF.o];rfl);have hkF:=(Hk.o.below BF.o).oi;obtain ⟨b6,cap6,e,_,hcg,hfg⟩:=hkF.at (k:=s0) (by rw [aaO];exact Yc);obtain ⟨⟨rfl,_,_⟩,yc,rfl⟩:=Zb e;clear e yc;rw [abL] at hcg;have hset:=af (adC 16 (fun s=>rM p s n) (fun s=>rM p s (n+1)) s0 ((rM p s0 n:Int)+1) (by rw [jU.o,if_pos (by simp [VO])];omega) (fun i hi=>by rw [jU.o,if_neg (by simp [VO];omega)];rfl))
   have hst:=hkF.stored (aaO _ _) s0 ((rM p s0 n:Int)+1);rw [hset.o] at hst;have uh:=af hst.1;have JD:=af (grownBy_trans (IG BF.o (some g)) hst.2);have hsI:(s0:Int)<16:=by omega
   have MO:(rM p s0 n:Int)<=1000:=by have:=MN.o s0;omega
   clear hst hset hkF bF;generalize rM p s0 n=q0 at hcg uh MO JD;go_wp2_with fail;refine (jD _ _ _ _).mono ?_;rintro e w' ⟨rfl,rfl⟩;rw [jR.o];go_wp2_with fail;go_ret;exact ⟨by rw [HT.o];rfl,JD.o,fun _=>uh.o.os⟩
 have hxc:(x==2)=false:=by simpa using h2
 have HF:=af (show pI_ p n=false by rw [bF.o,if_neg h0,if_neg h1,if_neg h2]);clear bF h0 h1 h2;go_wp2_with fail;go_ret;exact KeptIP.no HF.o (IG BF.o _)

theorem ac7 (p:Kx.aH) (n:Nat):Kx.dC p n=(pI_ p n&&(if (Kx.aA p.pages n).wh=2 then !(Kx.row p.swap (Kx.aA p.pages n).at_.toNat).isEmpty else true)):=by
 rw [GU,aed];unfold mine
 by_cases h0:(Kx.aA p.pages n).wh=0
 ·rw [if_pos h0,if_pos h0,if_neg (by omega),Bool.and_true]
 rw [if_neg h0,if_neg h0]
 by_cases h1:(Kx.aA p.pages n).wh=1
 ·rw [if_pos h1,if_pos h1,if_neg (by omega),Bool.and_true];simp only [Bool.and_assoc]
 rw [if_neg h1,if_neg h1]
 by_cases h2:(Kx.aA p.pages n).wh=2
 ·rw [if_pos h2,if_pos h2,if_pos h2];generalize Kx.bK (Kx.aA p.pages n).at_ 0 15=a;generalize (Kx.row p.swap (Kx.aA p.pages n).at_.toNat).isEmpty=b;generalize (Kx.aA p.pages n).used=c;generalize (Kx.word p.k.mem (p.low.getD (n / 4) 0).toNat (n % 4)==0)=d
  cases a <;> cases b <;> cases c <;> cases d <;> rfl
 rw [if_neg h2,if_neg h2,if_neg h2];rfl
def cE (k:Kx.Kernel) (i:Nat):Bool:=Kx.may (Kx.au k.ah i).aB Kx.sA==(i==0)
theorem adD {k:Kx.Kernel} (h:k.ah.length=3):Kx.alone k=(cE k 0&&cE k 1&&cE k 2):=by
 rw [H9 h];unfold Md cE;generalize Kx.may (Kx.au k.ah 0).aB Kx.sA=a;generalize Kx.may (Kx.au k.ah 1).aB Kx.sA=b;generalize Kx.may (Kx.au k.ah 2).aB Kx.sA=c
 cases a <;> cases b <;> cases c <;> rfl
theorem adZ {p:Kx.aH} {n:Nat} (hn:n<p.pages.length) (hw:(Kx.aA p.pages n).wh=2) (ha:0<=(Kx.aA p.pages n).at_):0<Kx.qf p (Kx.aA p.pages n).at_.toNat:=by
 unfold Kx.qf;rw [List.countP_pos_iff];have e:Kx.aA p.pages n=p.pages[n]:=by simp [Kx.aA,hn]
 refine ⟨p.pages[n],List.getElem_mem hn,?_⟩;rw [<-e,hw,Int.toNat_of_nonneg ha];simp
theorem aaQ (p:Kx.aH):Kx.bI p=(az p.k&&jE p.swap&&Kx.alone p.k&&iC p&&p.pages.length==16&&(List.range p.swap.length).all (Ie p)&&(List.range 16).all (Kx.dC p) &&
  Kx.bK p.hand 0 15&&Kx.bK p.limit 1 6&&decide ((Kx.countP p 1:Int)<=p.limit)):=by
 rw [<-DK];rfl
theorem PF1 {p:Kx.aH} (he:p.k.ah.length=3) {i:Nat} (hi:i<3) (h:cE p.k i=false):Kx.bI p=false:=by
 have:Kx.alone p.k=false:=by
  rw [adD he];have:i=0\/i=1\/i=2:=by omega
  rcases this with rfl | rfl | rfl <;> rw [h] <;> simp
 rw [aaQ,this];simp
theorem PF2 {p:Kx.aH} {n:Nat} (hn:n<16) (h:pI_ p n=false):Kx.bI p=false:=by
 have:(List.range 16).all (Kx.dC p)=false:=by
  rw [List.all_eq_false];exact ⟨n,by simpa using hn,by rw [ac7,h];simp⟩
 rw [aaQ,this];simp
theorem PF3 {p:Kx.aH} {s:Nat} (hs:s<p.swap.length) (h:Ie p s=false):Kx.bI p=false:=by
 have:(List.range p.swap.length).all (Ie p)=false:=by
  rw [List.all_eq_false];exact ⟨s,by simpa using hs,by rw [h];simp⟩
 rw [aaQ,this];simp
theorem PT_ {p:Kx.aH} (h1:az p.k=true) (h2:jE p.swap=true) (h3:p.pages.length=16) (h4:iC p=true) (h5:∀ i,i<3->cE p.k i=true) (h6:∀ n,n<16->pI_ p n=true) (h7:∀ s,s<16->Ie p s=true) :
  Kx.bI p=(Kx.bK p.hand 0 15&&Kx.bK p.limit 1 6&&decide ((Kx.countP p 1:Int)<=p.limit)):=by
 have hsl:p.swap.length=16:=by unfold jE at h2;simp only [Bool.and_eq_true] at h2;simpa using h2.2
 have he:=(aI h1).2.2.2.2.1;have e1:Kx.alone p.k=true:=by rw [adD he,h5 0 (by omega),h5 1 (by omega),h5 2 (by omega)];rfl
 have e2:(List.range p.swap.length).all (Ie p)=true:=by rw [List.all_eq_true,hsl];exact fun s hs=>h7 s (by simpa using hs)
 have e3:(List.range 16).all (Kx.dC p)=true:=by
  rw [List.all_eq_true];intro n hn;have hn:n<16:=by simpa using hn
  rw [ac7,h6 n hn,Bool.true_and];split
  ·rename_i hw
   have hp:=h6 n hn;rw [aed,if_neg (by omega),if_neg (by omega),if_pos hw] at hp;simp only [Bool.and_eq_true] at hp;obtain ⟨a0,a15⟩:=Kx.ay.1 hp.1.1;have hs:=h7 (Kx.aA p.pages n).at_.toNat (by omega);have hpos:=adZ (by omega) hw a0;unfold Ie at hs
   cases hq:(Kx.row p.swap (Kx.aA p.pages n).at_.toNat).isEmpty
   ·rfl
   rw [hq] at hs;have:Kx.qf p (Kx.aA p.pages n).at_.toNat=0:=by simpa using hs
   omega
  rfl
 rw [aaQ,h1,h2,e1,h4,e2,e3,show (p.pages.length==16)=true from by simpa using h3];simp only [Bool.true_and]
theorem ack (p:Kx.aH) (vm vi ve vc vs vl vp:Value) (w:World) (h:RP w vm vi ve vc vs vl vp p) (hs:iQ p.k) :
  Calls prog 11 #[bU vm vi ve vc vs vl vp p.hand p.limit] w fun e w'=>e=.returned (.bool (Kx.bI p))/\Below w.heap.size w w':=by
 obtain ⟨hand,aee⟩:∃ x,p.hand=x:=⟨_,rfl⟩;obtain ⟨limit,hlim⟩:∃ x,p.limit=x:=⟨_,rfl⟩;have aeS:=af aee;have afo:=af hlim;rw [aee,hlim];clear aee hlim;obtain ⟨w0,hw0⟩:∃ w0,w.alloc (.cells #[vm,vi,ve,vc,vs,vl,vp,I_ hand,I_ limit] 32)=w0:=⟨_,rfl⟩;have dB:=af (show Below w.heap.size w w0 from hw0 ▸ (Below.refl w.heap.size w).alloc aW _);have jF:=af (show su w0 w.heap.size vm vi ve vc vs vl vp hand limit from hw0 ▸ su.new w vm vi ve vc vs vl vp hand limit _);have HP:=af (h.below dB.o);have Hs:=af hs;have HV:=af (aaQ p);obtain ⟨ap,cp,rfl,_,_⟩:=RS.val h.g;obtain ⟨_,ae,ce,rfl,_,_⟩:=h.k.e.len;obtain ⟨_,as0,cs0,rfl,_,_⟩:=h.s.len;have hpl0:=h.g.1;obtain ⟨⟨k0,k1,k2,k3⟩,⟨k4,k5,k6,k7,k8⟩,hbl⟩:=jF.o;clear h hs hbl;unfold bU;go_enter func11,ntmps11;go_wp2_with fail;clear hw0
 refine (mX p.k _ _ _ _ _ HP.o.k Hs.o).mono ?_;rintro e w1 ⟨rfl,hb1⟩;have B1:=af hb1;clear hb1;obtain ⟨⟨a0,a1,a2,a3⟩,⟨a4,a5,a6,a7,a8⟩,_⟩:=jF.o.below B1.o;clear k0 k1 k2 k3 k4 k5 k6 k7 k8
 cases hm:az p.k
 ·have HF:=af (show Kx.bI p=false by rw [HV.o,hm];rfl);clear hm HV;go_wp2_with fail;go_ret;exact ⟨ak HF.o.symm,dB.o.trans (B1.o.mono dB.o.size)⟩
 have Hm:=af hm;clear hm;go_wp2_with fail;refine (acw p.swap _ _ (HP.o.s.below B1.o)).mono ?_;rintro e w2 ⟨rfl,hb2⟩;have B2:=af (B1.o.trans (hb2.mono B1.o.size));clear hb2;obtain ⟨⟨k0,k1,k2,k3⟩,⟨k4,k5,k6,k7,k8⟩,_⟩:=jF.o.below B2.o;clear a0 a1 a2 a3 a4 a5 a6 a7 a8
 cases hm:jE p.swap
 ·have HF:=af (show Kx.bI p=false by rw [HV.o,hm];simp);clear hm HV;go_wp2_with fail;go_ret;exact ⟨ak HF.o.symm,dB.o.trans (B2.o.mono dB.o.size)⟩
 have ZE:=af hm;clear hm
 by_cases h16:p.pages.length=16
 case neg =>
  have HF:=af (show Kx.bI p=false by rw [HV.o,show (p.pages.length==16)=false from by simpa using h16];simp);have hne:((p.pages.length:Int) != 16)=true:=by rw [bne_iff_ne];omega
  clear HV h16;go_wp2_with fail;go_ret;exact ⟨ak HF.o.symm,dB.o.trans (B2.o.mono dB.o.size)⟩
 have hne:((p.pages.length:Int) != 16)=false:=by rw [bne_eq_false_iff_eq];omega
 have Hpl:=af h16;clear h16;go_wp2_with fail;refine (adS p w.heap.size _ _ _ _ _ _ _ hand limit w2 (HP.o.below B2.o) (jF.o.below B2.o) Hm.o).mono ?_;rintro e w3 ⟨rfl,hb3⟩;have B3:=af (B2.o.trans (hb3.mono B2.o.size));clear hb3;obtain ⟨⟨a0,a1,a2,a3⟩,⟨a4,a5,a6,a7,a8⟩,_⟩:=jF.o.below B3.o;clear k0 k1 k2 k3 k4 k5 k6 k7 k8
 cases hm:iC p
 ·have HF:=af (show Kx.bI p=false by rw [HV.o,hm];simp);clear hm HV;go_wp2_with fail;go_ret;exact ⟨ak HF.o.symm,dB.o.trans (B3.o.mono dB.o.size)⟩
 have Ht:=af hm;clear hm;obtain ⟨hmo,jI,h12,hco,hen,hro⟩:=aI Hm.o;have kG:=af hmo;have nM:=af jI;have L_:=af hen;have Hll:=af (show p.low.length=4/\∀ i,i<4->0<=p.low.getD i 0/\p.low.getD i 0<=11 by
  have:=Ht.o
  rw [Qz] at this;simp only [Bool.and_eq_true,List.all_eq_true] at this;refine ⟨by simpa using this.1.1.2,fun i hi=>?_⟩
  have h2:=this.2 i (by simpa using hi);rw [QA] at h2;simp only [Bool.and_eq_true] at h2;exact Kx.ay.1 h2.1.1)
 have Vo:=af (show p.swap.length=16 by have:=ZE.o;unfold jE at this;simp only [Bool.and_eq_true] at this;simpa using this.2);clear hmo jI h12 hco hen hro HV;go_wp2_with fail;go_loopw [33] (fun i wr=>∃ q:Nat,i=I_ q/\q<=p.k.ah.length/\TI (∀ j,j<q->cE p.k j=true)/\TI (Below w0.heap.size w0 wr)) (fun i _=>p.k.ah.length - (intOf i).toNat)
 case atStart=>exact ⟨0,rfl,Nat.zero_le _,fun j hj=>absurd hj (Nat.not_lt_zero _),B3.o⟩
 case round =>
  clear a0 a1 a2 a3 a4 a5 a6 a7 a8 B3 B2 B1;obtain ⟨q,rfl,hq,hall,hb⟩:=hrel
  by_cases hlt:q<p.k.ah.length
  ·obtain ⟨b,off,cap,u,ev,hbb,h1,h2,hR⟩:=(HP.o.k.e.below hb.o).at hlt;obtain ⟨rfl,_,rfl⟩:=Za ev;clear ev;have kQ:(q:Int)<(p.k.ah.length:Int):=by omega
   have hq3:q<3:=by have:=L_.o;omega
   have HB:=af (show cE p.k q=false->Kx.bI p=false from fun h=>PF1 L_.o hq3 h);have HN:=af (show cE p.k q=true->∀ j,j<q+1->cE p.k j=true from fun h=>fF hall.o h);have bF:=af (show cE p.k q=(Kx.may (Kx.au p.k.ah q).aB Kx.sA==(q==0)) from rfl);have HR:=af hR;clear hR;generalize (Kx.au p.k.ah q).root=r at h2;generalize (Kx.au p.k.ah q).aB=l at HR bF;obtain ⟨W1,hW1⟩:∃ W1,wr.alloc (.cells #[u,I_ r] 86)=W1:=⟨_,rfl⟩;have B1:=af (show Below wr.heap.size wr W1 from hW1 ▸ dm);obtain ⟨c0,c1,_⟩:=(show W1.cell? ⟨wr.heap.size,0,none⟩=some u/\W1.cell? ⟨wr.heap.size,1,none⟩=some (I_ r)/\wr.heap.size<W1.heap.size from hW1 ▸ Pz.new wr u (I_ r) 86);have jH:=af (hb.o.trans (B1.o.mono hb.o.size));have HM:=af (AP l Kx.sA u W1 (RS.below HR.o B1.o));unfold Kx.sA at HM;obtain ⟨x,y,hx,_,_⟩:=RS.val HR.o;subst hx
   have hqz:((q:Int)==0)=(q==0):=by rw [Bool.eq_iff_iff];simp
   generalize hz:(q==0)=z at hqz bF;have hm0:Kx.may l ⟨#[97]⟩=Kx.may l Kx.sA:=rfl;rw [hm0] at HM;clear hm0 hz;generalize Kx.may l Kx.sA=my at HM bF
   cases hc:(my==z) with
   | false =>
    have HF:=af (HB.o (by rw [bF.o,hc]));have hcn:(my != z)=true:=by cases my <;> cases z <;> simp_all
    have hcm:(!my==z)=true:=by cases my <;> cases z <;> simp_all
    clear HB HN bF hc;go_wp2_with fail;refine HM.o.mono ?_;rintro e w4 ⟨rfl,hb4⟩;have B4:=af (jH.o.trans (hb4.mono jH.o.size));clear hb4;go_wp2_with fail;go_ret;exact ⟨ak HF.o.symm,dB.o.trans (B4.o.mono dB.o.size)⟩
   | true =>
    have ug:=af (HN.o (by rw [bF.o,hc]));have hcn:(my != z)=false:=by cases my <;> cases z <;> simp_all
    have hcm:(!my==z)=false:=by cases my <;> cases z <;> simp_all
    clear HB HN bF hc;go_wp2_with fail;refine HM.o.mono ?_;rintro e w4 ⟨rfl,hb4⟩;have B4:=af (jH.o.trans (hb4.mono jH.o.size));clear hb4;go_wp2_with fail;go_roundw
    case rel=>exact ⟨q+1,by go_num,by omega,ug.o,B4.o⟩
    case measure=>simp [intOf];omega
  have HE:=af (show ∀ i,i<3->cE p.k i=true from fun i hi=>hall.o i (by have:=L_.o;omega))
  obtain ⟨⟨a0,a1,a2,a3⟩,⟨a4,a5,a6,a7,a8⟩,_⟩:=jF.o.below hb.o;have hmk:∀ w:World,(Instr.makeSlice 29 (I_ 16) (I_ 16)).run prog w=.ok (.slice (some ⟨w.heap.size,0,none⟩) 16 16) (w.alloc (.cells #[I_ 0,I_ 0,I_ 0,I_ 0,I_ 0,I_ 0,I_ 0,I_ 0,I_ 0,I_ 0,I_ 0,I_ 0,I_ 0,I_ 0,I_ 0,I_ 0] 3)):=fun _=>by kernel_rfl
  obtain ⟨g,hg⟩:∃ g,wr.heap.size=g:=⟨_,rfl⟩;obtain ⟨W2,hW2⟩:∃ W2,wr.alloc (.cells #[I_ 0,I_ 0,I_ 0,I_ 0,I_ 0,I_ 0,I_ 0,I_ 0,I_ 0,I_ 0,I_ 0,I_ 0,I_ 0,I_ 0,I_ 0,I_ 0] 3)=W2:=⟨_,rfl⟩;have K0:=af (show OS iR 1 3 W2 g (.slice (some ⟨g,0,none⟩) 16 16) (abH 16 fun s=>rM p s 0) from by
   rw [show (abH 16 fun s=>rM p s 0)=[0,0,0,0,0,0,0,0,0,0,0,0,0,0,0,0] from by rw [abZ (F':=fun _=>0) (fun s _=>Ib p s)];rfl,<-hW2,<-hg];exact OS.lit (l:=[0,0,0,0,0,0,0,0,0,0,0,0,0,0,0,0]) aW _ rfl rfl (by simp))
  have Hg:=af (show w0.heap.size<=g by rw [<-hg];exact hb.o.size);have BW:=af (show Below w0.heap.size w0 W2 from hW2 ▸ hb.o.alloc hb.o.size _);have a6':=(jF.o.below BW.o).2.1.2.2.1;clear hall;go_wp2_with fail;clear hmk hW2 hg;go_loopw [49] (fun i wi=>∃ n:Nat,i=I_ n/\n<=p.pages.length/\TI (∀ j,j<n->pI_ p j=true)/\TI (OS iR 1 3 wi g (.slice (some ⟨g,0,none⟩) 16 16) (abH 16 fun s=>rM p s n))/\TI (Below w0.heap.size w0 wi)) (fun i _=>p.pages.length - (intOf i).toNat)
  case atStart=>exact ⟨0,rfl,Nat.zero_le _,fun j hj=>absurd hj (Nat.not_lt_zero _),K0.o,BW.o⟩
  case round =>
   clear a0 a1 a2 a3 a4 a5 a6 a7 a8 a6' K0 BW hb;obtain ⟨n,rfl,hn,hall,hk,hb⟩:=hrel
   by_cases hlt:n<p.pages.length
   ·have hn16:n<16:=by have:=Hpl.o;omega
    have kQ:(n:Int)<(p.pages.length:Int):=by omega
    have HC:=af (adX p n w.heap.size g g 16 _ _ _ _ _ _ _ hand limit wr (HP.o.below hb.o) (jF.o.below hb.o) kG.o nM.o Hpl.o Hll.o.1 Hll.o.2 hn16 hk.o);go_wp2_with fail;refine HC.o.mono ?_;rintro e w4 ⟨rfl,hgr,hk4⟩;have B4:=af (hb.o.grown hgr hb.o.size (fun j hj=>by cases hj;exact Hg.o));have Y_:=af hk4;clear hgr hk4 HC
    cases hp:pI_ p n with
    | false =>
     have HF:=af (PF2 hn16 hp);clear hp;go_wp2_with fail;go_ret;exact ⟨ak HF.o.symm,dB.o.trans (B4.o.mono dB.o.size)⟩
    | true =>
     have ug:=af (fF (P:=fun j=>pI_ p j) hall.o hp);have Hk5:=af (Y_.o hp);clear hp;go_wp2_with fail;go_roundw
     case rel=>exact ⟨n+1,by go_num,by omega,ug.o,Hk5.o,B4.o⟩
     case measure=>simp [intOf];omega
   have HI:=af (show ∀ n,n<16->pI_ p n=true from fun i hi=>hall.o i (by have:=Hpl.o;omega))
   have aeT:n=16:=by have:=Hpl.o;omega
   have K16:=af (show OS iR 1 3 wr g (.slice (some ⟨g,0,none⟩) 16 16) (abH 16 fun s=>Kx.qf p s) from by
    have h9:=hk.o;rw [show (abH 16 fun s=>rM p s n)=abH 16 fun s=>Kx.qf p s from abZ fun s _=>by rw [aeT,<-Hpl.o,JU]] at h9
    exact h9)
   obtain ⟨⟨a0,a1,a2,a3⟩,⟨a4,a5,a6,a7,a8⟩,_⟩:=jF.o.below hb.o;clear hall hk aeT;go_wp2_with fail;go_loopw [59] (fun i wi=>∃ s:Nat,i=I_ s/\s<=16/\TI (∀ j,j<s->Ie p j=true)/\TI (wi=wr)) (fun i _=>16 - (intOf i).toNat)
   case atStart=>exact ⟨0,rfl,Nat.zero_le _,fun j hj=>absurd hj (Nat.not_lt_zero _),rfl⟩
   case round =>
    obtain ⟨s,rfl,hs,hall,hwq⟩:=hrel;obtain rfl:=hwq.o
    by_cases hlt:s<16
    ·have hsI:(s:Int)<16:=by omega
     obtain ⟨b6,cap6,e,_,hcg,_⟩:=K16.o.oi.at (k:=s) (by rw [aaO];exact hlt);obtain ⟨⟨rfl,_,_⟩,yc,rfl⟩:=Zb e;clear e yc;rw [abL] at hcg;have hss:s<p.swap.length:=by rw [Vo.o];exact hlt
     have agG:(s:Int)<(p.swap.length:Int):=by omega
     obtain ⟨b7,agH,agI,u7,e,_,hc7,hr7⟩:=(HP.o.s.below hb.o).at hss;obtain ⟨rfl,_,rfl⟩:=Za e;clear e;obtain ⟨a9,c9,rfl⟩:=hr7.val;have hrl:=hr7.1;have HB:=af (show Ie p s=false->Kx.bI p=false from fun h=>PF3 hss h);have HN:=af (show Ie p s=true->∀ j,j<s+1->Ie p j=true from fun h=>fF hall.o h);have bF:=af (show Ie p s=(Kx.qf p s==if (Kx.row p.swap s).isEmpty then 0 else 1) from rfl);clear hr7;generalize Kx.qf p s=n0 at hcg bF;generalize Kx.row p.swap s=ws at hc7 bF hrl
     by_cases hws:ws=[]
     ·subst hws
      by_cases hn0:n0=0
      ·subst hn0;have ug:=af (HN.o (by rw [bF.o];rfl));clear HB HN bF;go_wp2_with fail;go_roundw
       case rel=>exact ⟨s+1,by go_num,by omega,ug.o,by first | exact rfl | exact af trivial⟩
       case measure=>simp [intOf];omega
      have HF:=af (HB.o (by rw [bF.o];simpa using hn0));have hne0:((n0:Int) != 0)=true:=by rw [bne_iff_ne];omega
      clear HB HN bF hn0;go_wp2_with fail;go_ret;exact ⟨ak HF.o.symm,dB.o.trans (hb.o.mono dB.o.size)⟩
     have hpos:decide (0<ws.length)=true:=by simpa using List.length_pos_iff.2 hws
     have hz0:((ws.length:Int)==0)=false:=by rw [beq_eq_false_iff_ne];have:=List.length_pos_iff.2 hws;omega
     have hem:ws.isEmpty=false:=by cases ws with | nil=>exact absurd rfl hws | cons=>rfl
     rw [hem] at bF;clear hws hem
     by_cases hn1:n0=1
     ·subst hn1;have ug:=af (HN.o (by rw [bF.o];rfl));clear HB HN bF;go_wp2_with fail;go_roundw
      case rel=>exact ⟨s+1,by go_num,by omega,ug.o,by first | exact rfl | exact af trivial⟩
      case measure=>simp [intOf];omega
     have HF:=af (HB.o (by rw [bF.o];simpa using hn1));have hne0:((n0:Int) != 1)=true:=by rw [bne_iff_ne];omega
     clear HB HN bF hn1;go_wp2_with fail;go_ret;exact ⟨ak HF.o.symm,dB.o.trans (hb.o.mono dB.o.size)⟩
    have HV:=af (PT_ Hm.o ZE.o Hpl.o Ht.o HE.o HI.o (fun j hj=>hall.o j (by omega)))
    rw [aeS.o,afo.o] at HV;have HC:=af (show ∀ wz,Below wr.heap.size wr wz->Calls prog 50 #[.pointer (some ⟨w.heap.size,0,none⟩),I_ 1] wz fun e w'=>e=.returned (I_ (Kx.countP p 1))/\Below wz.heap.size wz w' from fun wz hz =>
     ady p 1 w.heap.size _ wz (RS.below HP.o.g (hb.o.trans (hz.mono hb.o.size))) (jF.o.below (hb.o.trans (hz.mono hb.o.size))).2.1.2.2.1)
    have Q4:=af (jF.o.below hb.o).2.2;generalize Kx.countP p 1=cn at HV HC;have ik:=af (show ∀ wz,Below wr.heap.size wr wz->(wz.cell? ⟨w.heap.size,7,none⟩=some (I_ hand)/\wz.cell? ⟨w.heap.size,8,none⟩=some (I_ limit)) from fun wz hz=>⟨(hz.cell (p:=⟨w.heap.size,7,none⟩) Q4.o).trans a7,(hz.cell (p:=⟨w.heap.size,8,none⟩) Q4.o).trans a8⟩)
    have S1:=ik.o wr fZ;clear a0 a1 a2 a3 a4 a5 a6 hall
    cases hh:Kx.bK hand 0 15 with
    | false =>
     have HF:=af (show Kx.bI p=false by rw [HV.o,hh];rfl);have Hh:=af hh;clear hh HV;go_wp2_with fail;refine afi ik fun hHeld=>?_
     refine afU 0 ?_;refine ahk 2 fun K hK=>?_
     (go_simp;go_at_call 49;refine (jD _ _ _ _).mono ?_;rintro e w' ⟨rfl,rfl⟩;rw [Hh.o];go_wp2_with fail)
     refine afS hK fun hHeld=>?_
     clear hK K;refine afW 3 ?_;refine afV 11 ?_;refine wpAnyH_done (by kernel_rfl) ?_ _;go_wp2_with fail;go_ret;exact ⟨ak HF.o.symm,dB.o.trans ((hb.o.trans ((show Below wr.heap.size wr wr.drew from ⟨rfl,rfl,rfl,Nat.le_refl _,fun _ _=>rfl⟩).mono hb.o.size)).mono dB.o.size)⟩
    | true =>
     cases hl:Kx.bK limit 1 6 with
     | false =>
      have HF:=af (show Kx.bI p=false by rw [HV.o,hh,hl];rfl);have Hh:=af hh;have Hl:=af hl;clear hh hl HV;go_wp2_with fail;refine afi ik fun hHeld=>?_
      refine afU 0 ?_;refine ahk 2 fun K hK=>?_
      (go_simp;go_at_call 49;refine (jD _ _ _ _).mono ?_;rintro e w' ⟨rfl,rfl⟩;rw [Hh.o];go_wp2_with fail)
      refine afS hK fun hHeld=>?_
      clear hK K;refine afU 3 ?_;refine tH 5 ?_;refine ahk 6 fun K hK=>?_
      (go_simp;go_at_call 49;refine (jD _ _ _ _).mono ?_;rintro e w' ⟨rfl,rfl⟩;rw [Hl.o];go_wp2_with fail)
      refine afS hK fun hHeld=>?_
      clear hK K;refine afW 7 ?_;refine wpAnyH_done (by kernel_rfl) ?_ _;go_wp2_with fail;go_ret;exact ⟨ak HF.o.symm,dB.o.trans ((hb.o.trans ((show Below wr.heap.size wr wr.drew from ⟨rfl,rfl,rfl,Nat.le_refl _,fun _ _=>rfl⟩).mono hb.o.size)).mono dB.o.size)⟩
     | true =>
      have HF:=af (show Kx.bI p=decide ((cn:Int)<=limit) by rw [HV.o,hh,hl];rfl);have Hh:=af hh;have Hl:=af hl;clear hh hl HV;go_wp2_with fail;refine afi ik fun hHeld=>?_
      refine afU 0 ?_;refine ahk 2 fun K hK=>?_
      (go_simp;go_at_call 49;refine (jD _ _ _ _).mono ?_;rintro e w' ⟨rfl,rfl⟩;rw [Hh.o];go_wp2_with fail)
      refine afS hK fun hHeld=>?_
      clear hK K;refine afU 3 ?_;refine tH 5 ?_;refine ahk 6 fun K hK=>?_
      (go_simp;go_at_call 49;refine (jD _ _ _ _).mono ?_;rintro e w' ⟨rfl,rfl⟩;rw [Hl.o];go_wp2_with fail)
      refine afS hK fun hHeld=>?_
      clear hK K;refine afU 7 ?_;refine afU 10 ?_;refine ahk 9 fun K hK=>?_
      (go_simp;go_at_call 50;refine (HC.o _ (by first | exact Below.refl _ _ | exact ⟨rfl,rfl,rfl,Nat.le_refl _,fun _ _=>rfl⟩)).mono ?_;rintro e w5 ⟨rfl,hb5⟩;have hb6:Below wr.heap.size wr w5:=⟨hb5.os,hb5.tape,hb5.output,hb5.size,hb5.block⟩;have hc6:=ik.o w5 hb6;go_wp2_with fail)
      refine afS hK fun hHeld=>?_
      clear hK K;refine afU 12 ?_;refine tH 14 ?_;refine wpAnyH_done (by kernel_rfl) ?_ _;go_wp2_with fail;go_ret;exact ⟨ak HF.o.symm,dB.o.trans ((hb.o.trans (hb6.mono hb.o.size)).mono dB.o.size)⟩

theorem aea (p:Kx.aH) (ad:Int) (vm vi ve vc vs vl vp:Value) (w:World) (h:RP w vm vi ve vc vs vl vp p) (hs:iQ p.k) :
  Calls prog 17 #[bU vm vi ve vc vs vl vp p.hand p.limit,I_ ad] w fun e w'=>e=.returned (I_ (Kx.Ro p ad))/\Below w.heap.size w w':=by
 obtain ⟨w0,hw0⟩:∃ w0,w.alloc (.cells #[vm,vi,ve,vc,vs,vl,vp,I_ p.hand,I_ p.limit] 32)=w0:=⟨_,rfl⟩;have dB:=af (show Below w.heap.size w w0 from hw0 ▸ (Below.refl w.heap.size w).alloc aW _);have jF:=af (show su w0 w.heap.size vm vi ve vc vs vl vp p.hand p.limit from hw0 ▸ su.new w vm vi ve vc vs vl vp p.hand p.limit _);have HP:=af (h.below dB.o);have Hs:=af hs;have HV:=af (show Kx.Ro p ad=if !Kx.bI p||!Kx.bK ad 0 63 then -1 else Kx.Uo p ad.toNat from rfl);obtain ⟨⟨m0,m1,m2,m3⟩,⟨m4,m5,m6,m7,m8⟩,_⟩:=jF.o;have HC:=af (ack p vm vi ve vc vs vl vp w0 HP.o Hs.o);clear h hs;unfold bU at HC ⊢;go_enter func17,ntmps17;go_wp2_with fail;clear hw0;refine HC.o.mono ?_;rintro e w1 ⟨rfl,hb1⟩;have B1:=af hb1;clear hb1 m0 m1 m2 m3 m4 m5 m6 m7 m8 HC;obtain ⟨⟨m0,m1,m2,m3⟩,⟨m4,m5,m6,m7,m8⟩,_⟩:=jF.o.below B1.o
 cases hv:Kx.bI p with
 | false =>
  have HF:=af (show Kx.Ro p ad=-1 by rw [HV.o,hv];rfl);clear hv HV;go_wp2_with fail;go_ret;exact ⟨by rw [HF.o];rfl,dB.o.trans (B1.o.mono dB.o.size)⟩
 | true =>
  have V1:=af hv;clear hv;go_wp2_with fail;refine (qI _ _).mono ?_;rintro e w' ⟨rfl,rfl⟩
  cases hv:Kx.bK ad 0 63 with
  | false =>
   have HF:=af (show Kx.Ro p ad=-1 by rw [HV.o,hv];simp);clear hv HV;go_wp2_with fail;go_ret;exact ⟨by rw [HF.o];rfl,dB.o.trans (B1.o.mono dB.o.size)⟩
  | true =>
   obtain ⟨h0,h63⟩:=Kx.ay.1 hv;obtain ⟨a,rfl⟩:=Int.eq_ofNat_of_zero_le h0;have HF:=af (show Kx.Ro p a=Kx.Uo p a by rw [HV.o,V1.o,hv];simp);have OK:=af (Kx.iD.1 V1.o);have Hm:=af (show bW p.k.mem=true from by
    have:=V1.o
    unfold Kx.bI at this;simp only [Bool.and_eq_true] at this;have:=this.1.1.1.1.1.1.1.1.1;unfold az at this;simp only [Bool.and_eq_true] at this;exact this.1.1.1.1.1.1)
   obtain ⟨q,hq⟩:∃ q,a / 4=q:=⟨_,rfl⟩;obtain ⟨r,hr⟩:∃ r,a % 4=r:=⟨_,rfl⟩;have eq:(a:Int) / 4=(q:Int):=by omega
   have er:(a:Int) % 4=(r:Int):=by omega
   have aeX:q<16:=by omega
   have hr4:(r:Int)<4:=by omega
   have HPg:=af (show Kx.dC p q=true from by
    have:=V1.o
    unfold Kx.bI at this;simp only [Bool.and_eq_true,List.all_eq_true] at this;exact this.1.1.1.2 _ (by simp;omega))
   have HSw:=af (show p.swap.length=16/\∀ i,i<16->Kx.row p.swap i=[]\/(Kx.row p.swap i).length=4 from by
    have h2:=OK.o.swap;rw [BM,Bool.and_eq_true,List.all_eq_true] at h2;refine ⟨by simpa using h2.2,fun i hi=>?_⟩
    have h3:=h2.1 i (by have:=h2.2;simp at this ⊢;omega);unfold Na Kx.dQ at h3;rw [Bool.or_eq_true] at h3;rcases h3 with h3 | h3
    ·exact .inl (by simpa using h3)
    rw [Bool.and_eq_true] at h3;exact .inr (by simpa using h3.2))
   have HI:=af (show (Kx.aA p.pages q).wh=1->0<=(Kx.aA p.pages q).at_/\(Kx.aA p.pages q).at_<=11 from fun e=>by
    have:=HPg.o
    rw [GU,if_neg (by rw [e];decide),if_pos e] at this;simp only [Bool.and_eq_true] at this;exact Kx.ay.1 this.1.1.1)
   have HJ:=af (show (Kx.aA p.pages q).wh=2->0<=(Kx.aA p.pages q).at_/\(Kx.aA p.pages q).at_<=15/\(Kx.row p.swap (Kx.aA p.pages q).at_.toNat).length=4 from fun e=>by
    have:=HPg.o
    rw [GU,if_neg (by rw [e];decide),if_neg (by rw [e];decide),if_pos e] at this;simp only [Bool.and_eq_true] at this;obtain ⟨y0,y15⟩:=Kx.ay.1 this.1.1.1;refine ⟨y0,y15,?_⟩;rcases HSw.o.2 (Kx.aA p.pages q).at_.toNat (by omega) with h | h
    ·rw [h] at this;simp at this
    exact h)
   have HW:=af (show Kx.Ro p a=(if (Kx.aA p.pages q).wh=1 then Kx.word p.k.mem (Kx.aA p.pages q).at_.toNat r else if (Kx.aA p.pages q).wh=2 then Kx.word p.swap (Kx.aA p.pages q).at_.toNat r else 0) by rw [HF.o,<-hq,<-hr];rfl);have Vr:=af (HP.o.below B1.o);have hqp:q<p.pages.length:=by rw [OK.o.p16];exact aeX
   have Wq:(q:Int)<(p.pages.length:Int):=by omega
   obtain ⟨bp,op,cap,rfl,hbp,g1,g2,g3⟩:=rP.at Vr.o.g hqp;generalize Kx.aA p.pages q=pg at HI HJ HW g1 g2 g3;obtain ⟨x,y,z⟩:=pg;dsimp only at g1 g2 g3;have HI:=af (show x=1->0<=y/\y<=11 from HI.o);have HJ:=af (show x=2->0<=y/\y<=15/\(Kx.row p.swap y.toNat).length=4 from HJ.o);have HW:=af (show Kx.Ro p a=(if x=1 then Kx.word p.k.mem y.toNat r else if x=2 then Kx.word p.swap y.toNat r else 0) from HW.o);obtain ⟨W2,hW2⟩:∃ W2,w1.alloc (.cells #[I_ x,I_ y,.bool z] 42)=W2:=⟨_,rfl⟩;have B2:=af (show Below w1.heap.size w1 W2 from hW2 ▸ dm);obtain ⟨c0,c1,c2⟩:=(show W2.cell? ⟨w1.heap.size,0,none⟩=some (I_ x)/\W2.cell? ⟨w1.heap.size,1,none⟩=some (I_ y)/\W2.cell? ⟨w1.heap.size,2,none⟩=some (.bool z) from hW2 ▸ Dh.new w1 _ _ _ 42);obtain ⟨⟨j0,j1,j2,j3⟩,⟨j4,j5,j6,j7,j8⟩,_⟩:=(jF.o.below B1.o).below B2.o;have HP2:=af (Vr.o.below B2.o)
   have HB:=af (dB.o.trans ((B1.o.trans (B2.o.mono B1.o.size)).mono dB.o.size));have Vo:=af HSw.o.1;clear hv HV h0 hq hr hbp HPg HSw HF
   by_cases hx1:x=1
   ·subst hx1;obtain ⟨y0,ZG⟩:=HI.o rfl;obtain ⟨n,rfl⟩:=Int.eq_ofNat_of_zero_le y0;obtain ⟨b,off,cap1,b',off',cap2,rfl,e1,e2,_,_⟩:=HP2.o.k.m.word Hm.o (f:=n) (a:=r) (by omega) (by omega);have MJ:(n:Int)<12:=by omega
    have HF:=af (show Kx.Ro p a=Kx.word p.k.mem n r by rw [HW.o];rfl);clear HI HJ HW y0;go_wp2_with fail;go_ret;exact ⟨by rw [HF.o];rfl,HB.o⟩
   have hxa:(x==1)=false:=by simpa using hx1
   by_cases hx2:x=2
   ·subst hx2;obtain ⟨y0,y15,hr4⟩:=HJ.o rfl;obtain ⟨n,rfl⟩:=Int.eq_ofNat_of_zero_le y0;obtain ⟨b,off,cap1,b',off',cap2,rfl,e1,e2⟩:=HP2.o.s.at4 (f:=n) (a:=r) (by rw [Vo.o];omega) hr4 (by omega);have MJ:(n:Int)<(p.swap.length:Int):=by rw [Vo.o];omega
    have HF:=af (show Kx.Ro p a=Kx.word p.swap n r by rw [HW.o];rfl);clear HI HJ HW hr4 y0;go_wp2_with fail;go_ret;exact ⟨by rw [HF.o];rfl,HB.o⟩
   have hxb:(x==2)=false:=by simpa using hx2
   have HF:=af (show Kx.Ro p a=0 by rw [HW.o,if_neg hx1,if_neg hx2]);clear HI HJ HW hx1 hx2;go_wp2_with fail;go_ret;exact ⟨by rw [HF.o];rfl,HB.o⟩

theorem Dz (m:List (List Int)) (f a:Nat) (v:Value) (w:World) (h:RM w v m) (hm:bW m=true) (hf:f<12) (ha:a<4) :
  Calls prog 20 #[v,I_ f,I_ a] w fun e w'=>e=.returned (.tuple #[I_ (Kx.word m f a),.bool true])/\Below w.heap.size w w':=by
 have HM:=af h;have Hm:=af hm;have HfI:=af (show Kx.bK (f:Int) 0 11=true from Kx.ay.2 (by omega));have VY:=af (show Kx.bK (a:Int) 0 3=true from Kx.ay.2 (by omega));obtain ⟨_,av,cv,rfl,_,_⟩:=h.len;clear h hm;go_enter func20,ntmps20;go_wp2_with fail;refine (kL m _ _ HM.o).mono ?_;rintro e w1 ⟨rfl,hb⟩;rw [Hm.o];have B0:=af hb;clear hb;go_wp2_with fail;refine (jO _ _).mono ?_;rintro e w' ⟨rfl,rfl⟩;rw [HfI.o];go_wp2_with fail;refine (FH _ _).mono ?_;rintro e w' ⟨rfl,rfl⟩;rw [VY.o];obtain ⟨b1,FI,cap1,b2,mP,cap2,ev,g1,g2,g3,g4⟩:=(HM.o.below B0.o).word Hm.o hf ha;obtain ⟨rfl,hl,rfl⟩:=Za ev;clear ev;have wJ:(f:Int)<12:=by omega
 have Oo:(a:Int)<4:=by omega
 rw [hl];obtain ⟨ans,hans⟩:∃ b,Kx.word m f a=b:=⟨_,rfl⟩;rw [hans] at g2 g3 g4;have pI:=af hans;clear hans;go_wp2_with fail;go_ret2;exact ⟨by rw [pI.o];rfl,B0.o⟩

theorem mJ {m:List (List Int)} {r ad:Nat} {f a:Int} {b:Bool} (h:Kx.walk m r ad=((f,a,b),0)):∃ (f' a':Nat),f=f'/\a=a'/\f'<12/\a'<4:=by
 unfold Kx.walk at h;split at h
 ·simp at h
 split at h
 ·simp at h
 rename_i t c he f' d he2
 simp only [Prod.mk.injEq] at h;obtain ⟨⟨h1,h2,_⟩,_⟩:=h;exact ⟨f',ad % 4,h1.symm,h2.symm,Kx.dU he2,Nat.mod_lt _ (by decide)⟩
theorem ac' {P:Program} {ops:Array Oper} {Q:Exit->Act->World->Prop} {md:Region.Mode} {S:World->Prop} {o1:Oper} {v1:Value} {fuel:Nat} {listed l1:Array Bool} {a a1:Act} {w:World} (i:Nat) (h:wpAnyH P md ops Q S fuel l1 a1 w) (hS:S w:=by assumption) (h1:Stp P md ops Q S i o1 v1 listed l1 a a1:=by exact stp):wpAnyH P md ops Q S (fuel+1) listed a w:=h1.go hS h
theorem ae' {P:Program} {ops:Array Oper} {Q:Exit->Act->World->Prop} {md:Region.Mode} {S:World->Prop} {oi oj:Oper} {fuel:Nat} {listed:Array Bool} {a:Act} {w:World} (i j:Nat)
  (h:∀ K':Act->World->Prop,Shut (∀ a w,S w->(S w->wpAnyH P md ops Q S fuel (listed.setIfInBounds i true) a w)->K' a w)->Oper.wp P oi a w K' Q)
  (h':∀ K':Act->World->Prop,Shut (∀ a w,S w->(S w->wpAnyH P md ops Q S fuel (listed.setIfInBounds j true) a w)->K' a w)->Oper.wp P oj a w K' Q)
  (hi:ops[i]?=some oi:=by rfl) (hj:ops[j]?=some oj:=by rfl) (hr:Region.ready md ops listed=[i,j]:=by kernel_rfl) (hw:Region.wanted oi (yielded ops a.tmps)=true:=by rfl) (hw':Region.wanted oj (yielded ops a.tmps)=true:=by rfl) :
  wpAnyH P md ops Q S (fuel+1) listed a w:=
 wpAnyH_ready (rs:=[i,j]) hr (by simp) (AllReadyH.cons hi (fun K hK=>by rw [if_pos hw];exact h K hK) (AllReadyH.cons hj (fun K hK=>by rw [if_pos hw'];exact h' K hK) AllReadyH.nil))
theorem oG (k:Kx.Kernel) (env ad:Int) (vm vi ve vc:Value) (w:World) (h:RK w vm vi ve vc k) (hs:iQ k) :
  Calls prog 16 #[.agg #[vm,vi,ve,vc],I_ env,I_ ad] w fun e w'=>e=.returned (.tuple #[I_ (Kx.sees k env ad).1,.bool (Kx.sees k env ad).2])/\Below w.heap.size w w':=by
 obtain ⟨w0,hw0⟩:∃ w0,w.alloc (.cells #[vm,vi,ve,vc] 28)=w0:=⟨_,rfl⟩;have B0:=af (show Below w.heap.size w w0 from hw0 ▸ dm);have X0:=af (show BX w0 w.heap.size 28 [vm,vi,ve,vc] from (hw0 ▸ BX.new w _ _:BX w0 _ _ _));have HK:=af (h.below B0.o);obtain ⟨_,am,cm,rfl,_,_⟩:=h.m.len;obtain ⟨_,ae,ce,rfl,_,_⟩:=h.e.len;have HV:=af (show Kx.sees k env ad=if !az k||!Kx.bK env 0 2||!Kx.bK ad 0 63||decide ((Kx.au k.ah env.toNat).root<0) then (0,false)
 else match Kx.walk k.mem (Kx.au k.ah env.toNat).root.toNat ad.toNat with
  | ((f,a,_),c)=>if c=0 then (Kx.word k.mem f.toNat a.toNat,true) else (0,false) from rfl)
 have HC:=af (mX k _ vi _ vc w0 HK.o hs);obtain ⟨ans,hans⟩:∃ r,Kx.sees k env ad=r:=⟨_,rfl⟩;have pI:=af hans;rw [hans] at HV;obtain ⟨k0,k1,k2,k3⟩:=X0.o.c4;clear h hs hans;go_enter func16,ntmps16;go_wp2_with fail;clear hw0;refine HC.o.mono ?_;rintro e w1 ⟨rfl,hb⟩;replace B0:=af (B0.o.trans (hb.mono B0.o.size));replace X0:=af (X0.o.below hb);replace HK:=af (HK.o.below hb);clear hb HC k0 k1 k2 k3
 cases hv:az k with
 | false =>
  have HF:=af (show ans=(0,false) by rw [HV.o,hv];rfl);clear hv HV;go_wp2_with fail;go_ret2;exact ⟨by rw [pI.o,HF.o];rfl,B0.o⟩
 | true =>
  have V1:=af hv;clear hv;go_wp2_with fail;refine (BR _ _).mono ?_;rintro e w' ⟨rfl,rfl⟩
  cases hv:Kx.bK env 0 2 with
  | false =>
   have HF:=af (show ans=(0,false) by rw [HV.o,hv];simp);clear hv HV;go_wp2_with fail;go_ret2;exact ⟨by rw [pI.o,HF.o];rfl,B0.o⟩
  | true =>
   have V2:=af hv;clear hv;go_wp2_with fail;refine (qI _ _).mono ?_;rintro e w' ⟨rfl,rfl⟩
   cases hv:Kx.bK ad 0 63 with
   | false =>
    have HF:=af (show ans=(0,false) by rw [HV.o,hv];simp);clear hv HV;go_wp2_with fail;go_ret2;exact ⟨by rw [pI.o,HF.o];rfl,B0.o⟩
   | true =>
    obtain ⟨h0,h2⟩:=Kx.ay.1 V2.o;obtain ⟨n,rfl⟩:=Int.eq_ofNat_of_zero_le h0;obtain ⟨h0',h2'⟩:=Kx.ay.1 hv;obtain ⟨a,rfl⟩:=Int.eq_ofNat_of_zero_le h0';obtain ⟨hmo,jI,h12,hco,h3,hro⟩:=aI V1.o;have hn3:n<3:=by omega
    have mW:=af (hro n hn3);have zG:=af (show ans=if (Kx.au k.ah n).root<0 then (0,false) else match Kx.walk k.mem (Kx.au k.ah n).root.toNat a with | ((f,a,_),c)=>if c=0 then (Kx.word k.mem f.toNat a.toNat,true) else (0,false) by rw [HV.o,V1.o,V2.o,hv];simp)
    have MJ:(n:Int)<(k.ah.length:Int):=by omega
    obtain ⟨b,off,cap,u,ev,hbb,_,g2,_⟩:=HK.o.e.at (k:=n) (by omega);obtain ⟨rfl,_,rfl⟩:=Za ev;clear ev;obtain ⟨k0,k1,k2,k3⟩:=X0.o.c4;have HM:=af HK.o.m;have kG:=af hmo;have Ha:=af (show a<64 by omega);clear hv HV h0 hmo jI h12 hco h3 hro hn3 h2 h0' h2' V1 V2;generalize (Kx.au k.ah n).root=r at g2 zG mW;have G2:=af g2
    by_cases hr:r<0
    ·have HF:=af (show ans=(0,false) by rw [zG.o,if_pos hr]);go_wp2_with fail;go_ret2;exact ⟨by rw [pI.o,HF.o];rfl,B0.o⟩
    obtain ⟨R,rfl⟩:=Int.eq_ofNat_of_zero_le (show 0<=r by omega);have HF:=af (show ans=match Kx.walk k.mem R a with | ((f,a,_),c)=>if c=0 then (Kx.word k.mem f.toNat a.toNat,true) else (0,false) by rw [zG.o,if_neg hr];rfl)
    have hR:R<12:=by have:=mW.o;omega
    have hrb:decide ((R:Int)<0)=false:=decide_eq_false hr;clear hr zG mW;go_wp2_with fail;obtain ⟨⟨⟨f,c,wt⟩,code⟩,hres⟩:∃ r,Kx.walk k.mem R a=r:=⟨_,rfl⟩;have kS:=af hres;rw [hres] at HF;have S_:=af hbb;have G2:=af g2;clear hres k0 k1 k2 k3 g2 hbb;have IK_:=af (show ∀ W,Below w1.heap.size w1 W->(W.cell? ⟨w.heap.size,0,none⟩=some (.slice am k.mem.length cm)/\W.cell? ⟨w.heap.size,2,none⟩=some (.slice (some ⟨b,off,none⟩) k.ah.length ce)/\W.cell? ⟨b,off+n*2+1,none⟩=some (I_ (R:Int))) from fun W h=>⟨(X0.o.below h).cell 0,(X0.o.below h).cell 2,(h.cell (p:=⟨b,off+n*2+1,none⟩) S_.o).trans G2.o⟩)
    have hb0:=Below.refl w1.heap.size w1;have hS0:=IK_.o _ (Below.bz hb0);refine afi IK_ fun hHeld=>?_
    clear hS0;obtain ⟨d,hd⟩:∃ d,w1.drew=d:=⟨_,rfl⟩;rw [hd] at hHeld ⊢;replace hb0:Below w1.heap.size w1 d:=hd ▸ Below.bz hb0;clear hd;refine afW 0 ?_;refine ac' 8 ?_;refine ae' 9 13 (fun K hK=>?_) (fun K hK=>?_)
    case' refine_1 =>
     (go_simp;go_at_call 68;refine (o_ k.mem R a _ _ (HM.o.below hb0) kG.o hR Ha.o).mono ?_;rintro en V1 ⟨rfl,hb⟩;rw [kS.o];unfold kM;have hb1:=hb0.trans (hb.mono hb0.size);clear hb;have hS1:=IK_.o V1 hb1;go_wp2_with fail)
     refine afS hK fun hHeld=>?_
     clear hK K;refine afU 10 ?_;refine ac' 12 ?_;refine ahk 13 fun K hK=>?_
     (go_simp;obtain ⟨UU_,hU⟩:∃ V,V1.alloc (.cells #[I_ 0,I_ 0,.bool false] 105)=V:=⟨_,rfl⟩;have XP:=af (show BX UU_ V1.heap.size 105 [I_ 0,I_ 0,.bool false] from hU ▸ BX.new V1 _ _);obtain ⟨g7,Fh⟩:∃ g,V1.heap.size=g:=⟨_,rfl⟩;have hgd:w1.heap.size<=g7:=Fh ▸ hb1.size;have hb2:=hb1.trans ((show Below V1.heap.size V1 UU_ from hU ▸ dm).mono hb1.size);have hS2:=IK_.o UU_ hb2;rw [Fh] at XP ⊢;try rw [hU];clear hU Fh)
     refine afS hK fun hHeld=>?_
     clear hK K
    case' refine_2 =>
     (go_simp;obtain ⟨U,hU⟩:∃ V,d.alloc (.cells #[I_ 0,I_ 0,.bool false] 105)=V:=⟨_,rfl⟩;have XP:=af (show BX U d.heap.size 105 [I_ 0,I_ 0,.bool false] from hU ▸ BX.new d _ _);obtain ⟨g7,Fh⟩:∃ g,d.heap.size=g:=⟨_,rfl⟩;have hgd:w1.heap.size<=g7:=Fh ▸ hb0.size;have hb1:=hb0.trans ((show Below d.heap.size d U from hU ▸ dm).mono hb0.size);have hS1:=IK_.o U hb1;rw [Fh] at XP ⊢;try rw [hU];clear hU Fh)
     refine afS hK fun hHeld=>?_
     clear hK K;refine ahk 9 fun K hK=>?_
     (go_simp;go_at_call 68;refine (o_ k.mem R a _ _ (HM.o.below hb1) kG.o hR Ha.o).mono ?_;rintro en UU_ ⟨rfl,hb⟩;rw [kS.o];unfold kM;have hb2:=hb1.trans (hb.mono hb1.size);replace XP:=af (XP.o.below hb);clear hb;have hS2:=IK_.o UU_ hb2;go_wp2_with fail)
     refine afS hK fun hHeld=>?_
     clear hK K;refine afU 10 ?_;refine ac' 12 ?_
    all_goals
     obtain ⟨p0,p1,p2⟩:UU_.cell? ⟨g7,0,none⟩=some (I_ 0)/\UU_.cell? ⟨g7,1,none⟩=some (I_ 0)/\UU_.cell? ⟨g7,2,none⟩=some (.bool false):=⟨XP.o.cell 0,XP.o.cell 1,XP.o.cell 2⟩;have z0:=XP.o.frozen 0;have z1:=XP.o.frozen 1;have z2:=XP.o.frozen 2;replace XP:=af (((XP.o.set 0 (I_ f)).set 1 (I_ c)).set 2 (.bool wt));have hb3:=((hb2.setCell (p:=⟨g7,0,none⟩) hgd (I_ f)).setCell (p:=⟨g7,1,none⟩) hgd (I_ c)).setCell (p:=⟨g7,2,none⟩) hgd (.bool wt);refine ahk 14 fun K hK=>?_
     (go_simp;obtain ⟨V,hV⟩:∃ V,((UU_.setCell ⟨g7,0,none⟩ (I_ f)).setCell ⟨g7,1,none⟩ (I_ c)).setCell ⟨g7,2,none⟩ (.bool wt)=V:=⟨_,rfl⟩;rw [hV] at hb3 XP ⊢;have hS3:=IK_.o V hb3)
     refine afS hK fun hHeld=>?_
     clear hK K;refine ac' 15 ?_;refine wpAnyH_done (by kernel_rfl) ?_ _;replace XP:=af (show BX V g7 105 [I_ f,I_ c,.bool wt] from XP.o);clear hV p0 p1 p2 z0 z1 z2 hHeld hgd hb2 hb1 hS1 hS2 hS3;replace B0:=af (B0.o.trans (hb3.mono B0.o.size));replace HM:=af (HM.o.below hb3);replace X0:=af (X0.o.below hb3);clear hb0 hb3;obtain ⟨k0,k1,k2,k3⟩:=X0.o.c4;obtain ⟨p0,p1,p2⟩:V.cell? ⟨g7,0,none⟩=some (I_ f)/\V.cell? ⟨g7,1,none⟩=some (I_ c)/\V.cell? ⟨g7,2,none⟩=some (.bool wt):=⟨XP.o.cell 0,XP.o.cell 1,XP.o.cell 2⟩
     by_cases hc:code=0
     ·subst hc;obtain ⟨f,c,rfl,rfl,hf,hc4⟩:=mJ kS.o;obtain ⟨b1,FI,cap1,b2,mP,cap2,ev,q1,q2,q3,q4⟩:=HM.o.word kG.o hf hc4;obtain ⟨rfl,hl,rfl⟩:=Za ev;clear ev;have HA:=af (show ans=(Kx.word k.mem f c,true) by rw [HF.o];simp);rw [hl] at k0;have wJ:(f:Int)<12:=by omega
      have hcI:(c:Int)<4:=by omega
      generalize Kx.word k.mem f c=x at q2 q3 q4 HA;clear HF kS hl;go_wp2_with fail;go_quiet (fail);go_wp2_with fail;go_ret2;exact ⟨by rw [pI.o,HA.o];rfl,B0.o.trans ((below_drewN V _).mono B0.o.size)⟩
     have hcb:(code != 0)=true:=by simpa using hc
     have HA:=af (show ans=(0,false) by rw [HF.o];simp [hc]);clear HF kS hc;go_wp2_with fail;go_ret2;exact ⟨by rw [pI.o,HA.o];rfl,B0.o⟩

theorem PagerLoad_c (p:Kx.aH) (a:Nat) (um ui ue uc us ul up:Value) (w:World) (h:RP w um ui ue uc us ul up p) (hok:Kx.bI p=true) (ha:a<64) :
  Calls prog 194 #[bU um ui ue uc us ul up p.hand p.limit,I_ a] w (Gs w (Kx.Bg p a).1 [I_ (Kx.Bg p a).2.1,.bool (Kx.Bg p a).2.2]):=by
 obtain ⟨⟨xm,nm,cm,rfl⟩,⟨xi,ni,ci,rfl⟩,⟨xe,ne,ce,rfl⟩,⟨xc,nc,cc,rfl⟩,⟨xs,ns,cs,rfl⟩,⟨xl,nl,cl,rfl⟩,⟨xp,np,cp,rfl⟩⟩:=h.sl;unfold bU;obtain ⟨w0,hw0⟩:∃ w0,w.alloc (.cells #[.slice xm nm cm,.slice xi ni ci,.slice xe ne ce,.slice xc nc cc,.slice xs ns cs,.slice xl nl cl,.slice xp np cp,I_ p.hand,I_ p.limit] 32)=w0:=⟨_,rfl⟩;obtain ⟨w1,hw1⟩:∃ w1,w0.alloc (.cells #[.slice none 0 0,.slice none 0 0,.slice none 0 0,.slice none 0 0,.slice none 0 0,.slice none 0 0,.slice none 0 0,I_ 0,I_ 0] 32)=w1:=⟨_,rfl⟩;have B0:Below w.heap.size w w0:=hw0 ▸ dm;have B1:Below w0.heap.size w0 w1:=hw1 ▸ dm;have bw:Below w.heap.size w w1:=B0.trans (B1.mono B0.size)
 have X1:=af (show BX w1 w.heap.size 32 [.slice xm nm cm,.slice xi ni ci,.slice xe ne ce,.slice xc nc cc,.slice xs ns cs,.slice xl nl cl,.slice xp np cp,I_ p.hand,I_ p.limit] from (hw0 ▸ BX.new w _ _:BX w0 _ _ _).below B1);have X2:=af (show BX w1 w0.heap.size 32 [.slice none 0 0,.slice none 0 0,.slice none 0 0,.slice none 0 0,.slice none 0 0,.slice none 0 0,.slice none 0 0,I_ 0,I_ 0] from (hw1 ▸ BX.new w0 _ _:BX w1 _ _ _));have s0:w.heap.size<w0.heap.size:=by rw [<-hw0];simp
 have s1:w0.heap.size<w1.heap.size:=by rw [<-hw1];simp
 have HR:=af h;have Bw:=af bw;have bF:=af hok;have Hk:=af (fM hok).1;have HV:=af (n_ p _ _ _ _ _ _ _ w1 (h.below bw) (jX (fM hok).1));rw [hok] at HV;unfold bU at HV;have jR:=af (show Kx.bK (a:Int) 0 63=true from Kx.ay.2 (by omega));obtain ⟨q4,hq4⟩:∃ x,a / 4=x:=⟨_,rfl⟩;have Td:=af (show q4<16 by omega);have P6:(a:Int).tdiv 4=(q4:Int):=by rw [Int.tdiv_eq_ediv_of_nonneg (by omega)];omega
 have DL:(a:Int) / 4=(q4:Int):=by omega
 have hwq:IntKind.i64.wrap (q4:Int)=(q4:Int):=IntWalk.i64_in _ (by omega);obtain ⟨rr,hrr⟩:∃ x,Kx.gq p (q4:Int)=x:=⟨_,rfl⟩;have JV:=af (show Kx.bI rr.1=true from hrr ▸ FB hok Td.o);obtain ⟨rk,hrk⟩:∃ x,Kx.bJ rr.1.k 10 (a:Int) 0 0=x:=⟨_,rfl⟩;have HT:=af (show Kx.Bg p a=if rr.2=false then (rr.1,0,false) else ({ rr.1 with k:=rk.1 },rk.2.1,true) by
  unfold Kx.Bg;rw [hok,jR.o,DL,hrr];show (if (!rr.2)=true then (rr.1,0,false) else ({ rr.1 with k:=(Kx.bJ rr.1.k 10 (a:Int) 0 0).1 },(Kx.bJ rr.1.k 10 (a:Int) 0 0).2.1,true))=_;rw [hrk]
  cases rr.2 <;> rfl)
 have Ol:=af hrr;have Om:=af hrk;clear h hok hrr hrk B0 B1 bw hq4;have z0:=X1.o.c9;go_enter func194,ntmps194;go_wp2_with fail;refine HV.o.mono ?_;rintro en w2 ⟨rfl,hb⟩;replace X1:=af (X1.o.below hb);replace X2:=af (X2.o.below hb);replace Bw:=af (Bw.o.trans (hb.mono Bw.o.size));have Tc:=hb.size;clear hw0 hw1 hb HV z0;go_wp2_with fail;refine (kC _ _).mono ?_;rintro en w3 ⟨rfl,rfl⟩;rw [jR.o];have PZ:=af (Ol.o ▸ BN p q4 _ _ _ _ _ _ _ w2 (HR.o.below Bw.o) bF.o Td.o);unfold bU at PZ;have z0:=X1.o.c9;go_wp2_with fail;refine PZ.o.mono ?_;rintro en w5 ⟨_,_,_,_,_,_,_,rfl,hro,hb⟩;obtain ⟨⟨k0,sK,sN,rfl⟩,⟨k1,sO,sQ,rfl⟩,⟨k2,sS,sU,rfl⟩,⟨k3,sV,sW,rfl⟩,⟨k4,pU,pV,rfl⟩,⟨k5,pW,km5,rfl⟩,⟨k6,pX,pY,rfl⟩⟩:=hro.rp.sl
 obtain ⟨w6,hw6⟩:∃ V,w5.alloc (.cells #[.slice k0 sK sN,.slice k1 sO sQ,.slice k2 sS sU,.slice k3 sV sW,.slice k4 pU pV,.slice k5 pW km5,.slice k6 pX pY,I_ rr.1.hand,I_ rr.1.limit] 32)=V:=⟨_,rfl⟩;have B6:Below w5.heap.size w5 w6:=hw6 ▸ dm;have X6:=af (show BX w6 w5.heap.size 32 [.slice k0 sK sN,.slice k1 sO sQ,.slice k2 sS sU,.slice k3 sV sW,.slice k4 pU pV,.slice k5 pW km5,.slice k6 pX pY,I_ rr.1.hand,I_ rr.1.limit] from hw6 ▸ BX.new w5 _ _);have JI:=X2.o.lt;have aab:=hb.size;replace X2:=af ((X2.o.below hb).below B6);have bk:Below w.heap.size w w5:=Bw.o.trans (hb.mono Bw.o.size);have aac:=Bw.o.size;replace Bw:=af (bk.trans (B6.mono bk.size));have mW:=af hro;have JW:=af B6;clear PZ hro hb bk X1 B6 z0 P6 DL hwq;unfold bU;go_upto_region 4 with fail
 try rw [hw6]
 clear hw6;have Fq:w0.heap.size≠w5.heap.size:=by omega
 cases hr2:rr.2 with
 | false =>
  have HF:=af (show Kx.Bg p a=(rr.1,0,false) by rw [HT.o,hr2];rfl);clear hr2;have z0:=X6.o.c9;obtain ⟨p0,p1,p2,p3,p4,p5,p6,p7,p8⟩:=X2.o.c9;have f0:=X2.o.f9;go_wp2_with fail;obtain ⟨F,hF⟩:=XP (sets w6 w0.heap.size 0 [.slice k0 sK sN,.slice k1 sO sQ,.slice k2 sS sU,.slice k3 sV sW,.slice k4 pU pV,.slice k5 pW km5,.slice k6 pX pY,I_ rr.1.hand,I_ rr.1.limit])
  rw [afC w6,hF];have x2:=X2.o.ac4 hF
  have b1:=adT (show w.heap.size<=w0.heap.size by omega) hF Bw.o;have u1:=(Up.of (base:=w2.heap.size) JW.o).trans (Up.sets (base:=w2.heap.size) JI [.slice k0 sK sN,.slice k1 sO sQ,.slice k2 sS sU,.slice k3 sV sW,.slice k4 pU pV,.slice k5 pW km5,.slice k6 pX pY,I_ rr.1.hand,I_ rr.1.limit] 0 w6);rw [hF] at u1;rw [hF] at x2 b1;obtain ⟨e0',e1',e2',e3',e4',e5',vw,vz,vC⟩:=x2.c9
  refine af7 (by simp [results,results194,go_sem,e0',e1',e2',e3',e4',e5',vw,vz,vC]<;>rfl) ?_;rw [HF.o];exact ⟨_,_,_,_,_,_,_,rfl,fun V hu=>mW.o V (u1.trans ⟨hu.1,fun k h1 h2=>hu.2 k (by omega) h2⟩),b1⟩
 | true =>
  have HF:=af (show Kx.Bg p a=({ rr.1 with k:=rk.1 },rk.2.1,true) by rw [HT.o,hr2];rfl);have Yv:=af (Om.o ▸ gW rr.1.k 10 (a:Int) 0 0 _ _ _ _ w6 (mW.o.up (Up.of JW.o)).rp.k (fM JV.o).1);clear hr2;have z0:=X6.o.c9;go_wp2_with fail;refine Yv.o.mono ?_;rintro en w7 ⟨_,_,_,_,rfl,ho,hb⟩;obtain ⟨⟨e0,en0,eQ,rfl⟩,⟨e1,eU,eX,rfl⟩,⟨e2,eY,fA,rfl⟩,⟨e3,fB,fC,rfl⟩⟩:=ho.sl;obtain ⟨w8,hw8⟩:∃ V,w7.alloc (.cells #[.slice e0 en0 eQ,.slice e1 eU eX,.slice e2 eY fA,.slice e3 fB fC] 28)=V:=⟨_,rfl⟩;have B8:Below w7.heap.size w7 w8:=hw8 ▸ dm;have DN:=af (show BX w8 w7.heap.size 28 [.slice e0 en0 eQ,.slice e1 eU eX,.slice e2 eY fA,.slice e3 fB fC] from hw8 ▸ BX.new w7 _ _);have Tf:=hb.trans (B8.mono hb.size);have P5:=JW.o.size;have HK:=af (ho.below B8);replace X6:=af (X6.o.below Tf)
  replace X2:=af (X2.o.below Tf);have aad:=Bw.o.size;replace Bw:=af (Bw.o.trans (Tf.mono Bw.o.size));have VQ:=af (JW.o.trans (Tf.mono P5));clear Yv ho hb B8 Tf z0;go_upto_region 7 with fail
  try rw [hw8]
  clear hw8;obtain ⟨p0,p1,p2,p3⟩:=DN.o.c4;have z0:=X6.o.c9;have f0:=X6.o.f9;go_upto_region 8 with fail;have y6:=oK X6.o (.slice e0 en0 eQ) (.slice e1 eU eX) (.slice e2 eY fA) (.slice e3 fB fC);obtain ⟨w9,JX⟩:=XP (sets w8 w5.heap.size 0 [.slice e0 en0 eQ,.slice e1 eU eX,.slice e2 eY fA,.slice e3 fB fC]);have y2:=BX.aeY Fq JX X2.o;have k1:=KO.ac4 iZ JX X6.o HK.o;have b1:=adT (show w.heap.size<=w5.heap.size by omega) JX Bw.o;have b5:=adT (Nat.le_refl w5.heap.size) JX VQ.o;
  rw [JX] at y6 y2 k1 b1 b5;rw [afA w8,JX];replace X6:=af y6;replace X2:=af y2;replace HK:=af k1;replace Bw:=af b1;replace VQ:=af b5;clear y6 y2 k1 b1 b5 JX p0 p1 p2 p3 z0 f0 DN;have z0:=X6.o.c9;obtain ⟨p0,p1,p2,p3,p4,p5,p6,p7,p8⟩:=X2.o.c9;have f0:=X2.o.f9;go_wp2_with fail;obtain ⟨F,hF⟩:=XP (sets w9 w0.heap.size 0 [.slice e0 en0 eQ,.slice e1 eU eX,.slice e2 eY fA,.slice e3 fB fC,.slice k4 pU pV,.slice k5 pW km5,.slice k6 pX pY,I_ rr.1.hand,I_ rr.1.limit])
  rw [afC w9,hF];have x2:=X2.o.ac4 hF
  have b1:=adT (show w.heap.size<=w0.heap.size by omega) hF Bw.o;have u1:=(Up.of (base:=w2.heap.size) VQ.o).trans (Up.sets (base:=w2.heap.size) JI [.slice e0 en0 eQ,.slice e1 eU eX,.slice e2 eY fA,.slice e3 fB fC,.slice k4 pU pV,.slice k5 pW km5,.slice k6 pX pY,I_ rr.1.hand,I_ rr.1.limit] 0 w9);have k1:=KO.ac4 iZ hF X2.o HK.o;rw [hF] at u1 k1;rw [hF] at x2 b1;obtain ⟨e0',e1',e2',e3',e4',e5',vw,vz,vC⟩:=x2.c9
  refine af7 (by simp [results,results194,go_sem,e0',e1',e2',e3',e4',e5',vw,vz,vC]<;>rfl) ?_;rw [HF.o];exact ⟨_,_,_,_,_,_,_,rfl,fun V hu=>⟨((k1.mono (show w.heap.size<=w6.heap.size by omega)).up hu).rk,(mW.o V (u1.trans ⟨hu.1,fun k h1 h2=>hu.2 k (by omega) h2⟩)).s,(mW.o V (u1.trans ⟨hu.1,fun k h1 h2=>hu.2 k (by omega) h2⟩)).l,(mW.o V (u1.trans ⟨hu.1,fun k h1 h2=>hu.2 k (by omega) h2⟩)).g⟩,b1⟩
theorem other_ok {p:Kx.aH} (h:Kx.bI p=true) (c:Kx.Call) {e:Nat} (he:c.env=(e:Int)) (h1:1<=e) (h3:e<3):Kx.bI (Kx.QM p c).1=true:=
 Kx.iD.2 ((Kx.iD.1 h).other (by rw [he];exact Kx.ay.2 (by omega)))
theorem l41Other_c (p:Kx.aH) (c:Kx.Call) (e:Nat) (um ui ue uc us ul up:Value) (w:World) (h:RP w um ui ue uc us ul up p) (hok:Kx.bI p=true) (hce:c.env=e) (he:e<3) (hss:c.name.size<=9223372036854775807) :
  Calls prog 196 #[bU um ui ue uc us ul up p.hand p.limit,dW c] w (Gs w (Kx.QM p c).1 [I_ (Kx.QM p c).2]):=by
 obtain ⟨bQ,JF,ca,cb,cc,bg⟩:=c;obtain ⟨⟨x0,n0,c0,rfl⟩,⟨x1,n1,c1,rfl⟩,⟨x2,n2,c2,rfl⟩,⟨x3,n3,c3,rfl⟩,⟨x4,n4,c4,rfl⟩,⟨x5,n5,c5,rfl⟩,⟨x6,n6,c6,rfl⟩⟩:=h.sl;unfold bU dW;obtain ⟨w0,hw0⟩:∃ w0,w.alloc (.cells #[.slice x0 n0 c0,.slice x1 n1 c1,.slice x2 n2 c2,.slice x3 n3 c3,.slice x4 n4 c4,.slice x5 n5 c5,.slice x6 n6 c6,I_ p.hand,I_ p.limit] 32)=w0:=⟨_,rfl⟩;obtain ⟨w1,hw1⟩:∃ w1,w0.alloc (.cells #[I_ bQ,I_ JF,I_ ca,I_ cb,I_ cc,.string bg] 59)=w1:=⟨_,rfl⟩;obtain ⟨w2,hw2⟩:∃ w2,w1.alloc (.cells #[.slice none 0 0,.slice none 0 0,.slice none 0 0,.slice none 0 0,.slice none 0 0,.slice none 0 0,.slice none 0 0,I_ 0,I_ 0] 32)=w2:=⟨_,rfl⟩;have B0:Below w.heap.size w w0:=hw0 ▸ dm;have B1:Below w0.heap.size w0 w1:=hw1 ▸ dm;have B2:Below w1.heap.size w1 w2:=hw2 ▸ dm
 have bw:Below w.heap.size w w2:=B0.trans ((B1.trans (B2.mono B1.size)).mono B0.size);have s0:w.heap.size<w0.heap.size:=by rw [<-hw0];simp
 have s1:w0.heap.size<w1.heap.size:=by rw [<-hw1];simp
 have s2:w1.heap.size<w2.heap.size:=by rw [<-hw2];simp
 have X1:=af (show BX w2 w.heap.size 32 [.slice x0 n0 c0,.slice x1 n1 c1,.slice x2 n2 c2,.slice x3 n3 c3,.slice x4 n4 c4,.slice x5 n5 c5,.slice x6 n6 c6,I_ p.hand,I_ p.limit] from ((hw0 ▸ BX.new w _ _:BX w0 _ _ _).below B1).below B2);have XC_:=af (show BX w2 w0.heap.size 59 [I_ bQ,I_ JF,I_ ca,I_ cb,I_ cc,.string bg] from (hw1 ▸ BX.new w0 _ _:BX w1 _ _ _).below B2);have X2:=af (show BX w2 w1.heap.size 32 [.slice none 0 0,.slice none 0 0,.slice none 0 0,.slice none 0 0,.slice none 0 0,.slice none 0 0,.slice none 0 0,I_ 0,I_ 0] from hw2 ▸ BX.new w1 _ _);have HR:=af h;have Bw:=af bw;have bF:=af hok;have HCp:=af (Aq p _ _ _ _ _ _ _ w2 (h.below bw) hok);unfold bU at HCp;obtain ⟨rk,hrk⟩:∃ x,Kx.cO p.k ⟨bQ,JF,ca,cb,cc,bg⟩=x:=⟨_,rfl⟩
 have HF:=af (show Kx.QM p ⟨bQ,JF,ca,cb,cc,bg⟩=({ p with k:=rk.1 },rk.2.2) by unfold Kx.QM;rw [hrk]);have HCk:=af (fun W (hb:Below w.heap.size w W)=>hrk ▸ Ap p.k ⟨bQ,JF,ca,cb,cc,bg⟩ e _ _ _ _ W (h.below hb).k (fM hok).1 (jX (fM hok).1) hce he hss)
 unfold dW at HCk;clear h hok hrk B0 B1 B2 bw hce he hss;have z0:=X1.o.c9;go_enter func196,ntmps196;go_wp2_with fail;clear hw0 hw1 hw2;refine HCp.o.mono ?_;rintro en w5 ⟨_,_,_,_,_,_,_,rfl,hpo,hb⟩;have hro:=hpo.UG;obtain ⟨⟨k0,sK,sN,rfl⟩,⟨k1,sO,sQ,rfl⟩,⟨k2,sS,sU,rfl⟩,⟨k3,sV,sW,rfl⟩,⟨k4,pU,pV,rfl⟩,⟨k5,pW,km5,rfl⟩,⟨k6,pX,pY,rfl⟩⟩:=hro.rp.sl;obtain ⟨w6,hw6⟩:∃ V,w5.alloc (.cells #[.slice k0 sK sN,.slice k1 sO sQ,.slice k2 sS sU,.slice k3 sV sW,.slice k4 pU pV,.slice k5 pW km5,.slice k6 pX pY,I_ p.hand,I_ p.limit] 32)=V:=⟨_,rfl⟩;have B6:Below w5.heap.size w5 w6:=hw6 ▸ dm;have X6:=af (show BX w6 w5.heap.size 32 [.slice k0 sK sN,.slice k1 sO sQ,.slice k2 sS sU,.slice k3 sV sW,.slice k4 pU pV,.slice k5 pW km5,.slice k6 pX pY,I_ p.hand,I_ p.limit] from hw6 ▸ BX.new w5 _ _)
 have JI:=X2.o.lt;have aab:=hb.size;have b26:=hb.trans (B6.mono hb.size);replace X1:=af (X1.o.below b26);replace XC_:=af (XC_.o.below b26);replace X2:=af (X2.o.below b26);have bk:Below w.heap.size w w5:=Bw.o.trans (hb.mono Bw.o.size);have aac:=Bw.o.size;replace Bw:=af (bk.trans (B6.mono bk.size));have mW:=af hro;have JW:=af B6;clear HCp hro hpo hb bk B6 b26 z0;have Fq:w1.heap.size≠w5.heap.size:=by omega
 have z0:=X1.o.c9;have c0':=XC_.o.c6;go_wp2_with fail
 try rw [hw6]
 clear hw6;refine (HCk.o w6 Bw.o).mono ?_;rintro en w7 ⟨_,_,_,_,rfl,ho,hb⟩;obtain ⟨⟨e0,en0,eQ,rfl⟩,⟨e1,eU,eX,rfl⟩,⟨e2,eY,fA,rfl⟩,⟨e3,fB,fC,rfl⟩⟩:=ho.sl;obtain ⟨w8,hw8⟩:∃ V,w7.alloc (.cells #[.slice e0 en0 eQ,.slice e1 eU eX,.slice e2 eY fA,.slice e3 fB fC] 28)=V:=⟨_,rfl⟩;have B8:Below w7.heap.size w7 w8:=hw8 ▸ dm;have DN:=af (show BX w8 w7.heap.size 28 [.slice e0 en0 eQ,.slice e1 eU eX,.slice e2 eY fA,.slice e3 fB fC] from hw8 ▸ BX.new w7 _ _);have Tf:=hb.trans (B8.mono hb.size);have P5:=JW.o.size;have HK:=af (ho.below B8);replace X6:=af (X6.o.below Tf);replace X2:=af (X2.o.below Tf);have aad:=Bw.o.size;replace Bw:=af (Bw.o.trans (Tf.mono Bw.o.size));have VQ:=af (JW.o.trans (Tf.mono P5));clear HCk ho hb B8 Tf z0 c0' X1 XC_;go_upto_region 3 with fail
 try rw [hw8]
 clear hw8;obtain ⟨p0,p1,p2,p3⟩:=DN.o.c4;have z0:=X6.o.c9;have f0:=X6.o.f9;go_upto_region 4 with fail;have y6:=oK X6.o (.slice e0 en0 eQ) (.slice e1 eU eX) (.slice e2 eY fA) (.slice e3 fB fC);obtain ⟨w9,JX⟩:=XP (sets w8 w5.heap.size 0 [.slice e0 en0 eQ,.slice e1 eU eX,.slice e2 eY fA,.slice e3 fB fC]);have y2:=BX.aeY Fq JX X2.o;have k1:=KO.ac4 iZ JX X6.o HK.o;have b1:=adT (show w.heap.size<=w5.heap.size by omega) JX Bw.o;have b5:=adT (Nat.le_refl w5.heap.size) JX VQ.o;
 rw [JX] at y6 y2 k1 b1 b5;rw [afA w8,JX];replace X6:=af y6;replace X2:=af y2;replace HK:=af k1;replace Bw:=af b1;replace VQ:=af b5;clear y6 y2 k1 b1 b5 JX p0 p1 p2 p3 z0 f0 DN;have z0:=X6.o.c9;obtain ⟨p0,p1,p2,p3,p4,p5,p6,p7,p8⟩:=X2.o.c9;have f0:=X2.o.f9;go_wp2_with fail;obtain ⟨F,hF⟩:=XP (sets w9 w1.heap.size 0 [.slice e0 en0 eQ,.slice e1 eU eX,.slice e2 eY fA,.slice e3 fB fC,.slice k4 pU pV,.slice k5 pW km5,.slice k6 pX pY,I_ p.hand,I_ p.limit])
 rw [afC w9,hF];have x2:=X2.o.ac4 hF
 have b1:=adT (show w.heap.size<=w1.heap.size by omega) hF Bw.o;have u1:=(Up.of (base:=w2.heap.size) VQ.o).trans (Up.sets (base:=w2.heap.size) JI [.slice e0 en0 eQ,.slice e1 eU eX,.slice e2 eY fA,.slice e3 fB fC,.slice k4 pU pV,.slice k5 pW km5,.slice k6 pX pY,I_ p.hand,I_ p.limit] 0 w9);have k1:=KO.ac4 iZ hF X2.o HK.o;rw [hF] at u1 k1;rw [hF] at x2 b1;obtain ⟨e0',e1',e2',e3',e4',e5',vw,vz,vC⟩:=x2.c9
 refine af7 (by simp [results,results196,go_sem,e0',e1',e2',e3',e4',e5',vw,vz,vC]<;>rfl) ?_;rw [HF.o];exact ⟨_,_,_,_,_,_,_,rfl,fun V hu=>⟨((k1.mono (show w.heap.size<=w6.heap.size by omega)).up hu).rk,(mW.o V (u1.trans ⟨hu.1,fun k h1 h2=>hu.2 k (by omega) h2⟩)).s,(mW.o V (u1.trans ⟨hu.1,fun k h1 h2=>hu.2 k (by omega) h2⟩)).l,(mW.o V (u1.trans ⟨hu.1,fun k h1 h2=>hu.2 k (by omega) h2⟩)).g⟩,b1⟩
structure LW_ (w W:World) (rb q g4 g5:Nat) (kd e a b c:Int) (nm:Kx.Str):Prop where
 r:RD W rb q
 g:w.grownBy W (some rb)
 x4:BX W g4 59 [I_ 0,I_ 0,I_ 0,I_ 0,I_ 0,.string ⟨#[]⟩]
 x5:BX W g5 59 [I_ kd,I_ e,I_ a,I_ b,I_ c,.string nm]
 m:c<=9223372036854775807/\nm.size<=5
 h:rb<w.heap.size/\w.heap.size<=g4/\g4<g5
section
variable {w W V:World} {rb q q' g4 g5:Nat} {kd e a b c:Int} {nm:Kx.Str}
theorem LW_.pick (h:LW_ w W rb q g4 g5 kd e a b c nm) (hr:RD V rb q') (hg:W.grownBy V (some rb)):LW_ w V rb q' g4 g5 kd e a b c nm:=
 ⟨hr,grownBy_trans h.g hg,(hg.block g4 h.x4.lt (by have:=h.h;simp;omega)).trans h.x4,(hg.block g5 h.x5.lt (by have:=h.h;simp;omega)).trans h.x5,h.m,h.h⟩
theorem LW_.below (h:LW_ w W rb q g4 g5 kd e a b c nm) (hb:Below W.heap.size W V):LW_ w V rb q g4 g5 kd e a b c nm:=
 h.pick (h.r.keep hb) (grown_below hb ⟨hb.os,hb.tape,hb.output⟩)
theorem LW_.env (h:LW_ w W rb q g4 g5 kd e a b c nm) (x:Int):LW_ w (W.setCell ⟨g5,1,none⟩ (I_ x)) rb q g4 g5 kd x a b c nm:=
 ⟨h.r.grown (aK W g5 1 _) (fun k hk=>by cases hk;have:=h.h;omega),ed h.g (aK W g5 1 _) (fun k hk=>by cases hk;have:=h.h;omega),h.x4.other (by have:=h.h;omega) 1 _,h.x5.set 1 _,h.m,h.h⟩
theorem LW_.name (h:LW_ w W rb q g4 g5 kd e a b c nm) {s:Kx.Str} (hs:s.size<=5):LW_ w (W.setCell ⟨g5,5,none⟩ (.string s)) rb q g4 g5 kd e a b c s:=
 ⟨h.r.grown (aK W g5 5 _) (fun k hk=>by cases hk;have:=h.h;omega),ed h.g (aK W g5 5 _) (fun k hk=>by cases hk;have:=h.h;omega),h.x4.other (by have:=h.h;omega) 5 _,h.x5.set 5 _,⟨h.m.1,hs⟩,h.h⟩
end
def litsbc:List Kx.Str:=[⟨#[98]⟩,⟨#[99]⟩]
def DrawnOther (rb p:Nat) (w:World) (en:Ending) (w':World):Prop:=∃ c:Kx.Call,∃ e:Nat,en=.returned (dW c)/\c.env=(e:Int)/\1<=e/\e<3/\c.name.size<=5/\c.c<=9223372036854775807/\nP rb p 40 w w'
theorem l92Other_c (rb p:Nat) (l:List Kx.aG) (a0 a1 a2 a3:Option Addr) (n0 n1 n2 n3 m0 m1 m2 m3:Nat) (w:World) (h:RD w rb p) (hp:p<=700000) (hI:∀ V,w.grownBy V (some rb)->bV V (.slice a1 n1 m1) l) (h12:l.length=12) :
  Calls prog 195 #[.pointer (some ⟨rb,0,none⟩),.agg #[.slice a0 n0 m0,.slice a1 n1 m1,.slice a2 n2 m2,.slice a3 n3 m3]] w (DrawnOther rb p w):=by
 have hrb:=h.lt;obtain ⟨w0,hw0⟩:∃ w0,w.alloc (.cells #[.slice a0 n0 m0,.slice a1 n1 m1,.slice a2 n2 m2,.slice a3 n3 m3] 28)=w0:=⟨_,rfl⟩;obtain ⟨w1,hw1⟩:∃ w1,w0.alloc (.cells #[I_ 0,I_ 0,I_ 0,I_ 0,I_ 0,.string ⟨#[]⟩] 59)=w1:=⟨_,rfl⟩;have B0:Below w.heap.size w w0:=hw0 ▸ dm;have B1:Below w0.heap.size w0 w1:=hw1 ▸ dm;have Bw:Below w.heap.size w w1:=B0.trans (B1.mono B0.size);have s0:w.heap.size<w0.heap.size:=by rw [<-hw0];simp
 have s1:w0.heap.size<w1.heap.size:=by rw [<-hw1];simp
 have XK_:=af (show BX w1 w.heap.size 28 [.slice a0 n0 m0,.slice a1 n1 m1,.slice a2 n2 m2,.slice a3 n3 m3] from (hw0 ▸ BX.new w _ _:BX w0 _ _ _).below B1);have X4:=af (show BX w1 w0.heap.size 59 [I_ 0,I_ 0,I_ 0,I_ 0,I_ 0,.string ⟨#[]⟩] from hw1 ▸ BX.new w0 _ _);have Hr:=af (h.keep Bw);have Hg:=af (grown_below (rb:=rb) Bw ⟨Bw.os,Bw.tape,Bw.output⟩);have HC:=af (Ij rb p l (.slice a0 n0 m0) _ (.slice a2 n2 m2) (.slice a3 n3 m3) w1 Hr.o (by omega) (fun V hV=>hI V (grownBy_trans Hg.o hV)) h12)
 clear h hI h12 B0 B1 Bw;have p0:=XK_.o.c4;go_enter func195,ntmps195;go_wp2_with fail;clear hw0 hw1 p0;refine HC.o.mono ?_;rintro en w2 ⟨⟨bQ,JF,ca,cb,cc,bg⟩,e,rfl,-,-,hnm,hcm,q,hq,hr,hg⟩;unfold dW;have hz2:=hg.size;obtain ⟨w3,hw3⟩:∃ V,w2.alloc (.cells #[I_ bQ,I_ JF,I_ ca,I_ cb,I_ cc,.string bg] 59)=V:=⟨_,rfl⟩;have B3:Below w2.heap.size w2 w3:=hw3 ▸ dm;have Y4_:BX w2 w0.heap.size 59 [I_ 0,I_ 0,I_ 0,I_ 0,I_ 0,.string ⟨#[]⟩]:=(hg.block w0.heap.size X4.o.lt (by simp;omega)).trans X4.o;have H:=af (show LW_ w w3 rb q w0.heap.size w2.heap.size bQ JF ca cb cc bg from
  ⟨hr.keep B3,grownBy_trans (grownBy_trans Hg.o hg) (grown_below (rb:=rb) B3 ⟨B3.os,B3.tape,B3.output⟩),Y4_.below B3,hw3 ▸ BX.new w2 _ _,⟨hcm,hnm⟩,by omega⟩)
 obtain ⟨g5,hg5⟩:∃ g,w2.heap.size=g:=⟨_,rfl⟩;obtain ⟨g4,hg4⟩:∃ g,w0.heap.size=g:=⟨_,rfl⟩;rw [hg5] at H;rw [hg4] at H ⊢;clear hr hg hnm hcm B3 Y4_ XK_ X4 Hr Hg HC hg4 s0 s1;go_wp2_with fail
 try rw [hw3]
 try rw [hg5]
 clear hw3 hg5;refine (aN rb _ 2 _ H.o.r (by omega) (by omega) (by omega)).mono ?_;rintro en w4 ⟨x,rfl,x0,x1,hr,hg⟩;replace H:=af (H.o.pick hr hg);obtain ⟨x,rfl⟩:=Int.eq_ofNat_of_zero_le x0;have hwx:IntKind.i64.wrap (1+(x:Int))=1+(x:Int):=IntWalk.i64_in _ (by omega);clear hr hg;have c0:=H.o.x5.c6;have fz:=H.o.x5.frozen 1;go_upto_region 3 with fail;clear c0 fz hwx;obtain ⟨w5,hw5⟩:∃ V,w4.setCell ⟨g5,1,none⟩ (I_ (1+(x:Int)))=V:=⟨_,rfl⟩;replace H:=af (hw5 ▸ H.o.env (1+(x:Int)))
 try rw [hw5]
 clear hw5;have c0:=H.o.x5.c6
 by_cases hk:bQ=1
 ·subst hk;go_wp2_with fail;clear c0;refine (aN rb _ 4 _ H.o.r (by omega) (by omega) (by omega)).mono ?_;rintro en w6 ⟨y,rfl,y0,y1,hr,hg⟩;replace H:=af (H.o.pick hr hg);clear hr hg
  by_cases hy:0<y
  ·obtain ⟨w7,hw7⟩:∃ V,w6.alloc (.cells #[.string ⟨#[98]⟩,.string ⟨#[99]⟩] 9)=V:=⟨_,rfl⟩;have B7:Below w6.heap.size w6 w7:=hw7 ▸ dm;have H7:=af (H.o.below B7);have hL:=(hw7 ▸ OS.lit (l:=litsbc) (f:=df) (sz:=1) (e:=9) (w:=w6) (base:=0) (Nat.zero_le _) #[.string ⟨#[98]⟩,.string ⟨#[99]⟩] rfl rfl (by decide):OS df 1 9 w7 0 (.slice (some ⟨w6.heap.size,0,none⟩) 2 2) litsbc).rs;have hrl:=H.o.r.lt;have HO:=af (JY rb _ litsbc (.slice (some ⟨w6.heap.size,0,none⟩) 2 2) w7 H7.o.r (by omega) hL (by decide) (by decide) (fun a n c e=>by simp only [Value.slice.injEq,Option.some.injEq] at e;obtain ⟨rfl,_⟩:=e;show w6.heap.size≠rb;omega));clear B7 hL H hrl;go_wp2_with fail
   try rw [hw7]
   refine HO.o.mono ?_;rintro en w8 ⟨s,hs,rfl,hr,hg⟩;clear HO hw7;replace H7:=af (H7.o.pick hr hg);clear hr hg;have hsv:s=⟨#[98]⟩\/s=⟨#[99]⟩:=by simpa [litsbc] using hs
   clear hs;have fz5:=H7.o.x5.frozen 5;have fz1:=H7.o.x5.frozen 1;have fq1:=(H7.o.x5.set 5 (.string s)).frozen 1;have c0:=H7.o.x5.c6;rcases hsv with rfl | rfl
   ·have H8:=af ((H7.o.name (s:=⟨#[98]⟩) (by decide)).env 1);go_upto_region 8 with fail;obtain ⟨w9,JX⟩:∃ V,(w8.setCell ⟨g5,5,none⟩ (.string ⟨#[98]⟩)).setCell ⟨g5,1,none⟩ (I_ 1)=V:=⟨_,rfl⟩;rw [JX] at H8
    try rw [JX]
    clear JX c0 fz5 fz1 fq1;have c0:=H8.o.x5.c6;have d0:=H8.o.x4.c6;have f0:=H8.o.x4.frozen 0;have f1:=H8.o.x4.frozen 1;have f2:=H8.o.x4.frozen 2;have f3:=H8.o.x4.frozen 3;have f4:=H8.o.x4.frozen 4;have f5:=H8.o.x4.frozen 5;go_wp2_with fail;obtain ⟨F,hF⟩:∃ V,sets w9 g4 0 [I_ 1,I_ 1,I_ ca,I_ cb,I_ cc,.string ⟨#[98]⟩]=V:=⟨_,rfl⟩;rw [afB w9,hF];obtain ⟨gr,gg⟩:=mi (w:=w) (g:=g4) (by have:=H8.o.h;omega) (by have:=H8.o.h;omega) [I_ 1,I_ 1,I_ ca,I_ cb,I_ cc,.string ⟨#[98]⟩] 0 H8.o.r H8.o.g
    have XF_:=H8.o.x4.sets [I_ 1,I_ 1,I_ ca,I_ cb,I_ cc,.string ⟨#[98]⟩] rfl;rw [hF] at gr gg XF_;obtain ⟨e0,e1,e2,e3,e4,e5⟩:=XF_.c6;refine af7 (by simp [results,results195,go_sem,e0,e1,e2,e3,e4,e5]<;>rfl) ?_;exact ⟨⟨1,1,ca,cb,cc,⟨#[98]⟩⟩,1,rfl,by first | rfl | omega,by omega,by omega,H8.o.m.2,H8.o.m.1,_,by omega,gr,gg⟩
   have H8:=af (((H7.o.name (s:=⟨#[99]⟩) (by decide)).env 1).env 2);have ji:=((H7.o.x5.set 5 (.string ⟨#[99]⟩)).set 1 (I_ 1)).frozen 1;go_upto_region 8 with fail;obtain ⟨w9,JX⟩:∃ V,((w8.setCell ⟨g5,5,none⟩ (.string ⟨#[99]⟩)).setCell ⟨g5,1,none⟩ (I_ 1)).setCell ⟨g5,1,none⟩ (I_ 2)=V:=⟨_,rfl⟩;rw [JX] at H8
   try rw [JX]
   clear JX c0 fz5 fz1 fq1 ji;have c0:=H8.o.x5.c6;have d0:=H8.o.x4.c6;have f0:=H8.o.x4.frozen 0;have f1:=H8.o.x4.frozen 1;have f2:=H8.o.x4.frozen 2;have f3:=H8.o.x4.frozen 3;have f4:=H8.o.x4.frozen 4;have f5:=H8.o.x4.frozen 5;go_wp2_with fail;obtain ⟨F,hF⟩:∃ V,sets w9 g4 0 [I_ 1,I_ 2,I_ ca,I_ cb,I_ cc,.string ⟨#[99]⟩]=V:=⟨_,rfl⟩;rw [afB w9,hF];obtain ⟨gr,gg⟩:=mi (w:=w) (g:=g4) (by have:=H8.o.h;omega) (by have:=H8.o.h;omega) [I_ 1,I_ 2,I_ ca,I_ cb,I_ cc,.string ⟨#[99]⟩] 0 H8.o.r H8.o.g
   have XF_:=H8.o.x4.sets [I_ 1,I_ 2,I_ ca,I_ cb,I_ cc,.string ⟨#[99]⟩] rfl;rw [hF] at gr gg XF_;obtain ⟨e0,e1,e2,e3,e4,e5⟩:=XF_.c6;refine af7 (by simp [results,results195,go_sem,e0,e1,e2,e3,e4,e5]<;>rfl) ?_;exact ⟨⟨1,2,ca,cb,cc,⟨#[99]⟩⟩,2,rfl,by first | rfl | omega,by omega,by omega,H8.o.m.2,H8.o.m.1,_,by omega,gr,gg⟩
  have hy0:¬ (0:Int)<y:=hy;have c0:=H.o.x5.c6;have d0:=H.o.x4.c6;have f0:=H.o.x4.frozen 0;have f1:=H.o.x4.frozen 1;have f2:=H.o.x4.frozen 2;have f3:=H.o.x4.frozen 3;have f4:=H.o.x4.frozen 4;have f5:=H.o.x4.frozen 5;go_wp2_with fail;obtain ⟨F,hF⟩:=XP (sets w6 g4 0 [I_ 1,I_ (1+(x:Int)),I_ ca,I_ cb,I_ cc,.string bg]);rw [afB w6,hF];obtain ⟨gr,gg⟩:=mi (w:=w) (g:=g4) (by have:=H.o.h;omega) (by have:=H.o.h;omega) [I_ 1,I_ (1+(x:Int)),I_ ca,I_ cb,I_ cc,.string bg] 0 H.o.r H.o.g
  have XF_:=H.o.x4.ac4 hF;rw [hF] at gr gg XF_;obtain ⟨e0,e1,e2,e3,e4,e5⟩:=XF_.c6;refine af7 (by simp [results,results195,go_sem,e0,e1,e2,e3,e4,e5]<;>rfl) ?_;exact ⟨⟨1,(1+(x:Int)),ca,cb,cc,bg⟩,(1+x),rfl,by first | rfl | omega,by omega,by omega,H.o.m.2,H.o.m.1,_,by omega,gr,gg⟩
 have hkb:(bQ==1)=false:=by simpa using hk
 clear hk;have c0:=H.o.x5.c6;have d0:=H.o.x4.c6;have f0:=H.o.x4.frozen 0;have f1:=H.o.x4.frozen 1;have f2:=H.o.x4.frozen 2;have f3:=H.o.x4.frozen 3;have f4:=H.o.x4.frozen 4;have f5:=H.o.x4.frozen 5;go_wp2_with fail;obtain ⟨F,hF⟩:=XP (sets w5 g4 0 [I_ bQ,I_ (1+(x:Int)),I_ ca,I_ cb,I_ cc,.string bg]);rw [afB w5,hF];obtain ⟨gr,gg⟩:=mi (w:=w) (g:=g4) (by have:=H.o.h;omega) (by have:=H.o.h;omega) [I_ bQ,I_ (1+(x:Int)),I_ ca,I_ cb,I_ cc,.string bg] 0 H.o.r H.o.g
 have XF_:=H.o.x4.ac4 hF;rw [hF] at gr gg XF_;obtain ⟨e0,e1,e2,e3,e4,e5⟩:=XF_.c6;refine af7 (by simp [results,results195,go_sem,e0,e1,e2,e3,e4,e5]<;>rfl) ?_;exact ⟨⟨bQ,(1+(x:Int)),ca,cb,cc,bg⟩,(1+x),rfl,by first | rfl | omega,by omega,by omega,H.o.m.2,H.o.m.1,_,by omega,gr,gg⟩

structure LR (w W:World) (rb q g2 g3:Nat) (p:Kx.aH) (u0 u1 u2 u3 u4 u5 u6:Value):Prop where
 r:RD W rb q
 g:w.grownBy W (some rb)
 x2:BX W g2 32 [.slice none 0 0,.slice none 0 0,.slice none 0 0,.slice none 0 0,.slice none 0 0,.slice none 0 0,.slice none 0 0,I_ 0,I_ 0]
 x3:BX W g3 32 [u0,u1,u2,u3,u4,u5,u6,I_ p.hand,I_ p.limit]
 f:∃ base hi,g2<base/\(g3<base\/hi<=g3)/\hi<=W.heap.size/\Qi W base hi u0 u1 u2 u3 u4 u5 u6 p
 ok:Kx.bI p=true
 sl:Sl u0/\Sl u1/\Sl u2/\Sl u3/\Sl u4/\Sl u5/\Sl u6
 h:rb<w.heap.size/\w.heap.size<=g2/\g2<g3
section
variable {w W V:World} {rb q q' g2 g3 g5 base:Nat} {p p':Kx.aH} {u0 u1 u2 u3 u4 u5 u6 z0 z1 z2 z3 z4 z5 z6:Value}
theorem LR.pick (h:LR w W rb q g2 g3 p u0 u1 u2 u3 u4 u5 u6) (hr:RD V rb q') (hg:W.grownBy V (some rb)):LR w V rb q' g2 g3 p u0 u1 u2 u3 u4 u5 u6:=by
 obtain ⟨base,hi,h2,h3,h4,hk⟩:=h.f;have hh:=h.h;exact ⟨hr,grownBy_trans h.g hg,(hg.block g2 h.x2.lt (by simp;omega)).trans h.x2,(hg.block g3 h.x3.lt (by simp;omega)).trans h.x3,⟨base,hi,h2,h3,Nat.le_trans h4 hg.size,hk.to hg.size (fun j a b=>hg.block j (by omega) (by simp;omega))⟩,h.ok,h.sl,h.h⟩
theorem LR.below (h:LR w W rb q g2 g3 p u0 u1 u2 u3 u4 u5 u6) (hb:Below W.heap.size W V):LR w V rb q g2 g3 p u0 u1 u2 u3 u4 u5 u6:=
 h.pick (h.r.keep hb) (grown_below hb ⟨hb.os,hb.tape,hb.output⟩)
theorem LR.rp (h:LR w W rb q g2 g3 p u0 u1 u2 u3 u4 u5 u6):RP W u0 u1 u2 u3 u4 u5 u6 p:=by
 obtain ⟨base,hi,h2,h3,h4,hk⟩:=h.f;exact hk W aW (fun _ _ _=>rfl)
theorem LR.ag (h:LR w W rb q g2 g3 p u0 u1 u2 u3 u4 u5 u6):∀ V,W.grownBy V (some rb)->bV V u1 p.k.ag:=by
 obtain ⟨base,hi,h2,h3,h4,hk⟩:=h.f;have hh:=h.h;exact fun V hg=>(hk V hg.size (fun j a b=>hg.block j (by omega) (by simp;omega))).k.i
theorem LR.set (h:LR w W rb q g2 g3 p u0 u1 u2 u3 u4 u5 u6) (hs:Sl z0/\Sl z1/\Sl z2/\Sl z3/\Sl z4/\Sl z5/\Sl z6) (hg:g3<base) (hk:IE W base z0 z1 z2 z3 z4 z5 z6 p') (hok:Kx.bI p'=true) :
  LR w (sets W g3 0 [z0,z1,z2,z3,z4,z5,z6,I_ p'.hand,I_ p'.limit]) rb q g2 g3 p' z0 z1 z2 z3 z4 z5 z6:=by
 have hh:=h.h;obtain ⟨h1,h2⟩:=mi (w:=w) (g:=g3) (by omega) (by omega) [z0,z1,z2,z3,z4,z5,z6,I_ p'.hand,I_ p'.limit] 0 h.r h.g;exact ⟨h1,h2,BX.iq (by omega) _ 0 h.x2,h.x3.sets _ rfl,⟨base,W.heap.size,by omega,.inl hg,by rw [jB];exact Nat.le_refl _,hk.r.to (by rw [jB];exact Nat.le_refl _) (fun j a _=>mG _ _ (by omega) _ _)⟩,hok,hs,hh⟩
theorem LR.jb (h:LR w W rb q g2 g3 p u0 u1 u2 u3 u4 u5 u6) (hi:∃ base hi,g2<base/\(g3<base\/hi<=g3)/\hi<=W.heap.size/\(g5<base\/hi<=g5)/\Qi W base hi u0 u1 u2 u3 u4 u5 u6 p) (h5:g3<g5) (l:List Value):LR w (sets W g5 0 l) rb q g2 g3 p u0 u1 u2 u3 u4 u5 u6:=by
 obtain ⟨base,hi,h2,h3,h4,h6,hk⟩:=hi;have hh:=h.h;obtain ⟨a,b⟩:=mi (w:=w) (g:=g5) (by omega) (by omega) l 0 h.r h.g;exact ⟨a,b,BX.iq (by omega) _ 0 h.x2,BX.iq (by omega) _ 0 h.x3,⟨base,hi,h2,h3,by rw [jB];exact h4,hk.to (by rw [jB];exact Nat.le_refl _) (fun j a b=>mG _ _ (by omega) _ _)⟩,h.ok,h.sl,hh⟩
theorem LR.apart (h:LR w W rb q g2 g3 p u0 u1 u2 u3 u4 u5 u6) {o:Obj}:∃ base hi,g2<base/\(g3<base\/hi<=g3)/\hi<=(W.alloc o).heap.size/\(W.heap.size<base\/hi<=W.heap.size)/\Qi (W.alloc o) base hi u0 u1 u2 u3 u4 u5 u6 p:=by
 obtain ⟨base,hi,h2,h3,h4,hk⟩:=h.f;exact ⟨base,hi,h2,h3,Nat.le_trans h4 (by simp),.inr h4,hk.to (by simp) (fun j a b=>Below.heap_alloc W o j (by omega))⟩
theorem LR.fin (h:LR w W rb q g2 g3 p u0 u1 u2 u3 u4 u5 u6):∃ base,g2<base/\IE (sets W g2 0 [u0,u1,u2,u3,u4,u5,u6,I_ p.hand,I_ p.limit]) base u0 u1 u2 u3 u4 u5 u6 p/\RD (sets W g2 0 [u0,u1,u2,u3,u4,u5,u6,I_ p.hand,I_ p.limit]) rb q/\w.grownBy (sets W g2 0 [u0,u1,u2,u3,u4,u5,u6,I_ p.hand,I_ p.limit]) (some rb)/\BX (sets W g2 0 [u0,u1,u2,u3,u4,u5,u6,I_ p.hand,I_ p.limit]) g2 32 [u0,u1,u2,u3,u4,u5,u6,I_ p.hand,I_ p.limit]:=by
 obtain ⟨base,hi,h2,h3,h4,hk⟩:=h.f;have hh:=h.h;obtain ⟨a,b⟩:=mi (w:=w) (g:=g2) (by omega) (by omega) [u0,u1,u2,u3,u4,u5,u6,I_ p.hand,I_ p.limit] 0 h.r h.g;exact ⟨base,h2,(hk.to (by rw [jB];exact Nat.le_refl _) (fun j a _=>mG _ _ (by omega) _ _)).UG (by rw [jB];exact h4),a,b,h.x2.sets _ rfl⟩
end
theorem load_ok {p:Kx.aH} (h:Kx.bI p=true) {a:Nat} (ha:a<64):Kx.bI (Kx.Bg p a).1=true:=
 Kx.iD.2 ((Kx.iD.1 h).load (Kx.ay.2 (by omega)))
def DrawnP (rb p n:Nat) (w:World) (en:Ending) (w':World):Prop:=∃ (P:Kx.aH) (um ui ue uc us ul up:Value) (base:Nat),en=.returned (bU um ui ue uc us ul up P.hand P.limit)/\(Sl um/\Sl ui/\Sl ue/\Sl uc/\Sl us/\Sl ul/\Sl up)/\Kx.bI P=true/\w.heap.size<=base/\IE w' base um ui ue uc us ul up P/\nP rb p n w w'
theorem l92Pager_c (rb p:Nat) (w:World) (h:RD w rb p) (hp:p<=600000) :
  Calls prog 121 #[.pointer (some ⟨rb,0,none⟩)] w (DrawnP rb p 1200 w):=by
 have hrb:=h.lt;obtain ⟨w1,hw1⟩:∃ w1,w.alloc (.cells #[.slice none 0 0,.slice none 0 0,.slice none 0 0,.slice none 0 0,.slice none 0 0,.slice none 0 0,.slice none 0 0,I_ 0,I_ 0] 32)=w1:=⟨_,rfl⟩;have B1:Below w.heap.size w w1:=hw1 ▸ dm;have s1:w.heap.size<w1.heap.size:=by rw [<-hw1];simp
 have Hr:=af (h.keep B1);have Hg:=af (grown_below (rb:=rb) B1 ⟨B1.os,B1.tape,B1.output⟩);have X2:=af (show BX w1 w.heap.size 32 [.slice none 0 0,.slice none 0 0,.slice none 0 0,.slice none 0 0,.slice none 0 0,.slice none 0 0,.slice none 0 0,I_ 0,I_ 0] from (hw1 ▸ BX.new w _ _:BX w1 _ _ _));clear B1 h;go_enter func121,ntmps121;go_wp2_with fail;clear hw1;refine (aN rb p 6 w1 Hr.o (by omega) (by omega) (by omega)).mono ?_;rintro en w2 ⟨x,rfl,x0,x1,hr,hg⟩;have hz2:=hg.size;obtain ⟨P,hP⟩:∃ P,(lS (1+x)).1=P:=⟨_,rfl⟩;have hin:Kx.bK (1+x) 1 6=true:=Kx.ay.2 ⟨by omega,by omega⟩;have YM:=af (show Kx.bI P=true from hP ▸ FN hin);have HC:=af (show Calls prog 192 #[I_ (1+x)] w2 (Gs w2 P [.bool true]) from hP ▸ FO (1+x) w2 hin);have hwr:IntKind.i64.wrap (1+x)=1+x:=IntWalk.i64_in _ (by omega)
 have Y2:=af (show BX w2 w.heap.size 32 [.slice none 0 0,.slice none 0 0,.slice none 0 0,.slice none 0 0,.slice none 0 0,.slice none 0 0,.slice none 0 0,I_ 0,I_ 0] from (hg.block w.heap.size X2.o.lt (by simp;omega)).trans X2.o);replace Hg:=af (grownBy_trans Hg.o hg);replace Hr:=af hr;clear hP hin X2 hr hg;go_wp2_with fail;refine HC.o.mono ?_;rintro en w3 ⟨_,_,_,_,_,_,_,rfl,Nw,hb⟩;unfold bU;obtain ⟨⟨b0,xN,wL,rfl⟩,⟨b1,zH,xC,rfl⟩,⟨b2,wM,qB,rfl⟩,⟨b3,zI,zJ,rfl⟩,⟨b4,UT,UW,rfl⟩,⟨b5,UX,UY,rfl⟩,⟨b6,UZ,U8,rfl⟩⟩:=Nw.rp.sl;have hz3:=hb.size;obtain ⟨w4,hw4⟩:∃ V,w3.alloc (.cells #[.slice b0 xN wL,.slice b1 zH xC,.slice b2 wM qB,.slice b3 zI zJ,.slice b4 UT UW,.slice b5 UX UY,.slice b6 UZ U8,I_ P.hand,I_ P.limit] 32)=V:=⟨_,rfl⟩;have B4:Below w3.heap.size w3 w4:=hw4 ▸ dm
 have HP:=af (show LR w w4 rb (p+1) w.heap.size w3.heap.size P (.slice b0 xN wL) (.slice b1 zH xC) (.slice b2 wM qB) (.slice b3 zI zJ) (.slice b4 UT UW) (.slice b5 UX UY) (.slice b6 UZ U8) from
  ⟨(Hr.o.keep hb).keep B4,grownBy_trans (grownBy_trans Hg.o (grown_below (rb:=rb) hb ⟨hb.os,hb.tape,hb.output⟩)) (grown_below (rb:=rb) B4 ⟨B4.os,B4.tape,B4.output⟩),(Y2.o.below hb).below B4,hw4 ▸ BX.new w3 _ _,
   ⟨w2.heap.size,w3.heap.size,by omega,.inr aW,B4.size,Nw.r.to B4.size (fun j _ b=>B4.block j b)⟩,YM.o,Nw.rp.sl,by omega⟩)
 obtain ⟨g3,hg3⟩:∃ g,w3.heap.size=g:=⟨_,rfl⟩;rw [hg3] at HP;clear Nw hb HC B4 YM Hr Hg Y2 hwr hz2 hz3 s1;go_wp2_with fail
 try rw [hw4]
 try rw [hg3]
 clear hw4 hg3;refine (aN rb _ 24 _ HP.o.r (by omega) (by omega) (by omega)).mono ?_;rintro en w5 ⟨n,rfl,hn0,hn1,hr,hg⟩;replace HP:=af (HP.o.pick hr hg);obtain ⟨n,rfl⟩:=Int.eq_ofNat_of_zero_le hn0;clear hr hg;go_wp2_with fail;refine (aN rb _ 5 _ HP.o.r (by omega) (by omega) (by omega)).mono ?_;rintro en w6 ⟨gr,rfl,gr0,gr1,hr,hg⟩;replace HP:=af (HP.o.pick hr hg);obtain ⟨gb,hgb⟩:∃ b,(gr==(0:Int))=b:=⟨_,rfl⟩;clear hr hg;go_wp2_with fail;clear hgb;go_loopw [7] (fun i wr=>∃ (j q:Nat) (P:Kx.aH) (u0 u1 u2 u3 u4 u5 u6:Value),i=I_ j/\j<=n/\q<=p+3+45*j/\TI (LR w wr rb q w.heap.size g3 P u0 u1 u2 u3 u4 u5 u6)) (fun i _=>n - (intOf i).toNat)
 case atStart=>exact ⟨0,_,_,_,_,_,_,_,_,_,rfl,Nat.zero_le _,by omega,HP⟩
 case round =>
  clear HP;obtain ⟨j,q,P,u0,u1,u2,u3,u4,u5,u6,rfl,hj,hq,HP⟩:=hrel;obtain ⟨⟨b0,xN,wL,rfl⟩,⟨b1,zH,xC,rfl⟩,⟨b2,wM,qB,rfl⟩,⟨b3,zI,zJ,rfl⟩,⟨b4,UT,UW,rfl⟩,⟨b5,UX,UY,rfl⟩,⟨b6,UZ,U8,rfl⟩⟩:=HP.o.sl
  by_cases hlt:j<n
  ·have kQ:(j:Int)<(n:Int):=by omega
   go_wp2_with fail;refine (aN rb _ 4 _ HP.o.r (by omega) (by omega) (by omega)).mono ?_;rintro en wt ⟨y,rfl,y0,y1,hr,hg⟩;replace HP:=af (HP.o.pick hr hg);clear hr hg
   by_cases hy1:y<=1
   ·clear y1;obtain ⟨d,hd⟩:∃ d,wt.drew=d:=⟨_,rfl⟩;have Bd:Below wt.heap.size wt d:=hd ▸ Below.bz fZ;have Hd:=af hd;replace HP:=af (HP.o.below Bd);clear hd Bd;have hy:y=0\/y=1:=by omega
    rcases hy with rfl | rfl
    all_goals
     go_wp2_with fail;refine uu (S:=(fun U:World=>U.cell? ⟨g3,0,none⟩=some (.slice b0 xN wL)/\U.cell? ⟨g3,1,none⟩=some (.slice b1 zH xC)/\U.cell? ⟨g3,2,none⟩=some (.slice b2 wM qB)/\U.cell? ⟨g3,3,none⟩=some (.slice b3 zI zJ)/\U.cell? ⟨g3,4,none⟩=some (.slice b4 UT UW)/\U.cell? ⟨g3,5,none⟩=some (.slice b5 UX UY)/\U.cell? ⟨g3,6,none⟩=some (.slice b6 UZ U8)/\U.cell? ⟨g3,7,none⟩=some (I_ P.hand)/\U.cell? ⟨g3,8,none⟩=some (I_ P.limit))) (xs:=[10]) (by kernel_rfl) (by rw [Hd.o];exact HP.o.x3.c9) (fun hHeld=>?_)
     rw [Hd.o];rw [Hd.o] at hHeld;refine tL 0 ?_;refine tP 1 ?_;refine tP 3 ?_;refine aho 2 fun K hK=>?_;go_simp;go_at_call 81;refine (aN rb _ 64 _ HP.o.r (by omega) (by omega) (by omega)).mono ?_;rintro en V1 ⟨xa,rfl,xa0,UE,hr,hg⟩;have H1:=af (HP.o.pick hr hg);obtain ⟨ad,rfl⟩:=Int.eq_ofNat_of_zero_le xa0;clear hr hg;refine afX hK H1.o.x3.c9 fun hHeld=>?_
     clear hK K;refine aho 4 fun K hK=>?_;go_simp;go_at_call 81;refine (aN rb _ 999 _ H1.o.r (by omega) (by omega) (by omega)).mono ?_;rintro en V2 ⟨xb,rfl,ZU,ZV,hr,hg⟩;have H2:=af (H1.o.pick hr hg);clear hr hg;refine afX hK H2.o.x3.c9 fun hHeld=>?_
     clear hK K;have hwr:IntKind.i64.wrap (1+xb)=1+xb:=IntWalk.i64_in _ (by omega);refine tP 5 ?_;clear hwr;refine aho 6 fun K hK=>?_;go_simp;obtain ⟨P2,hP2⟩:∃ P2,(iM P ad (1+xb)).1=P2:=⟨_,rfl⟩;have hwd:Kx.bK (1+xb) 0 9999=true:=Kx.ay.2 ⟨by omega,by omega⟩;have WI:=af (show Kx.bI P2=true from hP2 ▸ Kw H2.o.ok (by omega) hwd);have HC:=af (hP2 ▸ BO P ad (1+xb) _ _ _ _ _ _ _ V2 H2.o.rp H2.o.ok (by omega) hwd);unfold bU at HC;clear hP2 hwd;go_at_call 193;refine HC.o.mono ?_;rintro en V3 ⟨z0,z1,z2,z3,z4,z5,z6,rfl,Nw,hb⟩;have H3:=af (H2.o.below hb);have hg5:=H2.o.x3.lt;unfold bU;obtain ⟨⟨e0,en0,eQ,rfl⟩,⟨e1,eU,eX,rfl⟩,⟨e2,eY,fA,rfl⟩,⟨e3,fB,fC,rfl⟩,⟨e4,WJ,WL,rfl⟩,⟨e5,WM,WN,rfl⟩,⟨e6,WO,WQ,rfl⟩⟩:=Nw.rp.sl;clear hb HC;refine afX hK H3.o.x3.c9 fun hHeld=>?_
     clear hK K;refine tP 7 ?_;refine tP 8 ?_;refine tP 9 ?_;have c0:=H3.o.x3.c9;have y0':=H3.o.x3.f9;refine ahp 10 fun K hK=>?_;go_simp;refine hK.out _ _ ?_;clear hK K;refine nL ?_;refine gY (by kernel_rfl) ?_ _;obtain ⟨V4,FP⟩:=XP (sets V3 g3 0 [.slice e0 en0 eQ,.slice e1 eU eX,.slice e2 eY fA,.slice e3 fB fC,.slice e4 WJ WL,.slice e5 WM WN,.slice e6 WO WQ,I_ P2.hand,I_ P2.limit])
     rw [afC V3,FP];have HP4:=af (show LR w V4 rb _ w.heap.size g3 P2 (.slice e0 en0 eQ) (.slice e1 eU eX) (.slice e2 eY fA) (.slice e3 fB fC) (.slice e4 WJ WL) (.slice e5 WM WN) (.slice e6 WO WQ) from FP ▸ H3.o.set Nw.rp.sl hg5 Nw WI.o);clear FP Nw c0 y0' hg5 HP H1 H2 H3 Hd;go_wp2_with fail;go_roundw
     case rel=>exact ⟨j+1,_,_,_,_,_,_,_,_,_,by go_num,by omega,by omega,HP4⟩
     case measure=>simp [intOf];omega
   by_cases hy2:y<=2
   ·obtain ⟨d,hd⟩:∃ d,wt.drew=d:=⟨_,rfl⟩;have Bd:Below wt.heap.size wt d:=hd ▸ Below.bz fZ;have Hd:=af hd;replace HP:=af (HP.o.below Bd);clear hd Bd;obtain rfl:y=2:=by omega
    go_wp2_with fail;refine uu (S:=(fun U:World=>U.cell? ⟨g3,0,none⟩=some (.slice b0 xN wL)/\U.cell? ⟨g3,1,none⟩=some (.slice b1 zH xC)/\U.cell? ⟨g3,2,none⟩=some (.slice b2 wM qB)/\U.cell? ⟨g3,3,none⟩=some (.slice b3 zI zJ)/\U.cell? ⟨g3,4,none⟩=some (.slice b4 UT UW)/\U.cell? ⟨g3,5,none⟩=some (.slice b5 UX UY)/\U.cell? ⟨g3,6,none⟩=some (.slice b6 UZ U8)/\U.cell? ⟨g3,7,none⟩=some (I_ P.hand)/\U.cell? ⟨g3,8,none⟩=some (I_ P.limit))) (xs:=[8]) (by kernel_rfl) (by rw [Hd.o];exact HP.o.x3.c9) (fun hHeld=>?_)
    rw [Hd.o];rw [Hd.o] at hHeld;refine tL 0 ?_;refine tP 1 ?_;refine aho 2 fun K hK=>?_;go_simp;go_at_call 81;refine (aN rb _ 64 _ HP.o.r (by omega) (by omega) (by omega)).mono ?_;rintro en V1 ⟨xa,rfl,xa0,UE,hr,hg⟩;have H1:=af (HP.o.pick hr hg);obtain ⟨ad,rfl⟩:=Int.eq_ofNat_of_zero_le xa0;clear hr hg;refine afX hK H1.o.x3.c9 fun hHeld=>?_
    clear hK K;refine aho 3 fun K hK=>?_;go_simp;obtain ⟨P2,hP2⟩:∃ P2,(Kx.Bg P ad).1=P2:=⟨_,rfl⟩;have WI:=af (show Kx.bI P2=true from hP2 ▸ load_ok H1.o.ok (by omega));have HC:=af (hP2 ▸ PagerLoad_c P ad _ _ _ _ _ _ _ V1 H1.o.rp H1.o.ok (by omega));unfold bU at HC;clear hP2;go_at_call 194;refine HC.o.mono ?_;rintro en V3 ⟨z0,z1,z2,z3,z4,z5,z6,rfl,Nw,hb⟩;have H3:=af (H1.o.below hb);have hg5:=H1.o.x3.lt;unfold bU;obtain ⟨⟨e0,en0,eQ,rfl⟩,⟨e1,eU,eX,rfl⟩,⟨e2,eY,fA,rfl⟩,⟨e3,fB,fC,rfl⟩,⟨e4,WJ,WL,rfl⟩,⟨e5,WM,WN,rfl⟩,⟨e6,WO,WQ,rfl⟩⟩:=Nw.rp.sl;clear hb HC;refine afX hK H3.o.x3.c9 fun hHeld=>?_
    clear hK K;refine tP 4 ?_;refine tP 5 ?_;refine tP 6 ?_;refine tP 7 ?_;have c0:=H3.o.x3.c9;have y0':=H3.o.x3.f9;refine ahp 8 fun K hK=>?_;go_simp;refine hK.out _ _ ?_;clear hK K;refine nL ?_;refine gY (by kernel_rfl) ?_ _;obtain ⟨V4,FP⟩:=XP (sets V3 g3 0 [.slice e0 en0 eQ,.slice e1 eU eX,.slice e2 eY fA,.slice e3 fB fC,.slice e4 WJ WL,.slice e5 WM WN,.slice e6 WO WQ,I_ P2.hand,I_ P2.limit])
    rw [afC V3,FP];have HP4:=af (show LR w V4 rb _ w.heap.size g3 P2 (.slice e0 en0 eQ) (.slice e1 eU eX) (.slice e2 eY fA) (.slice e3 fB fC) (.slice e4 WJ WL) (.slice e5 WM WN) (.slice e6 WO WQ) from FP ▸ H3.o.set Nw.rp.sl hg5 Nw WI.o);clear FP Nw c0 y0' hg5 HP H1 H3 Hd;go_wp2_with fail;go_roundw
    case rel=>exact ⟨j+1,_,_,_,_,_,_,_,_,_,by go_num,by omega,by omega,HP4⟩
    case measure=>simp [intOf];omega
   clear hy1;obtain rfl:y=3:=by omega
   have HO:=af (l92Other_c rb _ P.k.ag b0 b1 b2 b3 xN zH wM zI wL xC qB zJ wt HP.o.r (by omega) HP.o.ag (aI (fM HP.o.ok).1).2.2.1);have t0:=HP.o.x3.c9;go_wp2_with fail;clear t0;refine HO.o.mono ?_;rintro en V1 ⟨⟨bQ,JF,ca,cb,cc,bg⟩,e,rfl,hce,he1,he3,hnm,hcm,q1,hq1,hr,hg⟩;simp only at hce hnm hcm;subst hce;unfold dW;have H1:=af (HP.o.pick hr hg);obtain ⟨V2,hV2⟩:∃ V,V1.alloc (.cells #[I_ bQ,I_ (e:Int),I_ ca,I_ cb,I_ cc,.string bg] 59)=V:=⟨_,rfl⟩;have B2:Below V1.heap.size V1 V2:=hV2 ▸ dm;have X8:=af (show BX V2 V1.heap.size 59 [I_ bQ,I_ (e:Int),I_ ca,I_ cb,I_ cc,.string bg] from hV2 ▸ BX.new V1 _ _);have H2:=af (H1.o.below B2)
   have Hap:=af (show ∃ base hi,w.heap.size<base/\(g3<base\/hi<=g3)/\hi<=V2.heap.size/\(V1.heap.size<base\/hi<=V1.heap.size)/\Qi V2 base hi _ _ _ _ _ _ _ P from hV2 ▸ H1.o.apart);have VX:=af (show g3<V1.heap.size from H1.o.x3.lt);obtain ⟨g8,J5⟩:∃ g,V1.heap.size=g:=⟨_,rfl⟩;rw [J5] at X8 Hap VX;clear hr hg HO HP H1 B2 hcm
   cases gb with
   | false =>
    go_upto_region 17 with fail
    try rw [hV2]
    try rw [J5]
    clear hV2 J5 Hap VX;obtain ⟨P2,hP2⟩:∃ P2,(Kx.QM P ⟨bQ,(e:Int),ca,cb,cc,bg⟩).1=P2:=⟨_,rfl⟩;have WI:=af (show Kx.bI P2=true from hP2 ▸ other_ok H2.o.ok ⟨bQ,(e:Int),ca,cb,cc,bg⟩ rfl (by omega) (by omega));have HC:=af (hP2 ▸ l41Other_c P ⟨bQ,(e:Int),ca,cb,cc,bg⟩ _ _ _ _ _ _ _ _ V2 H2.o.rp H2.o.ok rfl (by omega) (Nat.le_trans (show bg.size<=5 from hnm) (by decide)));unfold bU dW at HC;clear hP2;have k0:=X8.o.c6;have t0:=H2.o.x3.c9;go_wp2_with fail;clear k0 t0;refine HC.o.mono ?_;rintro en V3 ⟨z0,z1,z2,z3,z4,z5,z6,rfl,Nw,hb⟩;have H3:=af (H2.o.below hb);have hg5:=H2.o.x3.lt;unfold bU;obtain ⟨⟨e0,en0,eQ,rfl⟩,⟨e1,eU,eX,rfl⟩,⟨e2,eY,fA,rfl⟩,⟨e3,fB,fC,rfl⟩,⟨e4,WJ,WL,rfl⟩,⟨e5,WM,WN,rfl⟩,⟨e6,WO,WQ,rfl⟩⟩:=Nw.rp.sl;clear hb HC
    have c0:=H3.o.x3.c9;have y0':=H3.o.x3.f9;obtain ⟨V4,FP⟩:=XP (sets V3 g3 0 [.slice e0 en0 eQ,.slice e1 eU eX,.slice e2 eY fA,.slice e3 fB fC,.slice e4 WJ WL,.slice e5 WM WN,.slice e6 WO WQ,I_ P2.hand,I_ P2.limit]);have HP4:=af (show LR w V4 rb _ w.heap.size g3 P2 (.slice e0 en0 eQ) (.slice e1 eU eX) (.slice e2 eY fA) (.slice e3 fB fC) (.slice e4 WJ WL) (.slice e5 WM WN) (.slice e6 WO WQ) from FP ▸ H3.o.set Nw.rp.sl hg5 Nw WI.o);go_upto_region 6 with fail
    rw [afC V3,FP];clear FP Nw c0 y0' hg5 H2 H3 X8;go_wp2_with fail;go_roundw
    case rel=>exact ⟨j+1,_,_,_,_,_,_,_,_,_,by go_num,by omega,by omega,HP4⟩
    case measure=>simp [intOf];omega
   | true =>
    have k0:=X8.o.c6;have f0:=X8.o.frozen 0;have f1:=X8.o.frozen 1;have f2:=X8.o.frozen 2;have f3:=X8.o.frozen 3;have f4:=X8.o.frozen 4;have f5:=X8.o.frozen 5;go_upto_region 16 with fail
    try rw [hV2]
    try rw [J5]
    clear hV2 J5;go_upto_region 17 with fail;obtain ⟨V5,Qw⟩:∃ V,sets V2 g8 0 [I_ 1,I_ 1,I_ 0,I_ 0,I_ 0,.string ⟨#[98]⟩]=V:=⟨_,rfl⟩;rw [afB V2,Qw];replace H2:=af (show LR w V5 rb q1 w.heap.size g3 P (.slice b0 xN wL) (.slice b1 zH xC) (.slice b2 wM qB) (.slice b3 zI zJ) (.slice b4 UT UW) (.slice b5 UX UY) (.slice b6 UZ U8) from Qw ▸ H2.o.jb Hap.o VX.o _);replace X8:=af (show BX V5 g8 59 [I_ 1,I_ 1,I_ 0,I_ 0,I_ 0,.string ⟨#[98]⟩] from Qw ▸ X8.o.sets _ rfl);clear Qw k0 f0 f1 f2 f3 f4 f5 Hap VX
    obtain ⟨P2,hP2⟩:∃ P2,(Kx.QM P (⟨1,1,0,0,0,⟨#[98]⟩⟩:Kx.Call)).1=P2:=⟨_,rfl⟩;have WI:=af (show Kx.bI P2=true from hP2 ▸ other_ok H2.o.ok (⟨1,1,0,0,0,⟨#[98]⟩⟩:Kx.Call) (e:=1) rfl (by decide) (by decide));have HC:=af (hP2 ▸ l41Other_c P (⟨1,1,0,0,0,⟨#[98]⟩⟩:Kx.Call) 1 _ _ _ _ _ _ _ V5 H2.o.rp H2.o.ok rfl (by omega) (by decide));unfold bU dW at HC;clear hP2;have k0:=X8.o.c6;have t0:=H2.o.x3.c9;go_wp2_with fail;clear k0 t0;refine HC.o.mono ?_;rintro en V3 ⟨z0,z1,z2,z3,z4,z5,z6,rfl,Nw,hb⟩;have H3:=af (H2.o.below hb);have hg5:=H2.o.x3.lt;unfold bU;obtain ⟨⟨e0,en0,eQ,rfl⟩,⟨e1,eU,eX,rfl⟩,⟨e2,eY,fA,rfl⟩,⟨e3,fB,fC,rfl⟩,⟨e4,WJ,WL,rfl⟩,⟨e5,WM,WN,rfl⟩,⟨e6,WO,WQ,rfl⟩⟩:=Nw.rp.sl;clear hb HC;have c0:=H3.o.x3.c9
    have y0':=H3.o.x3.f9;obtain ⟨V4,FP⟩:=XP (sets V3 g3 0 [.slice e0 en0 eQ,.slice e1 eU eX,.slice e2 eY fA,.slice e3 fB fC,.slice e4 WJ WL,.slice e5 WM WN,.slice e6 WO WQ,I_ P2.hand,I_ P2.limit]);have HP4:=af (show LR w V4 rb _ w.heap.size g3 P2 (.slice e0 en0 eQ) (.slice e1 eU eX) (.slice e2 eY fA) (.slice e3 fB fC) (.slice e4 WJ WL) (.slice e5 WM WN) (.slice e6 WO WQ) from FP ▸ H3.o.set Nw.rp.sl hg5 Nw WI.o);go_upto_region 6 with fail
    rw [afC V3,FP];clear FP Nw c0 y0' hg5 H2 H3 X8;go_wp2_with fail;go_roundw
    case rel=>exact ⟨j+1,_,_,_,_,_,_,_,_,_,by go_num,by omega,by omega,HP4⟩
    case measure=>simp [intOf];omega
  obtain rfl:j=n:=by omega
  obtain ⟨base,hbase,hko,hrd,hgr,hbx⟩:=HP.o.fin;have tZ:=af hko;have Oe:=af hrd;have JD:=af hgr;have jF:=af hbx;have bF:=af HP.o.ok;have aC:=af hbase;have c0:=HP.o.x3.c9;have r0:=HP.o.x2.c9;obtain ⟨f0,f1,f2,f3,f4,f5,f6,f7,f8⟩:=HP.o.x2.f9;clear hko hrd hgr hbx hbase;go_wp2_with fail;obtain ⟨F,hF⟩:=XP (sets wr w.heap.size 0 [.slice b0 xN wL,.slice b1 zH xC,.slice b2 wM qB,.slice b3 zI zJ,.slice b4 UT UW,.slice b5 UX UY,.slice b6 UZ U8,I_ P.hand,I_ P.limit])
  rw [afC wr,hF];rw [hF] at tZ Oe JD jF;obtain ⟨e0,e1,e2,e3,e4,e5,e6,e7,e8⟩:=jF.o.c9;refine af7 (by simp [results,results121,go_sem,e0,e1,e2,e3,e4,e5,e6,e7,e8]<;>rfl) ?_
  exact ⟨P,_,_,_,_,_,_,_,base,rfl,HP.o.sl,bF.o,Nat.le_of_lt aC.o,tZ.o,q,by omega,Oe.o,JD.o⟩

section
variable {W V:World} {base hi hi':Nat} {um ui ue uc:Value} {k:Kx.Kernel}
theorem MP.bl (h:MP W base hi um ui ue uc k) (hb:Below W.heap.size W V) (hh:hi<=W.heap.size):MP V base hi um ui ue uc k:=h.to hb.size (fun j _ b=>hb.block j (by omega))
theorem MP.sc (h:MP W base hi um ui ue uc k) {g:Nat} (hg:g<base) (i:Nat) (v:Value):MP (W.setCell ⟨g,i,none⟩ v) base hi um ui ue uc k:=
 h.to (by simp [World.setCell]) (fun j a _=>Below.heap_setCell W ⟨g,i,none⟩ v j (by intro e;have:j=g:=e;omega))
theorem OM.within {u:Value} {m:List (List Int)} (h:OM W base hi u m) (hs:W.heap.size<=V.heap.size) (hk:∀ j,base<=j->j<hi->V.heap[j]?=W.heap[j]?):OM V base hi u m:=by
 have one:∀ {α:Type} {f:α->List Value} {sz:Nat} {e:TypeId} {v:Value} {l:List α},OS f sz e W base v l->UB v hi->OS f sz e V base v l:=fun {α f sz e v l} ho hu=>by
  refine ⟨⟨ho.1.1,?_⟩,ho.2⟩;rcases ho.1.2 with hn | ⟨g,cap,cur,rfl,hbg,hg,r⟩
  ·exact .inl hn
  exact .inr ⟨g,cap,cur,rfl,hbg,by rw [hk g hbg (hu g rfl)];exact hg,r⟩
 obtain ⟨ss,hl,ho,hr,hs'⟩:=h;exact ⟨ss,hl,⟨one ho.1 ho.2,ho.2⟩,fun i a b=>⟨(one (hr i a b).1.os (hr i a b).2.1).oi,(hr i a b).2⟩,hs'⟩
theorem MP.wide (h:MP W base hi um ui ue uc k) (hh:hi<=hi'):MP W base hi' um ui ue uc k:=fun U a b=>h U a (fun j x y=>b j x (by omega))
end
theorem l32Copy_s (p:Kx.aH) (vm vi ve vc vs vl vp:Value) (w:World) (h:RP w vm vi ve vc vs vl vp p) (hok:Kx.bI p=true) :
  Calls prog 122 #[bU vm vi ve vc vs vl vp p.hand p.limit] w fun en w'=>∃ um ui ue uc us ul up,en=.returned (bU um ui ue uc us ul up p.hand p.limit)/\PO w' w.heap.size um ui ue uc us ul up p/\(∃ lo mid h2,MP w' lo mid um ui ue uc p.k/\w.heap.size<=lo/\lo<=mid/\mid<=h2/\h2<=w'.heap.size/\OM w' mid h2 us p.swap/\OI w' h2 ul p.low)/\Below w.heap.size w w':=by
 obtain ⟨hk,h16,h4,nS⟩:=fM hok;obtain ⟨hl1,hl2,hl3,hl4,hl5⟩:=nR hk;obtain ⟨_,am,cm,rfl,_,_⟩:=h.k.m.len;obtain ⟨ai,ci,rfl,_,_⟩:=RS.val h.k.i;obtain ⟨_,ae,ce,rfl,_,_⟩:=h.k.e.len;obtain ⟨ac,cq,rfl,_,_⟩:=RS.val h.k.c;obtain ⟨_,xs,ys,rfl,_,_⟩:=h.s.len;obtain ⟨xl,yl,rfl⟩:=h.l.val;obtain ⟨xp,yp,rfl,_,_⟩:=RS.val h.g;unfold bU;obtain ⟨w0,hw0⟩:∃ w0,w.alloc (.cells #[.slice am p.k.mem.length cm,.slice ai p.k.ag.length ci,.slice ae p.k.ah.length ce,.slice ac p.k.cache.length cq,.slice xs p.swap.length ys,.slice xl p.low.length yl,.slice xp p.pages.length yp,I_ p.hand,I_ p.limit] 32)=w0:=⟨_,rfl⟩;obtain ⟨w1,hw1⟩:∃ w1,w0.alloc (.cells #[.slice none 0 0,.slice none 0 0,.slice none 0 0,.slice none 0 0,.slice none 0 0,.slice none 0 0,.slice none 0 0,I_ 0,I_ 0] 32)=w1:=⟨_,rfl⟩;have B0:Below w.heap.size w w0:=hw0 ▸ dm
 have B1:Below w0.heap.size w0 w1:=hw1 ▸ dm;have bw:Below w.heap.size w w1:=B0.trans (B1.mono B0.size);have X1:=af (show BX w1 w.heap.size 32 _ from (hw0 ▸ BX.new w _ _:BX w0 _ _ _).below B1);have X2:=af (show BX w1 w0.heap.size 32 [.slice none 0 0,.slice none 0 0,.slice none 0 0,.slice none 0 0,.slice none 0 0,.slice none 0 0,.slice none 0 0,I_ 0,I_ 0] from (hw1 ▸ BX.new w0 _ _:BX w1 _ _ _));have s0:w.heap.size<w0.heap.size:=by rw [<-hw0];simp
 have s1:w0.heap.size<w1.heap.size:=by rw [<-hw1];simp
 have H:=af h;have Bw:=af bw;have HC:=af (vg p.k _ _ _ _ w1 (H.o.below bw).k hl1 hl2 hl3 hl4 hl5);have hxl:=af (show ([]:List Int).length+p.low.length<=1099511627776 by simp;omega);have hxp:=af (show ([]:List Kx.dV).length+p.pages.length<=1099511627776 by simp;omega);have Ai:=af h16;clear h hok hk h16 h4 nS hl1 hl2 hl3 hl4 hl5 B0 B1 bw;obtain ⟨z0,z1,z2,z3,z4,z5,z6,z7,z8⟩:=X1.o.c9;have f0:=X1.o.f9;have hlt1:=X1.o.lt;go_enter func122,ntmps122;go_wp2_with fail;refine HC.o.mono ?_;rintro en w2 ⟨_,_,_,_,rfl,ho,hb⟩;obtain ⟨⟨a0,Ar,Au,rfl⟩,⟨a1,Aw,Az,rfl⟩,⟨a2,AA,AB,rfl⟩,⟨a3,AL,AO,rfl⟩⟩:=ho.sl;have HQ:=af ho.MQ.r;have Hz12:=af hb.size;clear z0 z1 z2 z3 z4 z5 z6 z7 z8 f0 hlt1;replace X1:=af (X1.o.below hb);replace X2:=af (X2.o.below hb);obtain ⟨z0,z1,z2,z3,z4,z5,z6,z7,z8⟩:=X1.o.c9
 have f0:=X1.o.f9;have hlt1:=X1.o.lt;go_upto_region 2 with fail;obtain ⟨w3,hw3⟩:=XP (sets w2 w.heap.size 0 [.slice a0 Ar Au,.slice a1 Aw Az,.slice a2 AA AB,.slice a3 AL AO]);rw [afA w2,hw3];have sG:w0.heap.size≠w.heap.size:=by omega
 replace HQ:=af (show MP w3 w1.heap.size w2.heap.size _ _ _ _ p.k from hw3 ▸ HQ.o.to (by rw [jB];exact Nat.le_refl _) (fun j a _=>mG _ _ (by omega) _ _))
 have Hz23:=af (show w2.heap.size<=w3.heap.size by rw [<-hw3,jB];exact Nat.le_refl _);have k1:=KO.ac4 iZ hw3 X1.o (ho.mono (Nat.le_of_lt (Nat.lt_trans s0 s1)));have x1:=oK X1.o (.slice a0 Ar Au) (.slice a1 Aw Az) (.slice a2 AA AB) (.slice a3 AL AO);have x2:=BX.aeY sG hw3 X2.o;have b1:=adT (Nat.le_refl w.heap.size) hw3 (Bw.o.trans (hb.mono Bw.o.size));rw [hw3] at k1 x1 x2 b1;replace X1:=af x1;replace X2:=af x2;have HK:=af k1;replace Bw:=af b1;clear k1 x1 x2 b1 ho hb HC hw3 z0 z1 z2 z3 z4 z5 z6 z7 z8 f0 hlt1;obtain ⟨z0,z1,z2,z3,z4,z5,z6,z7,z8⟩:=X1.o.c9;have f0:=X1.o.f9
 have hlt1:=X1.o.lt;have HC:=af (yN p.swap _ w3 (H.o.below Bw.o).s (by have:=Ai.o;omega));go_wp2_with fail;refine HC.o.mono ?_;rintro en w4 ⟨us,rfl,ho,hb⟩;obtain ⟨_,aw,bs,rfl,_,_⟩:=ho.rm.len;clear z0 z1 z2 z3 z4 z5 z6 z7 z8 f0 hlt1;replace X1:=af (X1.o.below hb);replace X2:=af (X2.o.below hb);obtain ⟨z0,z1,z2,z3,z4,z5,z6,z7,z8⟩:=X1.o.c9;have f0:=X1.o.f9;have hlt1:=X1.o.lt;go_upto_region 3 with fail;have hc:=aK w4 w.heap.size 4 (.slice aw p.swap.length bs);have k1:=(HK.o.below hb).box X1.o iZ 4 (.slice aw p.swap.length bs);have o1:=(ho.mono Bw.o.size aW).dh hc X1.o (by decide) (by decide);have o2:=ho.dh hc X1.o (by decide) (by decide);have q2:=(HQ.o.bl hb Hz23.o).sc (g:=w.heap.size) (by omega) 4 (.slice aw p.swap.length bs);have z2':w3.heap.size<=w4.heap.size:=hb.size
 have x1:=X1.o.set 4 (.slice aw p.swap.length bs);have x2:=X2.o.other sG 4 (.slice aw p.swap.length bs);have b1:=(Bw.o.trans (hb.mono Bw.o.size)).setCell (p:=⟨w.heap.size,4,none⟩) aW (.slice aw p.swap.length bs);have z1:w4.heap.size=(w4.setCell ⟨w.heap.size,4,none⟩ (.slice aw p.swap.length bs)).heap.size:=by simp [World.setCell]
 rw [z1] at o1 o2 z2';obtain ⟨w5,hw5⟩:∃ V,w4.setCell ⟨w.heap.size,4,none⟩ (.slice aw p.swap.length bs)=V:=⟨_,rfl⟩;rw [hw5] at k1 o1 x1 x2 b1 o2 q2 z2' ⊢;replace HQ:=af q2;have HS2:=af o2;have Hz35:=af z2';clear q2 o2 z2';replace X1:=af x1;replace X2:=af x2;replace HK:=af k1;replace Bw:=af b1;have HS:=af o1;clear k1 o1 x1 x2 b1 ho hb HC hw5 hc z0 z1 z2 z3 z4 z5 z6 z7 z8 f0 hlt1;simp only [List.set_cons_zero,List.set_cons_succ] at X1;obtain ⟨z0,z1,z2,z3,z4,z5,z6,z7,z8⟩:=X1.o.c9;have f0:=X1.o.f9;have hlt1:=X1.o.lt;have B1:Below w5.heap.size w5 (w5.alloc (.cells #[] 3)):=dm;have hL1:=af ((H.o.below Bw.o).l.below B1);have hbz:=af Bw.o.size
 go_upto_region 4 with (at_builtin;refine nC rfl _ _ rfl w5.heap.size _ [] rfl (OI.d_ aW) _ p.low rfl hL1.o hxl.o (by simp) ?_;intro v6 w6 yI OT;rw [List.nil_append] at yI;obtain ⟨al,bl,rfl⟩:=yI.ri.val;have B6:Below w5.heap.size w5 w6:=Below.app B1 (OI.d_ aW) OT aW (by simp);have y5:=(B6.cell (p:=⟨w.heap.size,5,none⟩) X1.o.lt).trans z5;have yf:=(X1.o.below B6).frozen 5;have Ri:=af yI;have JW:=af B6;clear yI OT B6);have X6:=X1.o.below JW.o;have hc:=aK w6 w.heap.size 5 (.slice al p.low.length bl);have k1:=(HK.o.below JW.o).box X6 iZ 5 (.slice al p.low.length bl);have o1:=(HS.o.go JW.o).dh hc X6 (by decide) (by decide);have o2:=(HS2.o.below JW.o).dh hc X6 (by decide) (by decide);have l2:=Ri.o.os.dh hc X6 (by decide)
 have q2:=(HQ.o.bl JW.o (Nat.le_trans Hz23.o Hz35.o)).sc (g:=w.heap.size) (by omega) 5 (.slice al p.low.length bl);have z5':w5.heap.size<=w6.heap.size:=JW.o.size;have l1:=(Ri.o.os.mono hbz.o).dh hc X6 (by decide);have x1:=X6.set 5 (.slice al p.low.length bl);have x2:=(X2.o.below JW.o).other sG 5 (.slice al p.low.length bl);have b1:=(Bw.o.trans (JW.o.mono Bw.o.size)).setCell (p:=⟨w.heap.size,5,none⟩) aW (.slice al p.low.length bl);have z1:w6.heap.size=(w6.setCell ⟨w.heap.size,5,none⟩ (.slice al p.low.length bl)).heap.size:=by simp [World.setCell]
 rw [z1] at o1 z5';obtain ⟨w7,hw7⟩:∃ V,w6.setCell ⟨w.heap.size,5,none⟩ (.slice al p.low.length bl)=V:=⟨_,rfl⟩;rw [hw7] at k1 o1 l1 x1 x2 b1 o2 q2 l2 z5' ⊢;replace HQ:=af q2;replace HS2:=af o2;have HL2:=af l2;have Hz57:=af z5';clear q2 o2 l2 z5';replace X1:=af x1;replace X2:=af x2;replace HK:=af k1;replace Bw:=af b1;replace HS:=af o1;have HL:=af l1;clear k1 o1 l1 x1 x2 b1 hw7 hc B1 hL1 hbz X6 JW Ri y5 yf z0 z1 z2 z3 z4 z5 z6 z7 z8 f0 hlt1;simp only [List.set_cons_zero,List.set_cons_succ] at X1;obtain ⟨z0,z1,z2,z3,z4,z5,z6,z7,z8⟩:=X1.o.c9;have f0:=X1.o.f9;have hlt1:=X1.o.lt;have B1:Below w7.heap.size w7 (w7.alloc (.cells #[] 42)):=dm;have hL1:=af (RS.below (H.o.below Bw.o).g B1);have hbz:=af Bw.o.size
 go_upto_region 5 with (at_builtin;refine aV QV rfl _ _ rfl w7.heap.size _ [] rfl (OS.d_ aW) _ p.pages rfl hL1.o hxp.o (by simp) ?_;intro v8 w8 xE J5 _;rw [List.nil_append] at xE;obtain ⟨ap,bp,rfl,_,_⟩:=RS.val xE.rs;have B8:Below w7.heap.size w7 w8:=Below.dN B1 (OS.d_ (f:=jr) (sz:=3) aW) J5 aW (by simp);have y6:=(B8.cell (p:=⟨w.heap.size,6,none⟩) X1.o.lt).trans z6;have yf:=(X1.o.below B8).frozen 6;have Ot:=af xE;have QW:=af B8;clear xE J5 B8);have X8:=X1.o.below QW.o;have hc:=aK w8 w.heap.size 6 (.slice ap p.pages.length bp);have k1:=(HK.o.below QW.o).box X8 iZ 6 (.slice ap p.pages.length bp);have o1:=(HS.o.go QW.o).dh hc X8 (by decide) (by decide);have o2:=(HS2.o.below QW.o).dh hc X8 (by decide) (by decide);have l2:=(HL2.o.below QW.o).dh hc X8 (by decide)
 have q2:=(HQ.o.bl QW.o (Nat.le_trans Hz23.o (Nat.le_trans Hz35.o Hz57.o))).sc (g:=w.heap.size) (by omega) 6 (.slice ap p.pages.length bp);have z7':w5.heap.size<=w8.heap.size:=Nat.le_trans Hz57.o QW.o.size;have l1:=(HL.o.below QW.o).dh hc X8 (by decide);have g1:=(Ot.o.mono hbz.o).dh hc X8 (by decide);have x1:=X8.set 6 (.slice ap p.pages.length bp);have x2:=(X2.o.below QW.o).other sG 6 (.slice ap p.pages.length bp);have b1:=(Bw.o.trans (QW.o.mono Bw.o.size)).setCell (p:=⟨w.heap.size,6,none⟩) aW (.slice ap p.pages.length bp);have z1:w8.heap.size=(w8.setCell ⟨w.heap.size,6,none⟩ (.slice ap p.pages.length bp)).heap.size:=by simp [World.setCell]
 rw [z1] at o1 z7';obtain ⟨w9,JX⟩:∃ V,w8.setCell ⟨w.heap.size,6,none⟩ (.slice ap p.pages.length bp)=V:=⟨_,rfl⟩;rw [JX] at k1 o1 l1 g1 x1 x2 b1 o2 q2 l2 z7' ⊢;replace HQ:=af q2;replace HS2:=af o2;replace HL2:=af l2;have Hz59:=af z7';clear q2 o2 l2 z7';have HP:=af (show PO w9 w.heap.size _ _ _ _ _ _ _ p from ⟨k1,o1,l1.oi,g1⟩);replace X1:=af x1;replace X2:=af x2;replace Bw:=af b1;clear k1 o1 l1 g1 x1 x2 b1 JX hc B1 hL1 hbz X8 QW Ot y6 yf HK HS HL z0 z1 z2 z3 z4 z5 z6 z7 z8 f0 hlt1;simp only [List.set_cons_zero,List.set_cons_succ] at X1;obtain ⟨z0,z1,z2,z3,z4,z5,z6,z7,z8⟩:=X1.o.c9;have f0:=X2.o.f9;have hlt1:=X1.o.lt;have r0:=X2.o.c9;go_wp2_with fail
 obtain ⟨F,hF⟩:=XP (sets w9 w0.heap.size 0 [.slice a0 Ar Au,.slice a1 Aw Az,.slice a2 AA AB,.slice a3 AL AO,.slice aw p.swap.length bs,.slice al p.low.length bl,.slice ap p.pages.length bp,I_ p.hand,I_ p.limit]);rw [afC w9,hF]
 have x2:=X2.o.ac4 hF;have p1:=HP.o.ac4 X2.o (.inl rfl) hF;have b1:=adT (show w.heap.size<=w0.heap.size by omega) hF Bw.o;have q2:=HQ.o.to (V:=F) (by rw [<-hF,jB];exact Nat.le_refl _) (fun j a _=>hF ▸ mG _ _ (by omega) _ _)
 have o2:=OM.ac4 (by decide) (by decide) hF X2.o HS2.o;have l2:=OS.ac4 (by decide) hF X2.o HL2.o;have z9:w5.heap.size<=F.heap.size:=by rw [<-hF,jB];exact Hz59.o
 rw [hF] at o2 l2;rw [hF] at x2 p1 b1;obtain ⟨e0,e1,e2,e3,e4,e5,e6,e7,e8⟩:=x2.c9;refine af7 (by simp [results,results122,go_sem,e0,e1,e2,e3,e4,e5,e6,e7,e8]<;>rfl) ?_;exact ⟨_,_,_,_,_,_,_,rfl,p1,⟨_,_,_,q2.wide Hz23.o,by omega,Nat.le_trans Hz12.o Hz23.o,Hz35.o,z9,o2,l2.oi⟩,b1⟩
theorem flat_one {α:Type} {f:α->List Value} {sz:Nat} (hf:∀ x,(f x).length=sz) (j:Nat) (u:Value) (hj:j<sz):∀ (l:List α) (k:Nat) (x:α) (hk:k<l.length),f x=(f l[k]).set j u->flat f (l.set k x)=(flat f l).set (k*sz+j) u
 | [],_,_,h,_=>by simp at h
 | y :: l,0,x,_,h=>by
  unfold flat;simp only [List.set_cons_zero,List.flatMap_cons,List.getElem_cons_zero] at h ⊢;rw [h,Nat.zero_mul,Nat.zero_add,List.set_append_left _ _ (by rw [hf];exact hj)]
 | y :: l,k+1,x,hk,h=>by
  have:=flat_one hf j u hj l k x (by simpa using hk) (by simpa using h)
  unfold flat at this ⊢;simp only [List.set_cons_succ,List.flatMap_cons];rw [this,List.set_append_right _ _ (by rw [hf,Nat.succ_mul];omega),hf];congr 2;rw [Nat.succ_mul];omega
theorem OS.setOne {α:Type} {f:α->List Value} {sz:Nat} [E:IV f sz] {e:TypeId} {w:World} {base g n cap:Nat} {l:List α} (h:OS f sz e w base (.slice (some ⟨g,0,none⟩) n cap) l) (hn:l.length=n) (k:Nat) (hk:k<l.length) (j:Nat) (hj:j<sz) (u:Value) (x:α) (hx:f x=(f l[k]).set j u) :
  OS f sz e (w.setCell ⟨g,k*sz+j,none⟩ u) base (.slice (some ⟨g,0,none⟩) n cap) (l.set k x):=by
 subst hn;have h2:=(h.1.stored (k*sz+j) u).1;refine ⟨?_,by simpa using h.2⟩;rw [flat_one E.len j u hj l k x hk hx,List.length_set];exact h2
structure LC3 (w W:World) (rb q g2 g3 base lo mid h2:Nat) (p:Kx.aH) (u0 u1 u2 u3 u4 u5 u6:Value):Prop where
 r:RD W rb q
 g:w.grownBy W (some rb)
 x2:BX W g2 32 [.slice none 0 0,.slice none 0 0,.slice none 0 0,.slice none 0 0,.slice none 0 0,.slice none 0 0,.slice none 0 0,I_ 0,I_ 0]
 x3:BX W g3 32 [u0,u1,u2,u3,u4,u5,u6,I_ p.hand,I_ p.limit]
 po:PO W base u0 u1 u2 u3 u4 u5 u6 p
 f:MP W lo mid u0 u1 u2 u3 p.k/\base<=lo/\lo<=mid/\mid<=h2/\h2<=W.heap.size/\OM W mid h2 u4 p.swap/\OI W h2 u5 p.low
 ok:Kx.bI p=true
 h:rb<w.heap.size/\w.heap.size<=g2/\g2<g3/\g3<base
structure LT (w W:World) (rb q g2 g3:Nat) (p:Kx.aH) (u0 u1 u2 u3 u4 u5 u6:Value):Prop where
 r:RD W rb q
 g:w.grownBy W (some rb)
 x2:BX W g2 32 [.slice none 0 0,.slice none 0 0,.slice none 0 0,.slice none 0 0,.slice none 0 0,.slice none 0 0,.slice none 0 0,I_ 0,I_ 0]
 x3:BX W g3 32 [u0,u1,u2,u3,u4,u5,u6,I_ p.hand,I_ p.limit]
 f:∃ base hi,g2<base/\(g3<base\/hi<=g3)/\hi<=W.heap.size/\Qi W base hi u0 u1 u2 u3 u4 u5 u6 p
 s:iQ p.k
 sl:Sl u0/\Sl u1/\Sl u2/\Sl u3/\Sl u4/\Sl u5/\Sl u6
 h:rb<w.heap.size/\w.heap.size<=g2/\g2<g3
section
variable {w W V:World} {rb q q' g2 g3 base lo mid h2 b:Nat} {p p':Kx.aH} {u0 u1 u2 u3 u4 u5 u6 z0 z1 z2 z3:Value}
theorem LR.lt (h:LR w W rb q g2 g3 p u0 u1 u2 u3 u4 u5 u6):LT w W rb q g2 g3 p u0 u1 u2 u3 u4 u5 u6:=⟨h.r,h.g,h.x2,h.x3,h.f,jX (fM h.ok).1,h.sl,h.h⟩
theorem LC3.up (h:LC3 w W rb q g2 g3 base lo mid h2 p u0 u1 u2 u3 u4 u5 u6) (hr:RD V rb q') (hg:w.grownBy V (some rb)) (hu:∀ j,g2<=j->j<W.heap.size->V.heap[j]?=W.heap[j]?) (hs:W.heap.size<=V.heap.size):LC3 w V rb q' g2 g3 base lo mid h2 p u0 u1 u2 u3 u4 u5 u6:=by
 obtain ⟨f1,f2,f3,f4,f5,f6,f7⟩:=h.f;have hh:=h.h;have hu':∀ b,g2<=b->Up b W V:=fun b hb=>⟨hs,fun j h1 h2=>hu j (by omega) h2⟩
 exact ⟨hr,hg,(hu g2 aW h.x2.lt).trans h.x2,(hu g3 (by omega) h.x3.lt).trans h.x3,h.po.up (hu' _ (by omega)),⟨f1.to hs (fun j a b=>hu j (by omega) (by omega)),f2,f3,f4,Nat.le_trans f5 hs,f6.within hs (fun j a b=>hu j (by omega) (by omega)),(f7.os.up (hu' _ (by omega))).oi⟩,h.ok,hh⟩
theorem LC3.pick (h:LC3 w W rb q g2 g3 base lo mid h2 p u0 u1 u2 u3 u4 u5 u6) (hr:RD V rb q') (hg:W.grownBy V (some rb)):LC3 w V rb q' g2 g3 base lo mid h2 p u0 u1 u2 u3 u4 u5 u6:=
 h.up hr (grownBy_trans h.g hg) (fun j a b=>hg.block j b (by have:=h.h;simp;omega)) hg.size
theorem LC3.below (h:LC3 w W rb q g2 g3 base lo mid h2 p u0 u1 u2 u3 u4 u5 u6) (hb:Below W.heap.size W V):LC3 w V rb q g2 g3 base lo mid h2 p u0 u1 u2 u3 u4 u5 u6:=
 h.pick (h.r.keep hb) (grown_below hb ⟨hb.os,hb.tape,hb.output⟩)
theorem LC3.len (h:LC3 w W rb q g2 g3 base lo mid h2 p u0 u1 u2 u3 u4 u5 u6):p.swap.length=16/\p.low.length=4/\p.pages.length=16:=(fM h.ok).2
theorem LC3.turn (h:LC3 w W rb q g2 g3 base lo mid h2 p u0 u1 u2 u3 u4 u5 u6) (hb:base<=b) (i:Nat) (v:Value) (hp:Qi (W.setCell ⟨b,i,none⟩ v) base (W.setCell ⟨b,i,none⟩ v).heap.size u0 u1 u2 u3 u4 u5 u6 p') (hk:iQ p'.k) (he:p'.hand=p.hand/\p'.limit=p.limit):LT w (W.setCell ⟨b,i,none⟩ v) rb q g2 g3 p' u0 u1 u2 u3 u4 u5 u6:=by
 have hh:=h.h;refine ⟨h.r.grown (aK W b i v) (fun k hk=>by cases hk;omega),ed h.g (aK W b i v) (fun k hk=>by cases hk;omega),h.x2.other (by omega) i v,?_,⟨base,_,by omega,.inl hh.2.2.2,Nat.le_refl _,hp⟩,hk,h.po.sl,⟨hh.1,hh.2.1,hh.2.2.1⟩⟩;rw [he.1,he.2];exact h.x3.other (by omega) i v
theorem PO.lt (h:PO W base u0 u1 u2 u3 u4 u5 u6 p):Qi W base W.heap.size u0 u1 u2 u3 u4 u5 u6 p:=h.UG.r
end
theorem PO.page {w:World} {base g cap:Nat} {um ui ue uc us ul:Value} {p:Kx.aH} {N:Nat} (h:PO w base um ui ue uc us ul (.slice (some ⟨g,0,none⟩) N cap) p) (hN:p.pages.length=N) (f:Nat) (hf:f<p.pages.length) (j:Nat) (hj:j<3) (u:Value) (x:Kx.dV) (hx:jr x=(jr p.pages[f]).set j u) :
  PO (w.setCell ⟨g,f*3+j,none⟩ u) base um ui ue uc us ul (.slice (some ⟨g,0,none⟩) N cap) { p with pages:=p.pages.set f x }/\base<=g:=by
 obtain ⟨cs,hk⟩:=h.g.kind rfl;have hg:=aK w g (f*3+j) u;have hz:(w.setCell ⟨g,f*3+j,none⟩ u).heap.size=w.heap.size:=by simp [World.setCell]
 obtain ⟨⟨k1,k2,k3,k4⟩,s,l,gg⟩:=h;refine ⟨⟨⟨?_,k2.dh hg hk (by decide),?_,k4.dh hg hk (by decide)⟩,?_,(l.os.dh hg hk (by decide)).oi,gg.setOne hN f hf j hj u x hx⟩,(gg.lt g rfl).1⟩
 ·rw [hz];exact k1.dh hg hk (by decide) (by decide)
 ·rw [hz];exact k3.dh hg hk (by decide) (by decide)
 rw [hz];exact s.dh hg hk (by decide) (by decide)
def DrawnB (rb p n:Nat) (w:World) (en:Ending) (w':World):Prop:=∃ (P:Kx.aH) (um ui ue uc us ul up:Value) (base:Nat),en=.returned (bU um ui ue uc us ul up P.hand P.limit)/\(Sl um/\Sl ui/\Sl ue/\Sl uc/\Sl us/\Sl ul/\Sl up)/\iQ P.k/\w.heap.size<=base/\IE w' base um ui ue uc us ul up P/\nP rb p n w w'
section
variable {w W V:World} {rb q q' g2 g3 base lo mid h2 b n0 c0:Nat} {p p':Kx.aH} {u0 u1 u2 u3 u4 u5 u6 z0 z1 z2 z3 z4 z5 z6:Value}
theorem LC3.start (h:LR w W rb q g2 g3 p z0 z1 z2 z3 z4 z5 z6) (hb:Below W.heap.size W V) (hpo:PO V W.heap.size u0 u1 u2 u3 u4 u5 u6 p) (hf:MP V lo mid u0 u1 u2 u3 p.k/\W.heap.size<=lo/\lo<=mid/\mid<=h2/\h2<=V.heap.size/\OM V mid h2 u4 p.swap/\OI V h2 u5 p.low) :
  LC3 w (sets V g3 0 [u0,u1,u2,u3,u4,u5,u6,I_ p.hand,I_ p.limit]) rb q g2 g3 W.heap.size lo mid h2 p u0 u1 u2 u3 u4 u5 u6:=by
 have h':=h.below hb;have hh:=h.h;have hl:=h.x3.lt;obtain ⟨f1,f2,f3,f4,f5,f6,f7⟩:=hf;obtain ⟨r1,r2⟩:=mi (w:=w) (g:=g3) (by omega) (by omega) [u0,u1,u2,u3,u4,u5,u6,I_ p.hand,I_ p.limit] 0 h'.r h'.g;exact ⟨r1,r2,BX.iq (by omega) _ 0 h'.x2,h'.x3.sets _ rfl,hpo.sets h'.x3 (.inl rfl) 0 _,⟨f1.to (by rw [jB];exact Nat.le_refl _) (fun j a _=>mG _ _ (by omega) _ _),f2,f3,f4,by rw [jB];exact f5,OM.sets (by decide) (by decide) _ 0 h'.x3 f6,(OS.sets (by decide) _ 0 h'.x3 f7.os).oi⟩,h.ok,by omega⟩
theorem LC3.PI (h:LC3 w W rb q g2 g3 base lo mid h2 p u0 u1 u2 u3 u4 u5 u6):iQ p.k:=jX (fM h.ok).1
theorem LC3.row (h:LC3 w W rb q g2 g3 base lo mid h2 p u0 u1 u2 u3 u4 u5 u6) {W1:World} (hb:Below W.heap.size W W1) {g:Nat} (n:Nat) {cs:Array Value} (hk:W1.heap[g]?=some (.cells cs 29 (0,0))) (hg:mid<=g) (v:Value) {l:List (List Int)} {hi:Nat} (hO:OM (W1.setCell ⟨g,n,none⟩ v) mid hi u4 l):LT w (W1.setCell ⟨g,n,none⟩ v) rb q g2 g3 { p with swap:=l } u0 u1 u2 u3 u4 u5 u6:=by
 have h':=h.below hb;obtain ⟨f1,f2,f3,f4,f5,f6,f7⟩:=h'.f;have hh:=h.h;have hgr:=aK W1 g n v;have fk:MP (W1.setCell ⟨g,n,none⟩ v) lo mid u0 u1 u2 u3 p.k:=f1.to hgr.size (fun j a b=>Below.heap_setCell W1 ⟨g,n,none⟩ v j (by intro e;have:j=g:=e;omega))
 refine h'.turn (by omega) n v (fun V hs hv=>?_) h.PI ⟨rfl,rfl⟩;have hu:Up base (W1.setCell ⟨g,n,none⟩ v) V:=⟨hs,fun j a b=>hv j a b⟩
 have hu2:Up mid (W1.setCell ⟨g,n,none⟩ v) V:=⟨hs,fun j a b=>hv j (by omega) b⟩
 have hsz:mid<=(W1.setCell ⟨g,n,none⟩ v).heap.size:=by simp [World.setCell];omega
 exact ⟨fk V hs (fun j a b=>hv j (by omega) (by omega)),(hO.up hu2).rm,((h'.po.l.os.dh hgr hk (by decide)).up hu).oi.ri,((h'.po.g.dh hgr hk (by decide)).up hu).rs⟩
theorem LC3.low (h:LC3 w W rb q g2 g3 base lo mid h2 p u0 u1 u2 u3 u4 (.slice (some ⟨b,0,none⟩) n0 c0) u6) (hn:p.low.length=n0) (i:Nat) (x:Int):LT w (W.setCell ⟨b,i,none⟩ (I_ x)) rb q g2 g3 { p with low:=p.low.set i x } u0 u1 u2 u3 u4 (.slice (some ⟨b,0,none⟩) n0 c0) u6:=by
 obtain ⟨f1,f2,f3,f4,f5,f6,f7⟩:=h.f;have hh:=h.h;have hb:h2<=b:=(f7.lt b rfl).1;obtain ⟨cs,hk⟩:=f7.os.kind (g:=b) rfl;have hgr:=aK W b i (I_ x);have hne:∀ j,j<h2->(W.setCell ⟨b,i,none⟩ (I_ x)).heap[j]?=W.heap[j]?:=fun j hj=>Below.heap_setCell W ⟨b,i,none⟩ _ j (by intro e;have:j=b:=e;omega)
 have fk:MP (W.setCell ⟨b,i,none⟩ (I_ x)) lo mid u0 u1 u2 u3 p.k:=f1.to hgr.size (fun j _ c=>hne j (by omega))
 have fm:=f6.within hgr.size (fun j _ c=>hne j c);have fl:=(h.po.l.stored hn i x).1;refine h.turn (by omega) i _ (fun V hs hv=>?_) h.PI ⟨rfl,rfl⟩;have hu:Up base (W.setCell ⟨b,i,none⟩ (I_ x)) V:=⟨hs,fun j a c=>hv j a c⟩
 have hsz:(W.setCell ⟨b,i,none⟩ (I_ x)).heap.size=W.heap.size:=by simp [World.setCell]
 exact ⟨fk V hs (fun j a c=>hv j (by omega) (by omega)),(fm.within hs (fun j a c=>hv j (by omega) (by omega))).rm,(fl.os.up hu).oi.ri,((h.po.g.dh hgr hk (by decide)).up hu).rs⟩
theorem LC3.hand (h:LC3 w W rb q g2 g3 base lo mid h2 p u0 u1 u2 u3 u4 u5 u6) (x:Int):LT w (W.setCell ⟨g3,7,none⟩ (I_ x)) rb q g2 g3 { p with hand:=x } u0 u1 u2 u3 u4 u5 u6:=by
 have hh:=h.h;have hp:=h.po.sets h.x3 (.inl rfl) 7 [I_ x];exact ⟨h.r.grown (aK W g3 7 _) (fun k hk=>by cases hk;omega),ed h.g (aK W g3 7 _) (fun k hk=>by cases hk;omega),h.x2.other (by omega) 7 _,h.x3.set 7 _,⟨base,_,by omega,.inl hh.2.2.2,Nat.le_refl _,fun V a b=>have r:=hp.UG.r V a b;⟨r.k,r.s,r.l,r.g⟩⟩,h.PI,h.po.sl,⟨hh.1,hh.2.1,hh.2.2.1⟩⟩
theorem LC3.limit (h:LC3 w W rb q g2 g3 base lo mid h2 p u0 u1 u2 u3 u4 u5 u6) (x:Int):LT w (W.setCell ⟨g3,8,none⟩ (I_ x)) rb q g2 g3 { p with limit:=x } u0 u1 u2 u3 u4 u5 u6:=by
 have hh:=h.h;have hp:=h.po.sets h.x3 (.inl rfl) 8 [I_ x];exact ⟨h.r.grown (aK W g3 8 _) (fun k hk=>by cases hk;omega),ed h.g (aK W g3 8 _) (fun k hk=>by cases hk;omega),h.x2.other (by omega) 8 _,h.x3.set 8 _,⟨base,_,by omega,.inl hh.2.2.2,Nat.le_refl _,fun V a b=>have r:=hp.UG.r V a b;⟨r.k,r.s,r.l,r.g⟩⟩,h.PI,h.po.sl,⟨hh.1,hh.2.1,hh.2.2.1⟩⟩
theorem LC3.WH (h:LC3 w W rb q g2 g3 base lo mid h2 p u0 u1 u2 u3 u4 u5 u6) {k':Kx.Kernel} {b':Nat} (hb':base<=b') (hk:Fa W b' z0 z1 z2 z3 k') (hs:iQ k') (hsl:Sl z0/\Sl z1/\Sl z2/\Sl z3):LT w (sets W g3 0 [z0,z1,z2,z3]) rb q g2 g3 { p with k:=k' } z0 z1 z2 z3 u4 u5 u6:=by
 have hh:=h.h;have hp:=h.po.sets h.x3 (.inl rfl) 0 [z0,z1,z2,z3];obtain ⟨r1,r2⟩:=mi (w:=w) (g:=g3) (by omega) (by omega) [z0,z1,z2,z3] 0 h.r h.g;have sl:=h.po.sl;have hx:=oK h.x3 z0 z1 z2 z3;exact ⟨r1,r2,BX.iq (by omega) _ 0 h.x2,hx,⟨base,_,by omega,.inl hh.2.2.2,Nat.le_refl _,fun V a b=>have r:=hp.UG.r V a b;⟨hk V ⟨by rw [jB] at a;exact a,fun j c d=>(b j (by omega) (by rw [jB];exact d)).trans (mG _ _ (by omega) _ _)⟩,r.s,r.l,r.g⟩⟩,hs,⟨hsl.1,hsl.2.1,hsl.2.2.1,hsl.2.2.2,sl.2.2.2.2⟩,⟨hh.1,hh.2.1,hh.2.2.1⟩⟩
theorem LT.fin (h:LT w W rb q g2 g3 p u0 u1 u2 u3 u4 u5 u6):∃ base,g2<base/\IE (sets W g2 0 [u0,u1,u2,u3,u4,u5,u6,I_ p.hand,I_ p.limit]) base u0 u1 u2 u3 u4 u5 u6 p/\RD (sets W g2 0 [u0,u1,u2,u3,u4,u5,u6,I_ p.hand,I_ p.limit]) rb q/\w.grownBy (sets W g2 0 [u0,u1,u2,u3,u4,u5,u6,I_ p.hand,I_ p.limit]) (some rb)/\BX (sets W g2 0 [u0,u1,u2,u3,u4,u5,u6,I_ p.hand,I_ p.limit]) g2 32 [u0,u1,u2,u3,u4,u5,u6,I_ p.hand,I_ p.limit]:=by
 obtain ⟨base,hi,h2,h3,h4,hk⟩:=h.f;have hh:=h.h;obtain ⟨a,b⟩:=mi (w:=w) (g:=g2) (by omega) (by omega) [u0,u1,u2,u3,u4,u5,u6,I_ p.hand,I_ p.limit] 0 h.r h.g;exact ⟨base,h2,(hk.to (by rw [jB];exact Nat.le_refl _) (fun j a _=>mG _ _ (by omega) _ _)).UG (by rw [jB];exact h4),a,b,h.x2.sets _ rfl⟩
end
theorem LR.start' {w W V:World} {rb q g2 g3 lo mid h2:Nat} {p:Kx.aH} {u0 u1 u2 u3 u4 u5 u6 z0 z1 z2 z3 z4 z5 z6:Value} (h:LR w W rb q g2 g3 p z0 z1 z2 z3 z4 z5 z6) (hb:Below W.heap.size W V) (hpo:PO V W.heap.size u0 u1 u2 u3 u4 u5 u6 p) (hf:MP V lo mid u0 u1 u2 u3 p.k/\W.heap.size<=lo/\lo<=mid/\mid<=h2/\h2<=V.heap.size/\OM V mid h2 u4 p.swap/\OI V h2 u5 p.low) :
  LC3 w (sets V g3 0 [u0,u1,u2,u3,u4,u5,u6,I_ p.hand,I_ p.limit]) rb q g2 g3 W.heap.size lo mid h2 p u0 u1 u2 u3 u4 u5 u6:=LC3.start h hb hpo hf
theorem l92Bad_c (rb p:Nat) (w:World) (h:RD w rb p) (hp:p<=490000) :
  Calls prog 44 #[.pointer (some ⟨rb,0,none⟩)] w (DrawnB rb p 2500 w):=by
 have hrb:=h.lt;obtain ⟨w1,hw1⟩:∃ w1,w.alloc (.cells #[.slice none 0 0,.slice none 0 0,.slice none 0 0,.slice none 0 0,.slice none 0 0,.slice none 0 0,.slice none 0 0,I_ 0,I_ 0] 32)=w1:=⟨_,rfl⟩;have B1:Below w.heap.size w w1:=hw1 ▸ dm;have s1:w.heap.size<w1.heap.size:=by rw [<-hw1];simp
 have Hr:=af (h.keep B1);have Hg:=af (grown_below (rb:=rb) B1 ⟨B1.os,B1.tape,B1.output⟩);have X2:=af (show BX w1 w.heap.size 32 [.slice none 0 0,.slice none 0 0,.slice none 0 0,.slice none 0 0,.slice none 0 0,.slice none 0 0,.slice none 0 0,I_ 0,I_ 0] from (hw1 ▸ BX.new w _ _:BX w1 _ _ _));clear B1 h;go_enter func44,ntmps44;go_wp2_with fail;clear hw1;refine (l92Pager_c rb p w1 Hr.o (by omega)).mono ?_;rintro en w2 ⟨P,_,_,_,_,_,_,_,base,rfl,⟨⟨b0,xN,wL,rfl⟩,⟨b1,zH,xC,rfl⟩,⟨b2,wM,qB,rfl⟩,⟨b3,zI,zJ,rfl⟩,⟨b4,UT,UW,rfl⟩,⟨b5,UX,UY,rfl⟩,⟨b6,UZ,U8,rfl⟩⟩,hok,hbase,Nw,q,hq,hr,hg⟩;unfold bU;have hz2:=hg.size;obtain ⟨w3,hw3⟩:∃ V,w2.alloc (.cells #[.slice b0 xN wL,.slice b1 zH xC,.slice b2 wM qB,.slice b3 zI zJ,.slice b4 UT UW,.slice b5 UX UY,.slice b6 UZ U8,I_ P.hand,I_ P.limit] 32)=V:=⟨_,rfl⟩
 have B3:Below w2.heap.size w2 w3:=hw3 ▸ dm;have H:=af (show LR w w3 rb q w.heap.size w2.heap.size P (.slice b0 xN wL) (.slice b1 zH xC) (.slice b2 wM qB) (.slice b3 zI zJ) (.slice b4 UT UW) (.slice b5 UX UY) (.slice b6 UZ U8) from
  ⟨hr.keep B3,grownBy_trans (grownBy_trans Hg.o hg) (grown_below (rb:=rb) B3 ⟨B3.os,B3.tape,B3.output⟩),BX.below (show BX w2 _ _ _ from (hg.block w.heap.size X2.o.lt (by simp;omega)).trans X2.o) B3,hw3 ▸ BX.new w2 _ _,
   ⟨base,w2.heap.size,by omega,.inr aW,B3.size,Nw.r.to B3.size (fun j _ b=>B3.block j b)⟩,hok,⟨⟨_,_,_,rfl⟩,⟨_,_,_,rfl⟩,⟨_,_,_,rfl⟩,⟨_,_,_,rfl⟩,⟨_,_,_,rfl⟩,⟨_,_,_,rfl⟩,⟨_,_,_,rfl⟩⟩,by omega⟩)
 obtain ⟨g3,hg3⟩:∃ g,w2.heap.size=g:=⟨_,rfl⟩;rw [hg3] at H;clear Nw hr hg B3 Hr Hg X2 hok hbase s1 hz2;go_wp2_with fail
 try rw [hw3]
 try rw [hg3]
 refine (aN rb _ 14 _ H.o.r (by omega) (by omega) (by omega)).mono ?_;rintro en w5 ⟨x,rfl,x0,x1,hr,hg⟩;replace H:=af (H.o.pick hr hg);clear hr hg hw3 hg3
 by_cases hx:x=0
 ·subst hx;have HC:=af (l32Copy_s P _ _ _ _ _ _ _ w5 H.o.rp H.o.ok);unfold bU at HC;have c0:=H.o.x3.c9;go_wp2_with fail;clear c0;refine HC.o.mono ?_;rintro en w6 ⟨_,_,_,_,_,_,_,rfl,hpo,⟨lo,mid,h2,hf⟩,hb⟩;obtain ⟨⟨a0,Ar,Au,rfl⟩,⟨a1,Aw,Az,rfl⟩,⟨a2,AA,AB,rfl⟩,⟨a3,AL,AO,rfl⟩,⟨a4,an4,am4,rfl⟩,⟨a5,an5,am5,rfl⟩,⟨a6,an6,am6,rfl⟩⟩:=hpo.sl;have HO:=af (H.o.start' hb hpo hf);have X3:=(H.o.below hb).x3;have c0:=X3.c9;obtain ⟨f0,f1,f2,f3,f4,f5,f6,f7,f8⟩:=X3.f9;obtain ⟨w7,hw7⟩:=XP (sets w6 g3 0 [.slice a0 Ar Au,.slice a1 Aw Az,.slice a2 AA AB,.slice a3 AL AO,.slice a4 an4 am4,.slice a5 an5 am5,.slice a6 an6 am6,I_ P.hand,I_ P.limit]);rw [hw7] at HO;have Hz57:=af (show w5.heap.size<=w7.heap.size by rw [<-hw7,jB];exact hb.size);clear hpo hf hb X3 H HC
  go_upto_region 5 with fail;rw [afC w6,hw7];clear hw7 c0 f0 f1 f2 f3 f4 f5 f6 f7 f8;go_wp2_with fail;refine (aN rb _ 16 _ HO.o.r (by omega) (by omega) (by omega)).mono ?_;rintro en wa ⟨n,rfl,hn0,hn1,hr,hg⟩;replace HO:=af (HO.o.pick hr hg);have Hz5a:=af (Nat.le_trans Hz57.o hg.size);obtain ⟨n,rfl⟩:=Int.eq_ofNat_of_zero_le hn0;clear hr hg;go_wp2_with fail;refine (aN rb _ 7 _ HO.o.r (by omega) (by omega) (by omega)).mono ?_;rintro en w8 ⟨y,rfl,ZP,ZQ,hr,hg⟩
  replace HO:=af (HO.o.pick hr hg);have Hz58:=af (Nat.le_trans Hz5a.o hg.size);clear hr hg Hz57 Hz5a;go_upto_block 0 with fail;go_cut [4] from 5 (fun _ wx=>∃ (q:Nat) (P:Kx.aH) (v0 v1 v2 v3 v4 v5 v6:Value),q<=p+2410/\TI (LT w wx rb q w.heap.size g3 P v0 v1 v2 v3 v4 v5 v6))
  case first =>
   by_cases k0_:y=0
   ·subst k0_;obtain ⟨d,hd⟩:∃ d,w8.drew=d:=⟨_,rfl⟩;have Bd:Below w8.heap.size w8 d:=hd ▸ Below.bz fZ;have Hd:=af hd;replace HO:=af (HO.o.below Bd);clear hd Bd;obtain ⟨gp,cp,ep,_,_⟩:=HO.o.po.g.shape (by rw [HO.o.len.2.2];decide);rw [HO.o.len.2.2] at ep;obtain ⟨rfl,rfl,rfl⟩:=Za ep;clear ep;have hn16:n<16:=by omega
    go_wp2_with fail;refine uu (S:=(fun U:World=>U.cell? ⟨g3,6,none⟩=some (.slice (some ⟨gp,0,none⟩) 16 am6))) (xs:=[7]) (by kernel_rfl) (by rw [Hd.o];exact HO.o.x3.cell 6) (fun hHeld=>?_)
    rw [Hd.o];rw [Hd.o] at hHeld;refine tP 0 ?_;refine tL 1 ?_;refine tP 2 ?_;refine tP 3 ?_;refine aho 4 fun K hK=>?_;go_simp;go_at_call 81;refine (aN rb _ 4 _ HO.o.r (by omega) (by omega) (by omega)).mono ?_;rintro en V1 ⟨xa,rfl,xa0,UE,hr,hg⟩;have H1:=af (HO.o.pick hr hg);clear hr hg;refine afX hK (H1.o.x3.cell 6) fun hHeld=>?_
    clear hK K;refine tP 5 ?_;refine tP 6 ?_;have Hpl:=af (show n<P.pages.length by rw [H1.o.len.2.2];exact hn16);obtain ⟨⟨z0,hz0⟩,hf0⟩:=H1.o.po.g.bP n Hpl.o 0 (by decide);rw [Nat.add_zero] at hz0 hf0;have HF:=af (show LT w (V1.setCell ⟨gp,n*3,none⟩ (I_ xa)) rb _ w.heap.size g3 { P with pages:=P.pages.set n { P.pages[n]'Hpl.o with wh:=xa } } (.slice a0 Ar Au) (.slice a1 Aw Az) (.slice a2 AA AB) (.slice a3 AL AO) (.slice a4 an4 am4) (.slice a5 an5 am5) (.slice (some ⟨gp,0,none⟩) 16 am6) from
     have q:=H1.o.po.page H1.o.len.2.2 n Hpl.o 0 (by decide) (I_ xa) { P.pages[n]'Hpl.o with wh:=xa } rfl
     H1.o.turn q.2 _ _ q.1.lt H1.o.PI ⟨rfl,rfl⟩)
    refine ahp 7 fun K hK=>?_;go_simp;refine hK.out _ _ ?_;clear hK K;refine nL ?_;refine gY (by kernel_rfl) ?_ _;go_wp2_with fail;go_meet;exact ⟨_,_,_,_,_,_,_,_,_,by omega,HF⟩
   have n0:(y==0)=false:=by simpa using k0_
   by_cases k1_:y=1
   ·subst k1_;obtain ⟨d,hd⟩:∃ d,w8.drew=d:=⟨_,rfl⟩;have Bd:Below w8.heap.size w8 d:=hd ▸ Below.bz fZ;have Hd:=af hd;replace HO:=af (HO.o.below Bd);clear hd Bd;obtain ⟨gp,cp,ep,_,_⟩:=HO.o.po.g.shape (by rw [HO.o.len.2.2];decide);rw [HO.o.len.2.2] at ep;obtain ⟨rfl,rfl,rfl⟩:=Za ep;clear ep;have hn16:n<16:=by omega
    go_wp2_with fail;refine uu (S:=(fun U:World=>U.cell? ⟨g3,6,none⟩=some (.slice (some ⟨gp,0,none⟩) 16 am6))) (xs:=[7]) (by kernel_rfl) (by rw [Hd.o];exact HO.o.x3.cell 6) (fun hHeld=>?_)
    rw [Hd.o];rw [Hd.o] at hHeld;refine tP 0 ?_;refine tL 1 ?_;refine tP 2 ?_;refine tP 3 ?_;refine aho 4 fun K hK=>?_;go_simp;go_at_call 81;refine (aN rb _ 16 _ HO.o.r (by omega) (by omega) (by omega)).mono ?_;rintro en V1 ⟨xa,rfl,xa0,UE,hr,hg⟩;have H1:=af (HO.o.pick hr hg);clear hr hg;refine afX hK (H1.o.x3.cell 6) fun hHeld=>?_
    clear hK K;refine tP 5 ?_;refine tP 6 ?_;have Hpl:=af (show n<P.pages.length by rw [H1.o.len.2.2];exact hn16);obtain ⟨⟨z0,hz0⟩,hf0⟩:=H1.o.po.g.bP n Hpl.o 1 (by decide);skip;have HF:=af (show LT w (V1.setCell ⟨gp,n*3+1,none⟩ (I_ xa)) rb _ w.heap.size g3 { P with pages:=P.pages.set n { P.pages[n]'Hpl.o with at_:=xa } } (.slice a0 Ar Au) (.slice a1 Aw Az) (.slice a2 AA AB) (.slice a3 AL AO) (.slice a4 an4 am4) (.slice a5 an5 am5) (.slice (some ⟨gp,0,none⟩) 16 am6) from
     have q:=H1.o.po.page H1.o.len.2.2 n Hpl.o 1 (by decide) (I_ xa) { P.pages[n]'Hpl.o with at_:=xa } rfl
     H1.o.turn q.2 _ _ q.1.lt H1.o.PI ⟨rfl,rfl⟩)
    refine ahp 7 fun K hK=>?_;go_simp;refine hK.out _ _ ?_;clear hK K;refine nL ?_;refine gY (by kernel_rfl) ?_ _;go_wp2_with fail;go_meet;exact ⟨_,_,_,_,_,_,_,_,_,by omega,HF⟩
   have n1:(y==1)=false:=by simpa using k1_
   by_cases k2_:y=2
   ·subst k2_;have hn16:n<16:=by omega
    obtain ⟨w9,JX⟩:∃ V,w8.alloc (.cells #[I_ 1,I_ 2,I_ 3,I_ 4] 3)=V:=⟨_,rfl⟩;have B9:Below w8.heap.size w8 w9:=JX ▸ dm;have hN:OI w9 w8.heap.size (dM ⟨some ⟨w8.heap.size,0,none⟩,4,4⟩) [1,2,3,4]:=(JX ▸ OS.lit (l:=[1,2,3,4]) (f:=iR) (sz:=1) (e:=3) (w:=w8) (base:=w8.heap.size) aW _ rfl rfl (by simp):OS iR 1 3 w9 w8.heap.size _ _).oi;obtain ⟨f1,f2,f3,f4,f5,f6,f7⟩:=HO.o.f;obtain ⟨b,cap,eu,hbb,⟨cs,hcs⟩,⟨z,hz⟩,hfz,hO⟩:=((f6.below B9).mono aW f5).setRow (hi:=w8.heap.size) (by omega) B9.size (f:=n) (by rw [HO.o.len.1];exact hn16) ⟨some ⟨w8.heap.size,0,none⟩,4,4⟩ [1,2,3,4] hN;rw [HO.o.len.1] at eu;obtain ⟨rfl,rfl,rfl⟩:=Za eu;clear eu;have HF:=af (HO.o.row B9 n hcs hbb (dM ⟨some ⟨w8.heap.size,0,none⟩,4,4⟩) hO);unfold dM at HF;have H9_:=af (HO.o.below B9);have c0:=H9_.o.x3.c9
    have t0:=HO.o.x3.c9;clear f1 f2 f3 f4 f5 f6 f7 hN hO B9 hcs hbb;go_upto_region 13 with fail
    try rw [JX]
    go_meet;exact ⟨_,_,_,_,_,_,_,_,_,by omega,HF⟩
   have n2:(y==2)=false:=by simpa using k2_
   by_cases k3_:y=3
   ·subst k3_;go_wp2_with fail;refine (aN rb _ 20 _ HO.o.r (by omega) (by omega) (by omega)).mono ?_;rintro en w9 ⟨xa,rfl,xa0,UE,hr,hg⟩;replace HO:=af (HO.o.pick hr hg);have hwx:IntKind.i64.wrap (xa - 2)=xa - 2:=IntWalk.i64_in _ (by omega);clear hr hg;have c0:=HO.o.x3.c9;have fz:=HO.o.x3.frozen 7;go_wp2_with fail;go_meet;exact ⟨_,_,_,_,_,_,_,_,_,by omega,af (HO.o.hand (xa - 2))⟩
   have n3:(y==3)=false:=by simpa using k3_
   by_cases k4_:y=4
   ·subst k4_;go_wp2_with fail;refine (aN rb _ 9 _ HO.o.r (by omega) (by omega) (by omega)).mono ?_;rintro en w9 ⟨xa,rfl,xa0,UE,hr,hg⟩;replace HO:=af (HO.o.pick hr hg);have hwx:IntKind.i64.wrap (xa - 1)=xa - 1:=IntWalk.i64_in _ (by omega);clear hr hg;have c0:=HO.o.x3.c9;have fz:=HO.o.x3.frozen 8;go_wp2_with fail;go_meet;exact ⟨_,_,_,_,_,_,_,_,_,by omega,af (HO.o.limit (xa - 1))⟩
   have n4:(y==4)=false:=by simpa using k4_
   by_cases k5_:y=5
   ·subst k5_;obtain ⟨d,hd⟩:∃ d,w8.drew=d:=⟨_,rfl⟩;have Bd:Below w8.heap.size w8 d:=hd ▸ Below.bz fZ;have Hd:=af hd;replace HO:=af (HO.o.below Bd);clear hd Bd;obtain ⟨gl,cl,el,_,_⟩:=HO.o.po.l.os.shape (by rw [HO.o.len.2.1];decide);rw [HO.o.len.2.1] at el;obtain ⟨rfl,rfl,rfl⟩:=Za el;clear el;go_wp2_with fail;refine uu (S:=(fun U:World=>U.cell? ⟨g3,5,none⟩=some (.slice (some ⟨gl,0,none⟩) 4 am5))) (xs:=[7]) (by kernel_rfl) (by rw [Hd.o];exact HO.o.x3.cell 5) (fun hHeld=>?_)
    rw [Hd.o];rw [Hd.o] at hHeld;refine tP 0 ?_;refine tL 1 ?_;refine tP 2 ?_;refine tP 4 ?_;refine aho 3 fun K hK=>?_;go_simp;go_at_call 81;refine (aN rb _ 4 _ HO.o.r (by omega) (by omega) (by omega)).mono ?_;rintro en V1 ⟨xa,rfl,xa0,UE,hr,hg⟩;have H1:=af (HO.o.pick hr hg);obtain ⟨xa,rfl⟩:=Int.eq_ofNat_of_zero_le xa0;clear hr hg;refine afX hK (H1.o.x3.cell 5) fun hHeld=>?_
    clear hK K;refine aho 5 fun K hK=>?_;go_simp;go_at_call 81;refine (aN rb _ 12 _ H1.o.r (by omega) (by omega) (by omega)).mono ?_;rintro en V2 ⟨xb,rfl,ZU,ZV,hr,hg⟩;have H2:=af (H1.o.pick hr hg);clear hr hg;refine afX hK (H2.o.x3.cell 5) fun hHeld=>?_
    clear hK K;refine tP 6 ?_;obtain ⟨⟨z0,hz0⟩,hf0⟩:=H2.o.po.l.os.bP xa (by rw [H2.o.len.2.1];omega) 0 (by decide);rw [Nat.mul_one,Nat.add_zero] at hz0 hf0;have HF:=af (H2.o.low H2.o.len.2.1 xa xb);refine ahp 7 fun K hK=>?_;go_simp;refine hK.out _ _ ?_;clear hK K;refine nL ?_;refine gY (by kernel_rfl) ?_ _;go_wp2_with fail;go_meet;exact ⟨_,_,_,_,_,_,_,_,_,by omega,HF⟩
   have n5:(y==5)=false:=by simpa using k5_
   obtain rfl:y=6:=by omega
   clear n0 n1 n2 n3 n4 n5;go_wp2_with fail;refine (JA rb _ _ HO.o.r (by omega)).mono ?_;rintro en w9 ⟨k',_,_,_,_,b',rfl,⟨⟨k0,sK,sN,rfl⟩,⟨k1,sO,sQ,rfl⟩,⟨k2,sS,sU,rfl⟩,⟨k3,sV,sW,rfl⟩⟩,hsk,-,hb',hko,q1,hq1,hr,hg⟩;have Yg:=af (show w5.heap.size<=w8.heap.size from Hz58.o);replace HO:=af (HO.o.pick hr hg);have HF:=af (HO.o.WH (show w5.heap.size<=b' from Nat.le_trans Yg.o hb') hko hsk ⟨⟨_,_,_,rfl⟩,⟨_,_,_,rfl⟩,⟨_,_,_,rfl⟩,⟨_,_,_,rfl⟩⟩);clear hr hg hko hsk;have c0:=HO.o.x3.c9;obtain ⟨f0,f1,f2,f3,f4,f5,f6,f7,f8⟩:=HO.o.x3.f9;obtain ⟨V4,FP⟩:=XP (sets w9 g3 0 [.slice k0 sK sN,.slice k1 sO sQ,.slice k2 sS sU,.slice k3 sV sW]);rw [FP] at HF;go_wp2_with fail
   rw [afA w9,FP];go_meet;exact ⟨_,_,_,_,_,_,_,_,_,by omega,HF⟩
  case rest =>
   clear HO;obtain ⟨q,P',v0,v1,v2,v3,v4,v5,v6,hq,HT⟩:=hcut;obtain ⟨⟨v0,vn0,vm0,rfl⟩,⟨v1,vn1,vm1,rfl⟩,⟨v2,vn2,vm2,rfl⟩,⟨v3,vn3,vm3,rfl⟩,⟨v4,vn4,vm4,rfl⟩,⟨v5,vn5,vm5,rfl⟩,⟨v6,vn6,vm6,rfl⟩⟩:=HT.o.sl;obtain ⟨base,hbase,hko,hrd,hgr,hbx⟩:=HT.o.fin;have tZ:=af hko;have Oe:=af hrd;have JD:=af hgr;have jF:=af hbx;have aC:=af hbase;have c0:=HT.o.x3.c9;have r0:=HT.o.x2.c9;obtain ⟨f0,f1,f2,f3,f4,f5,f6,f7,f8⟩:=HT.o.x2.f9;clear hko hrd hgr hbx hbase;go_wp2_with fail;obtain ⟨F,hF⟩:=XP (sets wc w.heap.size 0 [.slice v0 vn0 vm0,.slice v1 vn1 vm1,.slice v2 vn2 vm2,.slice v3 vn3 vm3,.slice v4 vn4 vm4,.slice v5 vn5 vm5,.slice v6 vn6 vm6,I_ P'.hand,I_ P'.limit])
   rw [afC wc,hF];rw [hF] at tZ Oe JD jF;obtain ⟨e0,e1,e2,e3,e4,e5,e6,e7,e8⟩:=jF.o.c9;refine af7 (by simp [results,results44,go_sem,e0,e1,e2,e3,e4,e5,e6,e7,e8]<;>rfl) ?_
   refine ⟨P',.slice v0 vn0 vm0,.slice v1 vn1 vm1,.slice v2 vn2 vm2,.slice v3 vn3 vm3,.slice v4 vn4 vm4,.slice v5 vn5 vm5,.slice v6 vn6 vm6,base,rfl,HT.o.sl,HT.o.s,?_,?_,?_⟩
   ·exact Nat.le_of_lt aC.o
   ·exact tZ.o
   exact ⟨_,by omega,Oe.o,JD.o⟩
 have hx1:0<x:=by omega
 have HT:=af H.o.lt;obtain ⟨base,hbase,hko,hrd,hgr,hbx⟩:=HT.o.fin;have tZ:=af hko;have Oe:=af hrd;have JD:=af hgr;have jF:=af hbx;have aC:=af hbase;have c0:=HT.o.x3.c9;have r0:=HT.o.x2.c9;obtain ⟨f0,f1,f2,f3,f4,f5,f6,f7,f8⟩:=HT.o.x2.f9;clear hko hrd hgr hbx hbase;go_wp2_with fail;obtain ⟨F,hF⟩:=XP (sets w5 w.heap.size 0 [.slice b0 xN wL,.slice b1 zH xC,.slice b2 wM qB,.slice b3 zI zJ,.slice b4 UT UW,.slice b5 UX UY,.slice b6 UZ U8,I_ P.hand,I_ P.limit])
 rw [afC w5,hF];rw [hF] at tZ Oe JD jF;obtain ⟨e0,e1,e2,e3,e4,e5,e6,e7,e8⟩:=jF.o.c9;refine af7 (by simp [results,results44,go_sem,e0,e1,e2,e3,e4,e5,e6,e7,e8]<;>rfl) ?_
 refine ⟨P,.slice b0 xN wL,.slice b1 zH xC,.slice b2 wM qB,.slice b3 zI zJ,.slice b4 UT UW,.slice b5 UX UY,.slice b6 UZ U8,base,rfl,HT.o.sl,HT.o.s,?_,?_,?_⟩
 ·exact Nat.le_of_lt aC.o
 ·exact tZ.o
 exact ⟨_,by omega,Oe.o,JD.o⟩
structure LDP (w W:World) (rb q g2 g5:Nat) (p:Kx.aH) (c2:List Value) (u0 u1 u2 u3 u4 u5 u6:Value):Prop where
 b:Below w.heap.size w W
 r:RD W rb q
 x2:BX W g2 32 c2
 x5:BX W g5 32 [u0,u1,u2,u3,u4,u5,u6,I_ p.hand,I_ p.limit]
 f:∃ base hi,rb<base/\hi<=g5/\hi<=W.heap.size/\Qi W base hi u0 u1 u2 u3 u4 u5 u6 p
 s:iQ p.k
 sl:Sl u0/\Sl u1/\Sl u2/\Sl u3/\Sl u4/\Sl u5/\Sl u6
 h:w.heap.size<=g2/\g2<rb/\rb<g5
section
variable {w W V:World} {rb q q' g2 g5:Nat} {p:Kx.aH} {c2:List Value} {u0 u1 u2 u3 u4 u5 u6:Value}
theorem LDP.pick (h:LDP w W rb q g2 g5 p c2 u0 u1 u2 u3 u4 u5 u6) (hr:RD V rb q') (hg:W.grownBy V (some rb)):LDP w V rb q' g2 g5 p c2 u0 u1 u2 u3 u4 u5 u6:=by
 obtain ⟨base,hi,h2,h3,h4,hk⟩:=h.f;have hh:=h.h;exact ⟨h.b.grown hg h.b.size (fun k hk=>by cases hk;omega),hr,(hg.block g2 h.x2.lt (by simp;omega)).trans h.x2,(hg.block g5 h.x5.lt (by simp;omega)).trans h.x5,⟨base,hi,h2,h3,Nat.le_trans h4 hg.size,hk.to hg.size (fun j a b=>hg.block j (by omega) (by simp;omega))⟩,h.s,h.sl,h.h⟩
theorem LDP.below (h:LDP w W rb q g2 g5 p c2 u0 u1 u2 u3 u4 u5 u6) (hb:Below W.heap.size W V):LDP w V rb q g2 g5 p c2 u0 u1 u2 u3 u4 u5 u6:=
 h.pick (h.r.keep hb) (grown_below hb ⟨hb.os,hb.tape,hb.output⟩)
theorem LDP.rp (h:LDP w W rb q g2 g5 p c2 u0 u1 u2 u3 u4 u5 u6):RP W u0 u1 u2 u3 u4 u5 u6 p:=by
 obtain ⟨base,hi,h2,h3,h4,hk⟩:=h.f;exact hk W aW (fun _ _ _=>rfl)
theorem LDP.fin (h:LDP w W rb q g2 g5 p c2 u0 u1 u2 u3 u4 u5 u6) (hc:c2.length=9):Below w.heap.size w (sets W g2 0 [u0,u1,u2,u3,u4,u5,u6,I_ p.hand,I_ p.limit])/\BX (sets W g2 0 [u0,u1,u2,u3,u4,u5,u6,I_ p.hand,I_ p.limit]) g2 32 [u0,u1,u2,u3,u4,u5,u6,I_ p.hand,I_ p.limit]/\RP (sets W g2 0 [u0,u1,u2,u3,u4,u5,u6,I_ p.hand,I_ p.limit]) u0 u1 u2 u3 u4 u5 u6 p/\BX (sets W g2 0 [u0,u1,u2,u3,u4,u5,u6,I_ p.hand,I_ p.limit]) g5 32 [u0,u1,u2,u3,u4,u5,u6,I_ p.hand,I_ p.limit]:=by
 obtain ⟨base,hi,h2,h3,h4,hk⟩:=h.f;have hh:=h.h;exact ⟨dP hh.1 _ 0 h.b,h.x2.sets _ (by rw [hc];rfl),hk _ (by rw [jB];exact Nat.le_refl _) (fun j a _=>mG _ _ (by omega) _ _),BX.iq (by omega) _ 0 h.x5⟩
end
def DrewP (w:World) (en:Ending) (w':World):Prop:=∃ (P:Kx.aH) (um ui ue uc us ul up:Value),en=.returned (bU um ui ue uc us ul up P.hand P.limit)/\(Sl um/\Sl ui/\Sl ue/\Sl uc/\Sl us/\Sl ul/\Sl up)/\iQ P.k/\RP w' um ui ue uc us ul up P/\Below w.heap.size w w'
def DrewPW (w:World) (en:Ending) (w':World):Prop:=∃ (P:Kx.aH) (a:Int) (um ui ue uc us ul up:Value),en=.returned (.tuple #[bU um ui ue uc us ul up P.hand P.limit,I_ a])/\(Sl um/\Sl ui/\Sl ue/\Sl uc/\Sl us/\Sl ul/\Sl up)/\iQ P.k/\RP w' um ui ue uc us ul up P/\Below w.heap.size w w'
theorem DrawPagerValid_c (v:Value) (n:Nat) (w:World) (h:RB w v n):Calls prog 10 #[v] w (DrewP w):=by
 obtain ⟨w1,hw1⟩:∃ w1,w.alloc (.cells #[.slice none 0 0,.slice none 0 0,.slice none 0 0,.slice none 0 0,.slice none 0 0,.slice none 0 0,.slice none 0 0,I_ 0,I_ 0] 32)=w1:=⟨_,rfl⟩;have B1:=af (show Below w.heap.size w w1 from hw1 ▸ dm);have s1:w.heap.size<w1.heap.size:=by rw [<-hw1];simp
 have X2:=af (show BX w1 w.heap.size 32 [.slice none 0 0,.slice none 0 0,.slice none 0 0,.slice none 0 0,.slice none 0 0,.slice none 0 0,.slice none 0 0,I_ 0,I_ 0] from (hw1 ▸ BX.new w _ _:BX w1 _ _ _));have HB:=af (h.below B1.o);clear h;go_enter func10,ntmps10;go_wp2_with fail;clear hw1;refine (KR _ _ _ HB.o).mono ?_;rintro en w2 ⟨rb,rfl,hrb,hr,hb⟩;have hz2:=hb.size;have B2:=af (B1.o.trans (hb.mono B1.o.size));have HX:=af (X2.o.below hb);have Hr:=af hr;have hrl:=hr.lt;clear hr hb X2 HB B1;go_wp2_with fail;refine (l92Bad_c rb 0 _ Hr.o (by omega)).mono ?_;rintro en w3 ⟨P,_,_,_,_,_,_,_,base,rfl,⟨⟨b0,xN,wL,rfl⟩,⟨b1,zH,xC,rfl⟩,⟨b2,wM,qB,rfl⟩,⟨b3,zI,zJ,rfl⟩,⟨b4,UT,UW,rfl⟩,⟨b5,UX,UY,rfl⟩,⟨b6,UZ,U8,rfl⟩⟩,hs,hbase,Nw,q,hq,hr2,hg⟩;unfold bU;have hz3:=hg.size
 have Y2:BX w3 w.heap.size 32 [.slice none 0 0,.slice none 0 0,.slice none 0 0,.slice none 0 0,.slice none 0 0,.slice none 0 0,.slice none 0 0,I_ 0,I_ 0]:=(hg.block w.heap.size HX.o.lt (by simp;omega)).trans HX.o;have B3:=B2.o.grown hg (show w.heap.size<=w2.heap.size by omega) (fun k hk=>by cases hk;omega);have HF:=af (show RP (sets w3 w.heap.size 0 [.slice b0 xN wL,.slice b1 zH xC,.slice b2 wM qB,.slice b3 zI zJ,.slice b4 UT UW,.slice b5 UX UY,.slice b6 UZ U8,I_ P.hand,I_ P.limit]) (.slice b0 xN wL) (.slice b1 zH xC) (.slice b2 wM qB) (.slice b3 zI zJ) (.slice b4 UT UW) (.slice b5 UX UY) (.slice b6 UZ U8) P from Nw _ ⟨by rw [jB];exact Nat.le_refl _,fun j a b=>mG _ _ (by omega) _ _⟩)
 obtain ⟨F,hF⟩:=XP (sets w3 w.heap.size 0 [.slice b0 xN wL,.slice b1 zH xC,.slice b2 wM qB,.slice b3 zI zJ,.slice b4 UT UW,.slice b5 UX UY,.slice b6 UZ U8,I_ P.hand,I_ P.limit]);have HBF:=af (adT (Nat.le_refl w.heap.size) hF B3);have HXF:=af (Y2.ac4 hF);have Hs:=af hs;have r0:=Y2.c9;have f0:=Y2.f9;clear Nw hs hg hr2 Y2 B3 HX B2 Hr;go_wp2_with fail;
 rw [afC w3,hF];rw [hF] at HF HBF HXF;obtain ⟨e0,e1,e2,e3,e4,e5,e6,e7,e8⟩:=HXF.o.c9;refine af7 (by simp [results,results10,go_sem,e0,e1,e2,e3,e4,e5,e6,e7,e8]<;>rfl) ?_
 exact ⟨P,.slice b0 xN wL,.slice b1 zH xC,.slice b2 wM qB,.slice b3 zI zJ,.slice b4 UT UW,.slice b5 UX UY,.slice b6 UZ U8,rfl,⟨⟨_,_,_,rfl⟩,⟨_,_,_,rfl⟩,⟨_,_,_,rfl⟩,⟨_,_,_,rfl⟩,⟨_,_,_,rfl⟩,⟨_,_,_,rfl⟩,⟨_,_,_,rfl⟩⟩,Hs.o,HF.o,HBF.o⟩
theorem DrawPagerWord_c (v:Value) (n:Nat) (w:World) (h:RB w v n):Calls prog 18 #[v] w (DrewPW w):=by
 obtain ⟨w1,hw1⟩:∃ w1,w.alloc (.cells #[.slice none 0 0,.slice none 0 0,.slice none 0 0,.slice none 0 0,.slice none 0 0,.slice none 0 0,.slice none 0 0,I_ 0,I_ 0] 32)=w1:=⟨_,rfl⟩;have B1:=af (show Below w.heap.size w w1 from hw1 ▸ dm);have s1:w.heap.size<w1.heap.size:=by rw [<-hw1];simp
 have X2:=af (show BX w1 w.heap.size 32 [.slice none 0 0,.slice none 0 0,.slice none 0 0,.slice none 0 0,.slice none 0 0,.slice none 0 0,.slice none 0 0,I_ 0,I_ 0] from (hw1 ▸ BX.new w _ _:BX w1 _ _ _));have HB:=af (h.below B1.o);clear h;go_enter func18,ntmps18;go_wp2_with fail;clear hw1;refine (KR _ _ _ HB.o).mono ?_;rintro en w2 ⟨rb,rfl,hrb,hr,hb⟩;have hz2:=hb.size;have B2:=af (B1.o.trans (hb.mono B1.o.size));have HX:=af (X2.o.below hb);have Hr:=af hr;have hrl:=hr.lt;clear hr hb X2 HB B1;go_wp2_with fail;refine (l92Bad_c rb 0 _ Hr.o (by omega)).mono ?_;rintro en w3 ⟨P,_,_,_,_,_,_,_,base,rfl,⟨⟨b0,xN,wL,rfl⟩,⟨b1,zH,xC,rfl⟩,⟨b2,wM,qB,rfl⟩,⟨b3,zI,zJ,rfl⟩,⟨b4,UT,UW,rfl⟩,⟨b5,UX,UY,rfl⟩,⟨b6,UZ,U8,rfl⟩⟩,hs,hbase,Nw,q,hq,hr2,hg⟩;unfold bU;have hz3:=hg.size
 have Y2:BX w3 w.heap.size 32 [.slice none 0 0,.slice none 0 0,.slice none 0 0,.slice none 0 0,.slice none 0 0,.slice none 0 0,.slice none 0 0,I_ 0,I_ 0]:=(hg.block w.heap.size HX.o.lt (by simp;omega)).trans HX.o;have B3:=B2.o.grown hg (show w.heap.size<=w2.heap.size by omega) (fun k hk=>by cases hk;omega);obtain ⟨w4,hw4⟩:∃ V,w3.alloc (.cells #[.slice b0 xN wL,.slice b1 zH xC,.slice b2 wM qB,.slice b3 zI zJ,.slice b4 UT UW,.slice b5 UX UY,.slice b6 UZ U8,I_ P.hand,I_ P.limit] 32)=V:=⟨_,rfl⟩;have B4:Below w3.heap.size w3 w4:=hw4 ▸ dm
 have H:=af (show LDP w w4 rb q w.heap.size w3.heap.size P [.slice none 0 0,.slice none 0 0,.slice none 0 0,.slice none 0 0,.slice none 0 0,.slice none 0 0,.slice none 0 0,I_ 0,I_ 0] (.slice b0 xN wL) (.slice b1 zH xC) (.slice b2 wM qB) (.slice b3 zI zJ) (.slice b4 UT UW) (.slice b5 UX UY) (.slice b6 UZ U8) from
  ⟨B3.trans (B4.mono B3.size),hr2.keep B4,Y2.below B4,hw4 ▸ BX.new w3 _ _,⟨base,w3.heap.size,by omega,Nat.le_refl _,B4.size,Nw.r.to B4.size (fun j _ b=>B4.block j b)⟩,hs,⟨⟨_,_,_,rfl⟩,⟨_,_,_,rfl⟩,⟨_,_,_,rfl⟩,⟨_,_,_,rfl⟩,⟨_,_,_,rfl⟩,⟨_,_,_,rfl⟩,⟨_,_,_,rfl⟩⟩,by omega⟩)
 obtain ⟨g5,hg5⟩:∃ g,w3.heap.size=g:=⟨_,rfl⟩;rw [hg5] at H;clear Nw hs hg hr2 Y2 B3 HX B2 Hr B4;go_wp2_with fail
 try rw [hw4]
 try rw [hg5]
 clear hw4 hg5;obtain ⟨d,hd⟩:∃ d,w4.drew=d:=⟨_,rfl⟩;have Bd:Below w4.heap.size w4 d:=hd ▸ Below.bz fZ;replace H:=af (H.o.below Bd);have hS0:=H.o.x5.c9;refine wp_region_held_drew (S:=(fun U:World=>U.cell? ⟨g5,0,none⟩=some (.slice b0 xN wL)/\U.cell? ⟨g5,1,none⟩=some (.slice b1 zH xC)/\U.cell? ⟨g5,2,none⟩=some (.slice b2 wM qB)/\U.cell? ⟨g5,3,none⟩=some (.slice b3 zI zJ)/\U.cell? ⟨g5,4,none⟩=some (.slice b4 UT UW)/\U.cell? ⟨g5,5,none⟩=some (.slice b5 UX UY)/\U.cell? ⟨g5,6,none⟩=some (.slice b6 UZ U8)/\U.cell? ⟨g5,7,none⟩=some (I_ P.hand)/\U.cell? ⟨g5,8,none⟩=some (I_ P.limit))) (by kernel_rfl) (by rw [hd];exact hS0) (fun hHeld=>?_)
 rw [hd] at hHeld ⊢;clear hd Bd;refine afU 0 ?_;refine ahk 2 fun K hK=>?_
 (go_simp;go_at_call 74;refine (uH rb _ _ H.o.r (by omega)).mono ?_;rintro en V1 ⟨ad,rfl,q2,hq2,hr,hg⟩;have H1:=af (H.o.pick hr hg);clear hr hg;have hS1:=H1.o.x5.c9;go_wp2_with fail)
 refine afS hK fun hHeld=>?_
 clear hK K;refine ahk 3 fun K hK=>?_
 (have r0:=H1.o.x2.c9;have f0:=H1.o.x2.f9;go_simp;obtain ⟨VF_,hV⟩:∃ Y__,sets V1 w.heap.size 0 [.slice b0 xN wL,.slice b1 zH xC,.slice b2 wM qB,.slice b3 zI zJ,.slice b4 UT UW,.slice b5 UX UY,.slice b6 UZ U8,I_ P.hand,I_ P.limit]=Y__:=⟨_,rfl⟩;have HF:=af (H1.o.fin rfl);rw [hV] at HF;rw [afC V1,hV];have hS2:=HF.o.2.2.2.c9;clear hV r0 f0)
 refine afS hK fun hHeld=>?_
 clear hK K;refine ac' 4 ?_;refine wpAnyH_done (by kernel_rfl) ?_ _;obtain ⟨e0,e1,e2,e3,e4,e5,e6,e7,e8⟩:=HF.o.2.1.c9;go_wp2_with fail;refine af7 (by simp [results,results18,go_sem,e0,e1,e2,e3,e4,e5,e6,e7,e8]<;>rfl) ?_;exact ⟨P,ad,.slice b0 xN wL,.slice b1 zH xC,.slice b2 wM qB,.slice b3 zI zJ,.slice b4 UT UW,.slice b5 UX UY,.slice b6 UZ U8,rfl,H1.o.sl,H1.o.s,HF.o.2.2.1,HF.o.1⟩

theorem framesOf_c (p:Kx.aH) (vm vi ve vc vs vl vp:Value) (hand limit:Int) (w:World) (h:rP w vp p.pages) :
  Calls prog 15 #[bU vm vi ve vc vs vl vp hand limit] w fun e w'=>e=.returned (I_ (Kx.countP p 1))/\Below w.heap.size w w':=by
 obtain ⟨w0,hw0⟩:∃ w0,w.alloc (.cells #[vm,vi,ve,vc,vs,vl,vp,I_ hand,I_ limit] 32)=w0:=⟨_,rfl⟩;have dB:=af (show Below w.heap.size w w0 from hw0 ▸ (Below.refl w.heap.size w).alloc aW _);have jF:=af (show su w0 w.heap.size vm vi ve vc vs vl vp hand limit from hw0 ▸ su.new w vm vi ve vc vs vl vp hand limit _);obtain ⟨ap,cp,rfl,_,_⟩:=RS.val h;have hpl:=h.1;have HG:=af (show rP w0 _ p.pages from RS.below h dB.o);clear h;have k6:=jF.o.2.1.2.2.1;unfold bU;go_enter func15,ntmps15;go_wp2_with fail;clear hw0;go_loop [3,4] (fun n i=>∃ q:Nat,i=I_ q/\q<=p.pages.length/\n=I_ (uz p 1 q)) (fun _ i=>p.pages.length - (intOf i).toNat)
 case atStart=>exact ⟨0,rfl,Nat.zero_le _,by rw [H_];rfl⟩
 case round =>
  obtain ⟨q,rfl,hq,rfl⟩:=hrel
  by_cases hlt:q<p.pages.length
  ·obtain ⟨b,off,cap,ev,hbb,h1,_,_⟩:=rP.at HG.o hlt;obtain ⟨rfl,_,rfl⟩:=Za ev;clear ev;have kQ:(q:Int)<(p.pages.length:Int):=by omega
   have hst:=af (Ia p 1 q hlt);have hle:=Nb p 1 q;generalize (Kx.aA p.pages q).wh=x at h1 hst
   by_cases hx:x=1
   ·have hN:=af (show uz p 1 (q+1)=uz p 1 q+1 by rw [hst.o,if_pos hx]);subst hx;generalize uz p 1 q=n0 at hN hle;have MJ:(n0:Int)<=1099511627776:=by omega
    clear hst;go_wp2_with fail;go_round
    case rel=>exact ⟨q+1,by go_num,by omega,by rw [hN.o];go_num⟩
    case measure=>simp [intOf];omega
   have hN:=af (show uz p 1 (q+1)=uz p 1 q by rw [hst.o,if_neg hx,Nat.add_zero]);have hxb:(x==1)=false:=by simpa using hx
   clear hst;go_wp2_with fail;go_round
   case rel=>exact ⟨q+1,by go_num,by omega,by rw [hN.o]⟩
   case measure=>simp [intOf];omega
  have e:q=p.pages.length:=by omega
  subst e;have HF:=af (JS p 1);go_wp2_with fail;go_ret;exact ⟨by rw [HF.o];rfl,dB.o⟩
theorem isKept_c (s:List (List Int)) (f:Nat) (v:Value) (w:World) (h:RM w v s) (hok:jE s=true) (hf:f<16) (hne:(Kx.row s f).isEmpty=false) :
  Calls prog 78 #[v,I_ f] w fun e w'=>e=.returned (.bool true)/\Below w.heap.size w w':=by
 have Ai:=af (Kx.gy.1 hok).1;have HM:=af h;have bF:=af hok;have HfI:=af (show Kx.bK (f:Int) 0 15=true from Kx.ay.2 (by omega));obtain ⟨_,av,cv,rfl,_,_⟩:=h.len;have xQ:=af hne;clear h hok hne;go_enter func78,ntmps78;go_wp2_with fail;refine (acw s _ _ HM.o).mono ?_;rintro e w1 ⟨rfl,hb⟩;rw [bF.o];have B0:=af hb;clear hb;go_wp2_with fail;refine (jD _ _ _ _).mono ?_;rintro e w' ⟨rfl,rfl⟩;rw [HfI.o];obtain ⟨b,off,cap,u,ev,hbb,hc,hr⟩:=(HM.o.below B0.o).at (k:=f) (by rw [Ai.o];exact hf);obtain ⟨rfl,_,rfl⟩:=Za ev;clear ev;obtain ⟨ar,cr,rfl⟩:=hr.val;have hpos:0<(Kx.row s f).length:=by
  have:=xQ.o
  cases hrow:Kx.row s f with
  | nil=>rw [hrow] at this;cases this
  | cons a l=>simp only [List.length_cons];omega
 have hfN:f<s.length:=by rw [Ai.o];exact hf
 have wJ:(f:Int)<(s.length:Int):=by omega
 have hpd:decide (0<(Kx.row s f).length)=true:=decide_eq_true hpos;clear hr;go_wp2_with fail;go_ret;exact ⟨rfl,B0.o⟩
theorem implSwapGet_c (s:List (List Int)) (f:Nat) (v:Value) (w:World) (h:RM w v s) (hok:jE s=true) (hf:f<16) (hne:(Kx.row s f).isEmpty=false) :
  Calls prog 21 #[v,I_ f] w fun e w'=>∃ u,e=.returned (.tuple #[u,.bool true])/\RI w' u (Kx.row s f)/\Below w.heap.size w w':=by
 have Ai:=af (Kx.gy.1 hok).1;have HM:=af h;have HC:=af (isKept_c s f v w h hok hf hne);obtain ⟨_,av,cv,rfl,_,_⟩:=h.len;clear h hok hne;go_enter func21,ntmps21;go_wp2_with fail;refine HC.o.mono ?_;rintro e w1 ⟨rfl,hb⟩;have B0:=af hb;clear hb HC;obtain ⟨b,off,cap,u,ev,hbb,hc,hr⟩:=(HM.o.below B0.o).at (k:=f) (by rw [Ai.o];exact hf);obtain ⟨rfl,_,rfl⟩:=Za ev;clear ev;have hfN:f<s.length:=by rw [Ai.o];exact hf
 have wJ:(f:Int)<(s.length:Int):=by omega
 have Hr:=af hr;obtain ⟨ar,cr,rfl⟩:=hr.val;clear hr;go_wp2_with fail;refine (acz _ _ _ Hr.o).mono ?_;rintro e w2 ⟨u2,rfl,ho,hb2⟩;have HO:=af ho.ri;have HB:=af (B0.o.trans (hb2.mono B0.o.size));clear ho hb2;go_wp2_with fail;go_ret2;exact ⟨_,rfl,HO.o,HB.o⟩
structure LSP (w W:World) (g:Nat) (p:Kx.aH) (u0 u1 u2 u3 u4 u5 u6:Value):Prop where
 b:Below w.heap.size w W
 x:BX W g 32 [u0,u1,u2,u3,u4,u5,u6,I_ p.hand,I_ p.limit]
 r:RP W u0 u1 u2 u3 u4 u5 u6 p
 s:iQ p.k
theorem LSP.go {w W V:World} {g:Nat} {p:Kx.aH} {u0 u1 u2 u3 u4 u5 u6:Value} (h:LSP w W g p u0 u1 u2 u3 u4 u5 u6) (hb:Below W.heap.size W V):LSP w V g p u0 u1 u2 u3 u4 u5 u6:=
 ⟨h.b.trans (hb.mono h.b.size),h.x.below hb,h.r.below hb,h.s⟩
end Go.Proofs.YthcmmoibpgcgaaaGreatDoor
