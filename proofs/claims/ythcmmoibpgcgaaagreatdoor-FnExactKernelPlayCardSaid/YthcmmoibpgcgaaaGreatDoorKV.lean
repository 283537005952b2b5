/- KBase, KApp, KW1, KW2, KW3, KW4, KW5, KW6, KW6b, KW7, KW8, KW9, KW10, joined. -/
import Derived.Test.YthcmmoibpgcgaaaGreatDoorWalkA
import Derived.Test.YthcmmoibpgcgaaaGreatDoorKK
set_option maxHeartbeats 4000000
set_option linter.all false
open List renaming take_succ_eq_append_getElem->A1,length_append->A2,getElem_of_mem->A3,getElem_mem->A4,all_eq_true->A5,all_eq_false->A6,getD_eq_getElem?_getD->A9,getElem?_eq_getElem->A',length_filter_le->Ab,take_length->Al,any_eq_true->An,range->Ao
open Nat renaming le_trans->As,zero_le->Av,not_lt_zero->Ax,lt_of_lt_of_le->Ay,le_refl->AD,le_succ_of_le->AE,zero_add->AF,add_zero->AG
open Int renaming eq_ofNat_of_zero_le->AH
open Bool renaming and_eq_true->AI,and_eq_false_iff->AJ,eq_iff_iff->AK
open Option.some renaming injEq->AM
open ByteArray renaming empty->AN
open Go.Value renaming slice->A0
open Go.Proofs.Tryz
namespace Go.Proofs.YthcmmoibpgcgaaaGreatDoor
open Go.RowKit Kx
def RS {α:Type} (f:α->List Value) (sz:Nat) (w:World) (v:Value) (l:List α):Prop:=
 l.length<=1099511627776/\((l=[]/\∃ a cap,v=A0 a 0 cap/\cap<=maxLen/\(a=none->cap=0)) \/
  ∃ b off cap,v=A0 (some ⟨b,off,none⟩) l.length cap/\l.length<=cap/\cap<=maxLen/\b<w.heap.size/\∀ k (h:k<l.length) j u,(f l[k])[j]?=some u->w.cell? ⟨b,off+k*sz+j,none⟩=some u)
section
variable {α:Type} {f:α->List Value} {sz:Nat} {w w':World} {v:Value} {l:List α}
theorem RS.val (h:RS f sz w v l):∃ a cap,v=A0 a l.length cap/\l.length<=cap/\cap<=maxLen:=by
 rcases h.2 with ⟨rfl,a,cap,rfl,hc,_⟩ | ⟨b,off,cap,rfl,h1,h2,_⟩
 ·exact ⟨a,cap,rfl,Av _,hc⟩
 exact ⟨_,cap,rfl,h1,h2⟩
theorem RS.at (h:RS f sz w v l) {k:Nat} (hk:k<l.length) :
  ∃ b off cap,v=A0 (some ⟨b,off,none⟩) l.length cap/\b<w.heap.size/\∀ j u,(f l[k])[j]?=some u->w.cell? ⟨b,off+k*sz+j,none⟩=some u:=by
 rcases h.2 with ⟨rfl,a,cap,rfl,_⟩ | ⟨b,off,cap,rfl,_,_,hb,hc⟩
 ·simp at hk
 exact ⟨b,off,cap,rfl,hb,hc k hk⟩
theorem RS.below (h:RS f sz w v l) (hb:Below w.heap.size w w'):RS f sz w' v l:=by
 refine ⟨h.1,?_⟩;rcases h.2 with ⟨rfl,a,cap,rfl,hn⟩ | ⟨b,off,cap,rfl,h1,h2,hlt,hc⟩
 ·exact .inl ⟨rfl,a,cap,rfl,hn⟩
 exact .inr ⟨b,off,cap,rfl,h1,h2,Ay hlt hb.size,fun k hk j u hu=>(hb.cell (p:=⟨b,off+k*sz+j,none⟩) hlt).trans (hc k hk j u hu)⟩
theorem RS.len (h:RS f sz w v l) {a:Option Addr} {n cap:Nat} (hv:v=A0 a n cap):n=l.length/\n<=cap/\cap<=maxLen:=by
 obtain ⟨a',cap',e,h1,h2⟩:=h.val;rw [hv] at e;obtain ⟨_,rfl,rfl⟩:=Za e;clear e;exact ⟨rfl,h1,h2⟩
end
theorem Below.up {B:Nat} {w w':World} (h:Below B w w') (hb:B=w.heap.size):Below w.heap.size w w':=hb ▸ h
def iR (x:Int):List Value:=[I_ x]
def df (s:Kx.Str):List Value:=[.string s]
def yL (v:Value):List Value:=[v]
def bH (x:aG):List Value:=[I_ x.kind,.string x.guard,I_ x.refs]
def QD (x:Value×Int):List Value:=[x.1,I_ x.2]
def b_ (x:Kx.Cached):List Value:=[I_ x.env,I_ x.page,I_ x.frame,.bool x.write]
def jr (x:dV):List Value:=[I_ x.wh,I_ x.at_,.bool x.used]
def Lc (x:Kx.Call):List Value:=[I_ x.kind,I_ x.env,I_ x.a,I_ x.b,I_ x.c,.string x.name]
def dK:=RS df 1
def bV:=RS bH 3
def dZ:=RS b_ 4
def rP:=RS jr 3
def Zj:=RS Lc 6
def RM (w:World) (v:Value) (m:List (List Int)):Prop:=∃ vs:List Value,vs.length=m.length/\RS yL 1 w v vs/\∀ i (h:i<vs.length) (h':i<m.length),RI w vs[i] m[i]
def uo (w:World) (v:Value) (es:List Kx.Env):Prop:=∃ ps:List (Value×Int),ps.length=es.length/\RS QD 2 w v ps/\∀ i (h:i<ps.length) (h':i<es.length),ps[i].2=es[i].root/\dK w ps[i].1 es[i].aB
structure RK (w:World) (vm vi ve vc:Value) (k:Kx.Kernel):Prop where
 m:RM w vm k.mem
 i:bV w vi k.ag
 e:uo w ve k.ah
 c:dZ w vc k.cache
theorem RI.rs {w:World} {v:Value} {xs:List Int} (h:RS iR 1 w v xs):RI w v xs:=by
 refine ⟨h.1,?_⟩;rcases h.2 with ⟨rfl,a,cap,rfl,_,hn⟩ | ⟨b,off,cap,rfl,_,_,hlt,hc⟩
 ·exact .inl ⟨rfl,a,cap,rfl,hn⟩
 exact .inr ⟨b,off,cap,rfl,hlt,fun i hi=>by have:=hc i hi 0 _ rfl;simpa using this⟩
theorem RM.below {w w':World} {v:Value} {m:List (List Int)} (h:RM w v m) (hb:Below w.heap.size w w'):RM w' v m:=by
 obtain ⟨vs,hl,hs,hr⟩:=h;exact ⟨vs,hl,hs.below hb,fun i h h'=>(hr i h h').below hb⟩
theorem uo.below {w w':World} {v:Value} {m:List Kx.Env} (h:uo w v m) (hb:Below w.heap.size w w'):uo w' v m:=by
 obtain ⟨vs,hl,hs,hr⟩:=h;exact ⟨vs,hl,hs.below hb,fun i h h'=>⟨(hr i h h').1,RS.below (hr i h h').2 hb⟩⟩
theorem RK.below {w w':World} {vm vi ve vc:Value} {k:Kx.Kernel} (h:RK w vm vi ve vc k) (hb:Below w.heap.size w w'):RK w' vm vi ve vc k:=
 ⟨h.m.below hb,RS.below h.i hb,h.e.below hb,RS.below h.c hb⟩
theorem RM.len {w:World} {v:Value} {m:List (List Int)} (h:RM w v m):m.length<=1099511627776/\∃ a cap,v=A0 a m.length cap/\m.length<=cap/\cap<=maxLen:=by
 obtain ⟨vs,hl,hs,_⟩:=h;have:=hs.val;rw [hl] at this;exact ⟨by rw [<-hl];exact hs.1,this⟩
theorem RM.at {w:World} {v:Value} {m:List (List Int)} (h:RM w v m) {k:Nat} (hk:k<m.length) :
  ∃ b off cap u,v=A0 (some ⟨b,off,none⟩) m.length cap/\b<w.heap.size/\w.cell? ⟨b,off+k,none⟩=some u/\RI w u (Kx.row m k):=by
 obtain ⟨vs,hl,hs,hr⟩:=h;have hk':k<vs.length:=by omega
 obtain ⟨b,off,cap,e,hb,hc⟩:=hs.at hk';rw [hl] at e;refine ⟨b,off,cap,vs[k],e,hb,by have:=hc 0 _ rfl;simpa using this,?_⟩;have:=hr k hk' hk;simpa [Kx.row,hk] using this
theorem uo.len {w:World} {v:Value} {m:List Kx.Env} (h:uo w v m):m.length<=1099511627776/\∃ a cap,v=A0 a m.length cap/\m.length<=cap/\cap<=maxLen:=by
 obtain ⟨vs,hl,hs,_⟩:=h;have:=hs.val;rw [hl] at this;exact ⟨by rw [<-hl];exact hs.1,this⟩
theorem uo.at {w:World} {v:Value} {m:List Kx.Env} (h:uo w v m) {k:Nat} (hk:k<m.length) :
  ∃ b off cap u,v=A0 (some ⟨b,off,none⟩) m.length cap/\b<w.heap.size/\w.cell? ⟨b,off+k*2,none⟩=some u/\w.cell? ⟨b,off+k*2+1,none⟩=some (I_ (au m k).root)/\dK w u (au m k).aB:=by
 obtain ⟨vs,hl,hs,hr⟩:=h;have hk':k<vs.length:=by omega
 obtain ⟨b,off,cap,e,hb,hc⟩:=hs.at hk';rw [hl] at e;have h1:=hr k hk' hk;have e2:au m k=m[k]:=by simp [au,hk]
 rw [e2];exact ⟨b,off,cap,vs[k].1,e,hb,hc 0 _ rfl,by rw [<-h1.1];exact hc 1 _ rfl,h1.2⟩
theorem bV.at {w:World} {v:Value} {m:List aG} (h:bV w v m) {k:Nat} (hk:k<m.length) :
  ∃ b off cap,v=A0 (some ⟨b,off,none⟩) m.length cap/\b<w.heap.size/\w.cell? ⟨b,off+k*3,none⟩=some (I_ (Kx.inf m k).kind)/\w.cell? ⟨b,off+k*3+1,none⟩=some (.string (Kx.inf m k).guard)/\w.cell? ⟨b,off+k*3+2,none⟩=some (I_ (Kx.inf m k).refs):=by
 obtain ⟨b,off,cap,e,hb,hc⟩:=RS.at h hk;have e2:Kx.inf m k=m[k]:=by simp [Kx.inf,hk]
 rw [e2];exact ⟨b,off,cap,e,hb,hc 0 _ rfl,hc 1 _ rfl,hc 2 _ rfl⟩
theorem dZ.at {w:World} {v:Value} {m:List Kx.Cached} (h:dZ w v m) {k:Nat} (hk:k<m.length) :
  ∃ b off cap,v=A0 (some ⟨b,off,none⟩) m.length cap/\b<w.heap.size/\w.cell? ⟨b,off+k*4,none⟩=some (I_ (m.getD k Kx.Cached.zero).env)/\w.cell? ⟨b,off+k*4+1,none⟩=some (I_ (m.getD k Kx.Cached.zero).page) /\
   w.cell? ⟨b,off+k*4+2,none⟩=some (I_ (m.getD k Kx.Cached.zero).frame)/\w.cell? ⟨b,off+k*4+3,none⟩=some (.bool (m.getD k Kx.Cached.zero).write):=by
 obtain ⟨b,off,cap,e,hb,hc⟩:=RS.at h hk;have e2:m.getD k Kx.Cached.zero=m[k]:=by simp [hk]
 rw [e2];exact ⟨b,off,cap,e,hb,hc 0 _ rfl,hc 1 _ rfl,hc 2 _ rfl,hc 3 _ rfl⟩
theorem rP.at {w:World} {v:Value} {m:List dV} (h:rP w v m) {k:Nat} (hk:k<m.length) :
  ∃ b off cap,v=A0 (some ⟨b,off,none⟩) m.length cap/\b<w.heap.size/\w.cell? ⟨b,off+k*3,none⟩=some (I_ (aA m k).wh)/\w.cell? ⟨b,off+k*3+1,none⟩=some (I_ (aA m k).at_)/\w.cell? ⟨b,off+k*3+2,none⟩=some (.bool (aA m k).used):=by
 obtain ⟨b,off,cap,e,hb,hc⟩:=RS.at h hk;have e2:aA m k=m[k]:=by simp [aA,hk]
 rw [e2];exact ⟨b,off,cap,e,hb,hc 0 _ rfl,hc 1 _ rfl,hc 2 _ rfl⟩
theorem dK.at {w:World} {v:Value} {m:List Kx.Str} (h:dK w v m) {k:Nat} (hk:k<m.length) :
  ∃ b off cap,v=A0 (some ⟨b,off,none⟩) m.length cap/\b<w.heap.size/\w.cell? ⟨b,off+k,none⟩=some (.string m[k]):=by
 obtain ⟨b,off,cap,e,hb,hc⟩:=RS.at h hk;exact ⟨b,off,cap,e,hb,by have:=hc 0 _ rfl;simpa using this⟩
class IV {α:Type} (f:α->List Value) (sz:outParam Nat):Prop where
 len:∀ x,(f x).length=sz
 pos:0<sz
 one:∀ x,∀ u ∈ f x,u.oneCell'=true
instance:IV iR 1:=⟨fun _=>rfl,by decide,fun x u hu=>by simp [iR] at hu;subst hu;rfl⟩
instance:IV df 1:=⟨fun _=>rfl,by decide,fun x u hu=>by simp [df] at hu;subst hu;rfl⟩
instance:IV bH 3:=⟨fun _=>rfl,by decide,fun x u hu=>by simp [bH] at hu;rcases hu with rfl | rfl | rfl <;> rfl⟩
instance:IV b_ 4:=⟨fun _=>rfl,by decide,fun x u hu=>by simp [b_] at hu;rcases hu with rfl | rfl | rfl | rfl <;> rfl⟩
instance:IV jr 3:=⟨fun _=>rfl,by decide,fun x u hu=>by simp [jr] at hu;rcases hu with rfl | rfl | rfl <;> rfl⟩
instance:IV Lc 6:=⟨fun _=>rfl,by decide,fun x u hu=>by simp [Lc] at hu;rcases hu with rfl | rfl | rfl | rfl | rfl | rfl <;> rfl⟩
def flat {α:Type} (f:α->List Value) (l:List α):List Value:=l.flatMap f
theorem flat_length {α:Type} {f:α->List Value} {sz:Nat} (hf:∀ x,(f x).length=sz):∀ l:List α,(flat f l).length=l.length*sz
 | []=>by simp [flat]
 | x :: l=>by
  have:=flat_length hf l
  unfold flat at this ⊢;rw [List.flatMap_cons,A2,hf,this,List.length_cons,Nat.succ_mul];omega
theorem qM {α:Type} (f:α->List Value) (l l':List α):flat f (l ++ l')=flat f l ++ flat f l':=by simp [flat]
theorem flat_get {α:Type} {f:α->List Value} {sz:Nat} (hf:∀ x,(f x).length=sz):∀ (l:List α) (k j:Nat) (h:k<l.length),j<sz->(flat f l)[k*sz+j]?=(f l[k])[j]?
 | [],_,_,h,_=>by simp at h
 | x :: l,0,j,_,hj=>by
  unfold flat;rw [List.flatMap_cons,List.getElem?_append_left (by rw [hf];omega)];simp
 | x :: l,k+1,j,h,hj=>by
  have:=flat_get hf l k j (by simpa using h) hj
  unfold flat at this ⊢;rw [List.flatMap_cons,List.getElem?_append_right (by rw [hf,Nat.succ_mul];omega),hf];have e:(k+1)*sz+j - sz=k*sz+j:=by rw [Nat.succ_mul];omega
  rw [e,this];simp
theorem Ej {α:Type} {f:α->List Value} {sz:Nat} (hf:∀ x,(f x).length=sz) (hs:0<sz) (l:List α) (i:Nat) (u:Value) (h:(flat f l)[i]?=some u):∃ k,∃ (hk:k<l.length),∃ j,j<sz/\i=k*sz+j/\(f l[k])[j]?=some u:=by
 have hi:i<l.length*sz:=by rw [<-flat_length hf l];exact (List.getElem?_eq_some_iff.1 h).1
 have hk:i / sz<l.length:=by
  rw [Nat.mul_comm] at hi;exact Nat.div_lt_of_lt_mul hi
 have e:i=i / sz*sz+i % sz:=by rw [Nat.mul_comm];exact (Nat.div_add_mod i sz).symm
 refine ⟨i / sz,hk,i % sz,Nat.mod_lt _ hs,e,?_⟩;rw [<-flat_get hf l _ _ hk (Nat.mod_lt _ hs),<-e];exact h
def OS {α:Type} (f:α->List Value) (sz:Nat) (e:TypeId) (w:World) (base:Nat) (v:Value) (l:List α):Prop:=w.ownsRow base e sz v l.length (flat f l)/\l.length<=1099511627776
section
variable {α:Type} {f:α->List Value} {sz:Nat} {e:TypeId} {w w':World} {base:Nat} {v:Value} {l:List α}
theorem OS.rs [E:IV f sz] (h:OS f sz e w base v l):RS f sz w v l:=by
 refine ⟨h.2,?_⟩;rcases h.1.2 with ⟨rfl,hn⟩ | ⟨g,cap,cur,rfl,hb,hg,hnc,hcm,hcs,htake⟩
 ·exact .inl ⟨List.eq_nil_of_length_eq_zero hn,none,0,by rw [hn] at *,by simp,fun _=>rfl⟩
 refine .inr ⟨g,0,cap,rfl,hnc,hcm,(Array.getElem?_eq_some_iff.1 hg).1,fun k hk j u hu=>?_⟩
 have hj:j<sz:=by rw [<-E.len l[k]];exact (List.getElem?_eq_some_iff.1 hu).1
 have:=h.1.cells (g:=g) rfl (k*sz+j) u (by rw [flat_get E.len l k j hk hj];exact hu)
 rw [Addr.add_lit] at this;rw [AF] at this ⊢;exact this
theorem OS.below (h:OS f sz e w base v l) (hb:Below w.heap.size w w'):OS f sz e w' base v l:=by
 refine ⟨⟨h.1.1,?_⟩,h.2⟩;rcases h.1.2 with hn | ⟨g,cap,cur,rfl,hbg,hg,r⟩
 ·exact .inl hn
 exact .inr ⟨g,cap,cur,rfl,hbg,by rw [hb.block g (Array.getElem?_eq_some_iff.1 hg).1];exact hg,r⟩
theorem OS.kept {row:Option Nat} (h:OS f sz e w base v l) (hg:w.grownBy w' row) (hne:v.ownBlock=none\/v.ownBlock≠row):OS f sz e w' base v l:=⟨h.1.kept hg hne,h.2⟩
theorem OS.lt (h:OS f sz e w base v l):∀ k,v.ownBlock=some k->base<=k/\k<w.heap.size:=h.1.lt
theorem OS.alloc (h:OS f sz e w base v l) (o:Obj):OS f sz e (w.alloc o) base v l:=⟨h.1.alloc o,h.2⟩
theorem OS.drewN (h:OS f sz e w base v l) (n:Nat):OS f sz e (w.drewN n) base v l:=⟨h.1,h.2⟩
theorem OS.mono {base':Nat} (h:OS f sz e w base v l) (hb:base'<=base):OS f sz e w base' v l:=by
 refine ⟨⟨h.1.1,?_⟩,h.2⟩;rcases h.1.2 with ⟨rfl,hn⟩ | ⟨g,cap,cur,rfl,hbg,r⟩
 ·exact .inl ⟨rfl,hn⟩
 exact .inr ⟨g,cap,cur,rfl,As hb hbg,r⟩
theorem OS.nil (w:World) (base:Nat):OS f sz e w base (A0 none 0 0) []:=⟨World.ownsRow_nil _ _ _ _,by simp⟩
theorem OS.d_ (hb:base<=w.heap.size):OS f sz e (w.alloc (.cells #[] e)) base (A0 (some ⟨w.heap.size,0,none⟩) 0 0) []:=
 ⟨⟨by simp [flat],.inr ⟨w.heap.size,0,#[],rfl,hb,heap_alloc_new w _,AD _,by simp,by simp,by simp [flat]⟩⟩,by simp⟩
theorem OS.lit (hb:base<=w.heap.size) (cs:Array Value) (hcs:cs.toList=flat f l) (hsz:cs.size=l.length*sz) (hl:l.length<=1048576) :
  OS f sz e (w.alloc (.cells cs e)) base (A0 (some ⟨w.heap.size,0,none⟩) l.length l.length) l:=
 ⟨⟨by rw [<-hcs];simpa using hsz,.inr ⟨w.heap.size,l.length,cs,rfl,hb,heap_alloc_new w _,AD _,by unfold maxLen;omega,hsz,by rw [hcs,List.take_of_length_le];rw [<-hcs];simpa using Nat.le_of_eq hsz⟩⟩,by omega⟩
theorem OS.kind (h:OS f sz e w base v l) {g:Nat} (hg:v.ownBlock=some g):∃ cs,w.heap[g]?=some (.cells cs e (0,0)):=by
 rcases h.1.2 with ⟨rfl,hn⟩ | ⟨g',cap,cur,rfl,_,hh,_⟩
 ·simp [Value.ownBlock] at hg
 simp [Value.ownBlock] at hg
 subst hg;exact ⟨cur,hh⟩
theorem OS.apart {β:Type} {f':β->List Value} {sz':Nat} {e':TypeId} {base':Nat} {v':Value} {l':List β} (h:OS f sz e w base v l) (h':OS f' sz' e' w base' v' l') (hne:e≠e'):v.ownBlock=none\/v.ownBlock≠v'.ownBlock:=by
 cases hv:v.ownBlock with
 | none=>exact .inl rfl
 | some g =>
  refine .inr fun he=>?_
  obtain ⟨cs,h1⟩:=h.kind hv;obtain ⟨cs',h2⟩:=h'.kind he.symm;rw [h1] at h2;simp only [AM,Obj.cells.injEq] at h2;exact hne h2.2.1
end
def aaG (t e:TypeId) (z:Value) (sz:Nat):Prop:=∃ (i:TypeInfo) (b:Nat),prog.underlying t=some (.slice e)/\prog.info? e=some i/\i.zero=some z/\i.size=sz/\i.bytes=b/\b<=64/\z.cells.size=sz
theorem aaG.mk {t e:TypeId} {z:Value} {sz b:Nat} (h:prog.underlying t=some (.slice e)) (hi:(prog.info? e).map (fun i=>(i.zero,i.size,i.bytes))=some (some z,sz,b)) (hb:b<=64) (hz:z.cells.size=sz):aaG t e z sz:=by
 obtain ⟨i0,hi,hz0,hz1,hz2⟩:=info_parts hi;exact ⟨i0,b,h,hi,hz0,hz1,hz2,hb,hz⟩
theorem wK:aaG 29 3 (I_ 0) 1:=aaG.mk underlying29 (b:=8) (by kernel_rfl) (by decide) rfl
section
variable {α:Type} {f:α->List Value} {sz:Nat} [E:IV f sz] {t e:TypeId} {z:Value}
theorem RS.NI {w:World} {a:Addr} {n cap:Nat} {l:List α} (h:RS f sz w (A0 (some a) n cap) l):∀ i u,(flat f l)[i]?=some u->w.cell? (a.add i)=some u:=by
 intro i u hu;obtain ⟨k,hk,j,hj,rfl,hu2⟩:=Ej E.len E.pos l i u hu;obtain ⟨b,off,cap',ev,_,hc⟩:=h.at hk;simp only [Value.slice.injEq,AM] at ev;obtain ⟨rfl,_,_⟩:=ev;rw [Addr.add_lit,<-Nat.add_assoc];exact hc j u hu2
theorem Ld (hT:aaG t e z sz) (ty:TypeId) (w:World) (base:Nat) (v:Value) (xs:List α) (hown:OS f sz e w base v xs) (u:Value) (ys:List α) (hr:RS f sz w u ys)
  (hlen:xs.length+ys.length<=1099511627776) (hbase:base<=w.heap.size) :
  ∃ v' w',(Builtin.append_ #[t,t] ty #[v,u]).run prog w=.ok v' w'/\OS f sz e w' base v' (xs ++ ys)/\w.grownBy w' v.ownBlock/\(v'.ownBlock=v.ownBlock\/v'.ownBlock=some w.heap.size):=by
 obtain ⟨i0,b,h22,hi,hz0,hz1,hz2,hb,hzc⟩:=hT;obtain ⟨ad,cap,rfl,_,_⟩:=hr.val
 cases ad with
 | some ad =>
  obtain ⟨v',w',hrun,h2,h3,_,h5⟩:=run_append_own_at (P:=prog) (w:=w) base t ty e i0 z sz b h22 hi hz0 hz1 hz2 hzc E.pos v xs.length (flat f xs) hown.1 ad ys.length cap (flat f ys) (flat_length E.len ys) hr.NI
   (fun u hu=>by
    obtain ⟨x,_,hx⟩:=List.mem_flatMap.1 hu;exact E.one x u hx) (by unfold maxLen;omega) (As (Nat.mul_le_mul hlen hb) (by decide)) hbase
  exact ⟨v',w',hrun,⟨by rw [A2,qM];exact h2,by simpa using hlen⟩,h3,h5⟩
 | none =>
  have hy:ys=[]/\cap=0:=by
   rcases hr.2 with ⟨rfl,a,c,ev,_,hn⟩ | ⟨b,off,c,ev,_⟩
   ·simp only [Value.slice.injEq] at ev;exact ⟨rfl,by rw [ev.2.2];exact hn ev.1.symm⟩
   simp at ev
  obtain ⟨rfl,rfl⟩:=hy;have hrun:=run_append_owned_none (P:=prog) w base t ty e i0 sz h22 hi v xs.length (flat f xs) hown.1;exact ⟨v,w,hrun,by simpa using hown,World.grownBy.refl _ _,.inl rfl⟩
theorem xP (hT:aaG t e z sz) {o:Oper} {a:Act} {K:Act->World->Prop} {Q:Exit->Act->World->Prop} {w:World} (s x:Operand)
  (ho:o.op=.call { callee:=.builtin .append,args:=#[s,x],argTypes:=#[t,t] })
  (base:Nat) (v:Value) (xs:List α) (hs:a.eval s=v) (hown:OS f sz e w base v xs) (u:Value) (ys:List α) (hx:a.eval x=u) (hr:RS f sz w u ys)
  (hlen:xs.length+ys.length<=1099511627776) (hbase:base<=w.heap.size)
  (h:∀ v' w',OS f sz e w' base v' (xs ++ ys)->w.grownBy w' v.ownBlock->(v'.ownBlock=v.ownBlock\/v'.ownBlock=some w.heap.size)->K (a.put o.dst v') w'):o.wp prog a w K Q:=by
 obtain ⟨v',w',hrun,h2,h3,h5⟩:=Ld hT o.type w base v xs hown u ys hr hlen hbase;unfold Oper.wp execOp;simp only [ho,resolve,invoke,builtin,Sem.run_bind,Sem.run_pure,Result.andThen_ok,List.map_toArray,List.map_cons,List.map_nil,hs,hx,hrun];exact h v' w' h2 h3 h5
theorem aV (hT:aaG t e z sz) {ops:Array Oper} {rest:List Oper} {o:Oper} {a:Act} {Q:Exit->Act->World->Prop} {w:World} (hgd:o.guard=none) (s x:Operand)
  (ho:o.op=.call { callee:=.builtin .append,args:=#[s,x],argTypes:=#[t,t] })
  (base:Nat) (v:Value) (xs:List α) (hs:a.eval s=v) (hown:OS f sz e w base v xs) (u:Value) (ys:List α) (hx:a.eval x=u) (hr:RS f sz w u ys)
  (hlen:xs.length+ys.length<=1099511627776) (hbase:base<=w.heap.size)
  (h:∀ v' w',OS f sz e w' base v' (xs ++ ys)->w.grownBy w' v.ownBlock->(v'.ownBlock=v.ownBlock\/v'.ownBlock=some w.heap.size)->wpList prog ops Q rest (a.put o.dst v') w'):wpList prog ops Q (o :: rest) a w:=
 wpList_plain hgd fun _ hK=>xP hT s x ho base v xs hs hown u ys hx hr hlen hbase fun v' w' h2 h3 h4=>hK _ _ (h v' w' h2 h3 h4)
theorem aU (hT:aaG t e z sz) {ops:Array Oper} {o:Oper} {a:Act} {K:Act->World->Prop} {Q:Exit->Act->World->Prop} {X:Prop} {w:World} (hgd:o.guard=none) (s x:Operand)
  (ho:o.op=.call { callee:=.builtin .append,args:=#[s,x],argTypes:=#[t,t] })
  (base:Nat) (v:Value) (xs:List α) (hs:a.eval s=v) (hown:OS f sz e w base v xs) (u:Value) (ys:List α) (hx:a.eval x=u) (hr:RS f sz w u ys)
  (hlen:xs.length+ys.length<=1099511627776) (hbase:base<=w.heap.size)
  (h:∀ v' w',OS f sz e w' base v' (xs ++ ys)->w.grownBy w' v.ownBlock->(v'.ownBlock=v.ownBlock\/v'.ownBlock=some w.heap.size)->K (a.put o.dst v') w') :
  if Region.wanted o (yielded ops a.tmps)=true then Oper.wp prog o a w K Q else X:=by
 have hw:Region.wanted o (yielded ops a.tmps)=true:=by simp [Region.wanted,hgd]
 rw [if_pos hw];exact xP hT s x ho base v xs hs hown u ys hx hr hlen hbase h
end
theorem Below.dN {α:Type} {f:α->List Value} {sz:Nat} {e:TypeId} {B:Nat} {a w w':World} {v:Value} {xs:List α} {base:Nat} (h:Below B a w) (ho:OS f sz e w base v xs) (hg:w.grownBy w' v.ownBlock) (hB:B<=base) (hs:B<=w.heap.size):Below B a w':=
 h.grown hg hs (fun k hk=>As hB (ho.lt k hk).1)
theorem RS.one {α:Type} {f:α->List Value} {sz:Nat} (x:α) (cs:Array Value) (hcs:cs.toList=f x) (w:World) (e:TypeId):RS f sz (w.alloc (.cells cs e)) (A0 (some ⟨w.heap.size,0,none⟩) 1 1) [x]:=by
 refine ⟨by simp,.inr ⟨w.heap.size,0,1,rfl,AD _,by unfold maxLen;omega,by simp,fun k hk j u hu=>?_⟩⟩
 have hk0:k=0:=by simp at hk;exact hk
 subst hk0;simp only [Nat.zero_mul,AG,AF,List.getElem_cons_zero] at hu ⊢;rw [World.cell?,show (w.alloc (.cells cs e)).heap[w.heap.size]?=some (.cells cs e (0,0)) from heap_alloc_new w _];rw [<-hcs] at hu;simpa using hu
theorem zk:∀ xs:List Int,flat iR xs=ints xs
 | []=>rfl
 | x :: xs=>by
  have:=zk xs
  unfold flat at this ⊢;rw [List.flatMap_cons,this];rfl
theorem OI.os {w:World} {base:Nat} {v:Value} {xs:List Int} (h:OI w base v xs):OS iR 1 3 w base v xs:=⟨by rw [zk];exact h.1,h.2⟩
theorem OS.oi {w:World} {base:Nat} {v:Value} {xs:List Int} (h:OS iR 1 3 w base v xs):OI w base v xs:=⟨by rw [<-zk];exact h.1,h.2⟩
def FK (w:Int):Int:=match Kx.entry w with | some (f,_)=>(f:Int) | none=>0
def Qc (w:Int):Bool:=match Kx.entry w with | some (_,b)=>b | none=>false
def Ik (w:Int):Bool:=(Kx.entry w).isSome
theorem xR {w:Int} {f:Nat} {b:Bool} (h:Kx.entry w=some (f,b)):FK w=f/\Qc w=b/\Ik w=true:=by simp [FK,Qc,Ik,h]
theorem pO {w:Int} (h:Kx.entry w=none):FK w=0/\Qc w=false/\Ik w=false:=by simp [FK,Qc,Ik,h]
theorem zi {w:Int} (h0:0<w) (h1:w % 2=1) (h2:w<48):Kx.entry w=some ((w / 4).toNat,w % 4==3):=by unfold Kx.entry;rw [if_pos ⟨h0,h1,h2⟩]
theorem oO {w:Int} (h:¬ (0<w/\w % 2=1/\w<48)):Kx.entry w=none:=by unfold Kx.entry;rw [if_neg h]
theorem GI {w:Int} (h0:0<w) (h1:w % 2=1) (h2:w<48):FK w=w / 4/\Qc w=(w % 4==3)/\Ik w=true:=by
 have:=xR (zi h0 h1 h2)
 refine ⟨?_,this.2.1,this.2.2⟩;rw [this.1];omega
theorem Ba {w:Int} (h0:0<w) (h1:w % 2=1) (h2:w<48):dY w=1:=by
 unfold dY;rw [if_neg (by omega),zi h0 h1 h2];rfl
theorem uI {w:Int} (h:¬ (0<w/\w % 2=1/\w<48)) (h0:w≠0):dY w=2:=by
 unfold dY;rw [if_neg h0,oO h];rfl
theorem jA (x:Int) (w:World):Calls prog 279 #[I_ x] w fun e w'=>e=.returned (I_ (dY x))/\w=w':=by
 by_cases h0:x=0
 ·subst h0;go_enter func279,ntmps279;go_wp2_with fail;go_ret;exact ⟨rfl,rfl⟩
 have hz:(x==0)=false:=by simpa using h0
 by_cases hp:0<x
 ·by_cases hm:x % 2=1
  ·have hmb:(x % 2==1)=true:=by simpa using hm
   by_cases hl:x<48
   ·have hk:=af (Ba hp hm hl);clear hm h0;go_enter func279,ntmps279;go_wp2_with fail;go_ret;exact ⟨aZ hk.o.symm,rfl⟩
   have hk:=af (uI (w:=x) (by omega) h0);clear hm h0;go_enter func279,ntmps279;go_wp2_with fail;go_ret;exact ⟨aZ hk.o.symm,rfl⟩
  have hmb:(x % 2==1)=false:=by simpa using hm
  have hk:=af (uI (w:=x) (by omega) h0);clear hm h0;go_enter func279,ntmps279;go_wp2_with fail;go_ret;exact ⟨aZ hk.o.symm,rfl⟩
 have hk:=af (uI (w:=x) (by omega) h0);clear h0;go_enter func279,ntmps279;go_wp2_with fail;go_ret;exact ⟨aZ hk.o.symm,rfl⟩
def Eg (x:Int):Ending:=.returned (.tuple #[I_ (FK x),.bool (Qc x),.bool (Ik x)])
theorem C_ {x:Int} {f:Nat} {b:Bool} (h:Kx.entry x=some (f,b)):Eg x=.returned (.tuple #[I_ (f:Int),.bool b,.bool true]):=by
 unfold Eg;rw [(xR h).1,(xR h).2.1,(xR h).2.2]
theorem G7 {x:Int} (h:Kx.entry x=none):Eg x=.returned (.tuple #[I_ 0,.bool false,.bool false]):=by
 unfold Eg;rw [(pO h).1,(pO h).2.1,(pO h).2.2]
theorem IW {k:IntKind} {a a':Int} {b b' c c':Bool} (h1:a=a') (h2:b=b') (h3:c=c'):Ending.returned (.tuple #[.int k a,.bool b,.bool c])=.returned (.tuple #[.int k a',.bool b',.bool c']):=by rw [h1,h2,h3]
theorem bM (x:Int) (w:World):Calls prog 234 #[I_ x] w fun e w'=>e=Eg x/\w=w':=by
 by_cases hg:0<x/\x % 2=1/\x<48
 ·have hk:=af (Ba hg.1 hg.2.1 hg.2.2);have he:=af (GI hg.1 hg.2.1 hg.2.2);have h1:=hg.1;have h2:=hg.2.2;clear hg;go_enter func234,ntmps234;go_wp2_with fail;refine (jA _ _).mono ?_;rintro e w' ⟨rfl,rfl⟩;rw [hk.o];go_wp2_with fail;go_ret3;exact ⟨IW he.o.1.symm he.o.2.1.symm he.o.2.2.symm,rfl⟩
 have he:=af (pO (oO hg));have hk:dY x=0\/dY x=2:=by
  by_cases h0:x=0
  ·left;rw [h0];rfl
  right;exact uI hg h0
 have Hk:=af hk;clear hg hk;go_enter func234,ntmps234;go_wp2_with fail;refine (jA _ _).mono ?_;rintro e w' ⟨rfl,rfl⟩;rcases Hk.o with hk | hk <;> rw [hk] <;> clear hk
 all_goals
  go_wp2_with fail;go_ret3;exact ⟨IW he.o.1.symm he.o.2.1.symm he.o.2.2.symm,rfl⟩
theorem dJ (n lo hi:Int) (w:World):Calls prog 56 #[I_ n,I_ lo,I_ hi] w fun e w'=>e=.returned (.bool (Kx.bK n lo hi))/\w=w':=tq n lo hi w
theorem dI (x:Int) (w:World):Calls prog 131 #[I_ x] w fun e w'=>e=.returned (.bool (Kx.bK x 0 11))/\w=w':=by
 go_enter func131,ntmps131;go_wp2_with fail;refine (dJ _ _ _ _).mono ?_;rintro e w' ⟨rfl,rfl⟩;go_wp2_with fail;go_ret;exact ⟨rfl,rfl⟩
theorem kC (x:Int) (w:World):Calls prog 75 #[I_ x] w fun e w'=>e=.returned (.bool (Kx.bK x 0 63))/\w=w':=by
 go_enter func75,ntmps75;go_wp2_with fail;refine (dJ _ _ _ _).mono ?_;rintro e w' ⟨rfl,rfl⟩;go_wp2_with fail;go_ret;exact ⟨rfl,rfl⟩
theorem qZ (x:Int) (w:World):Calls prog 86 #[I_ x] w fun e w'=>e=.returned (.bool (Kx.bK x 0 2))/\w=w':=by
 go_enter func86,ntmps86;go_wp2_with fail;refine (dJ _ _ _ _).mono ?_;rintro e w' ⟨rfl,rfl⟩;go_wp2_with fail;go_ret;exact ⟨rfl,rfl⟩
theorem jD (n lo hi:Int) (w:World):Calls prog 49 #[I_ n,I_ lo,I_ hi] w fun e w'=>e=.returned (.bool (Kx.bK n lo hi))/\w=w':=y_ n lo hi w
theorem jO (x:Int) (w:World):Calls prog 63 #[I_ x] w fun e w'=>e=.returned (.bool (Kx.bK x 0 11))/\w=w':=by
 go_enter func63,ntmps63;go_wp2_with fail;refine (jD _ _ _ _).mono ?_;rintro e w' ⟨rfl,rfl⟩;go_wp2_with fail;go_ret;exact ⟨rfl,rfl⟩
theorem qI (x:Int) (w:World):Calls prog 73 #[I_ x] w fun e w'=>e=.returned (.bool (Kx.bK x 0 63))/\w=w':=by
 go_enter func73,ntmps73;go_wp2_with fail;refine (jD _ _ _ _).mono ?_;rintro e w' ⟨rfl,rfl⟩;go_wp2_with fail;go_ret;exact ⟨rfl,rfl⟩
theorem FH (x:Int) (w:World):Calls prog 77 #[I_ x] w fun e w'=>e=.returned (.bool (Kx.bK x 0 3))/\w=w':=by
 go_enter func77,ntmps77;go_wp2_with fail;refine (jD _ _ _ _).mono ?_;rintro e w' ⟨rfl,rfl⟩;go_wp2_with fail;go_ret;exact ⟨rfl,rfl⟩
theorem IX (x:Int) (w:World):Calls prog 201 #[I_ x] w fun e w'=>e=.returned (.bool (Kx.bK x 0 15))/\w=w':=by
 go_enter func201,ntmps201;go_wp2_with fail;refine (jD _ _ _ _).mono ?_;rintro e w' ⟨rfl,rfl⟩;go_wp2_with fail;go_ret;exact ⟨rfl,rfl⟩
theorem Rn (x:Int) (w:World):Calls prog 152 #[I_ x] w fun e w'=>e=.returned (.bool (Kx.bK x 0 9999))/\w=w':=by
 go_enter func152,ntmps152;go_wp2_with fail;refine (jD _ _ _ _).mono ?_;rintro e w' ⟨rfl,rfl⟩;go_wp2_with fail;go_ret;exact ⟨rfl,rfl⟩
theorem BR (x:Int) (w:World):Calls prog 72 #[I_ x] w fun e w'=>e=.returned (.bool (Kx.bK x 0 2))/\w=w':=by
 go_enter func72,ntmps72;go_wp2_with fail;refine (jD _ _ _ _).mono ?_;rintro e w' ⟨rfl,rfl⟩;go_wp2_with fail;go_ret;exact ⟨rfl,rfl⟩
theorem bZ (x:Int) (w:World) (hx:x<=9223372036854775807):Calls prog 140 #[I_ x] w fun e w'=>e=Eg x/\w=w':=by
 by_cases hn:x<0
 ·have he:=af (pO (oO (w:=x) (by omega)));go_enter func140,ntmps140;go_wp2_with fail;go_ret3;exact ⟨IW he.o.1.symm he.o.2.1.symm he.o.2.2.symm,rfl⟩
 have h0:0<=x:=by omega
 by_cases hm:x % 2=0
 ·have hmb:(x % 2==0)=true:=by simpa using hm
  have he:=af (pO (oO (w:=x) (by omega)));clear hm;go_enter func140,ntmps140;go_wp2_with fail;go_ret3;exact ⟨IW he.o.1.symm he.o.2.1.symm he.o.2.2.symm,rfl⟩
 have hmb:(x % 2==0)=false:=by simpa using hm
 by_cases hl:x<48
 ·have he:=af (GI (w:=x) (by omega) (by omega) hl);have hi:=af (Kx.ay.2 (show 0<=x / 4/\x / 4<=11 by omega));clear hm;go_enter func140,ntmps140;go_wp2_with fail;refine (jO _ _).mono ?_;rintro e w' ⟨rfl,rfl⟩;rw [hi.o];go_wp2_with fail;go_ret3;exact ⟨IW he.o.1.symm he.o.2.1.symm he.o.2.2.symm,rfl⟩
 have he:=af (pO (oO (w:=x) (by omega)));have hi:=af (Kx.u_.2 (show x / 4<0\/11<x / 4 by omega));clear hm;go_enter func140,ntmps140;go_wp2_with fail;refine (jO _ _).mono ?_;rintro e w' ⟨rfl,rfl⟩;rw [hi.o];go_wp2_with fail;go_ret3;exact ⟨IW he.o.1.symm he.o.2.1.symm he.o.2.2.symm,rfl⟩
def xU (n:Nat) (p:Nat->Bool) (r:Int):Prop:=(∃ k:Nat,k<n/\p k=true/\(∀ j,j<k->p j=false)/\r=k)\/((∀ j,j<n->p j=false)/\r=-1)
theorem xU.any {n:Nat} {p:Nat->Bool} {r:Int} (h:xU n p r):decide (0<=r)=(Ao n).any p:=by
 rw [AK,decide_eq_true_eq,An];rcases h with ⟨k,hk,hp,_,rfl⟩ | ⟨hn,rfl⟩
 ·exact ⟨fun _=>⟨k,by simpa using hk,hp⟩,fun _=>by omega⟩
 constructor
 ·intro h;omega
 rintro ⟨k,hk,hp⟩;rw [hn k (by simpa using hk)] at hp;cases hp
def uF (g:Nat) (lb:Array Value) (n:Nat) (arg:Nat->Value) (p:Nat->Bool) (w:World):Prop:=
 (∀ args W,(callFunc g args).run prog W=.ok (.enter g args) W) /\
 ∀ k W,k<n->Below w.heap.size w W->Calls prog g (#[arg k] ++ lb) W fun e w'=>e=.returned (.bool (p k))/\Below W.heap.size W w'
def uG (n:Nat) (p:Nat->Bool) (w:World) (e:Ending) (w':World):Prop:=∃ r,e=.returned (I_ r)/\xU n p r/\Below w.heap.size w w'
def kN (x:aG):Value:=.agg #[I_ x.kind,.string x.guard,I_ x.refs]
def iT (x:Kx.Cached):Value:=.agg #[I_ x.env,I_ x.page,I_ x.frame,.bool x.write]
theorem dK.at2 {w:World} {v:Value} {m:List Kx.Str} (h:dK w v m) {k:Nat} (hk:k<m.length) :
  ∃ b off cap,v=A0 (some ⟨b,off,none⟩) m.length cap/\b<w.heap.size/\w.cell? ⟨b,off+k,none⟩=some (.string (m.getD k AN)):=by
 obtain ⟨b,off,cap,e,hb,hc⟩:=h.at hk;exact ⟨b,off,cap,e,hb,by rw [hc];simp [hk]⟩
theorem XJ.at2 {w:World} {v:Value} {m:List Value} (h:RS yL 1 w v m) {k:Nat} (hk:k<m.length) :
  ∃ b off cap,v=A0 (some ⟨b,off,none⟩) m.length cap/\b<w.heap.size/\w.cell? ⟨b,off+k,none⟩=some (m.getD k undef):=by
 obtain ⟨b,off,cap,e,hb,hc⟩:=h.at hk;exact ⟨b,off,cap,e,hb,by have:=hc 0 _ rfl;rw [Nat.mul_one,AG] at this;rw [this];simp [hk]⟩
theorem Ei (g:Nat) (lb:Array Value) (p:Nat->Bool) (l:List aG) (v:Value) (w:World) (h:bV w v l) (hp:uF g lb l.length (fun k=>kN (Kx.inf l k)) p w) :
  Calls prog 200 #[v,.func (.func g) #[] lb] w (uG l.length p w):=by
 obtain ⟨a,cap,rfl,_,_⟩:=RS.val h;obtain ⟨eg,hg⟩:=hp;have hl:=h.1;have H:=af h;clear h;have Hg:=af hg;clear hg;go_enter func200,ntmps200;go_wp2_with fail;go_loopw [8] (fun i wr=>∃ k:Nat,i=I_ k/\k<=l.length/\TI (∀ j,j<k->p j=false)/\TI (Below w.heap.size w wr)) (fun i _=>l.length - (intOf i).toNat)
 case atStart=>exact ⟨0,rfl,Av _,fun j hj=>absurd hj (Ax _),Below.refl _ _⟩
 case round =>
  obtain ⟨k,rfl,hk,hn,hb⟩:=hrel
  by_cases hlt:k<l.length
  ·obtain ⟨b,off,cap1,e,_,h1,h2,h3⟩:=bV.at (RS.below H.o hb.o) hlt;obtain ⟨rfl,_,rfl⟩:=Za e;clear e;have kQ:(k:Int)<(l.length:Int):=by omega
   have hcall:=af (Hg.o k wr hlt hb.o);unfold kN at hcall;generalize Kx.inf l k=x at h1 h2 h3 hcall
   cases hq:p k with
   | true =>
    rw [hq] at hcall;have Hq:=af hq;clear hq;go_wp2_with (go_at_fn g;refine hcall.o.mono ?_;rintro e w' ⟨rfl,hb'⟩;have kR:=af hb';clear hb');go_ret;exact ⟨_,rfl,.inl ⟨k,hlt,Hq.o,hn.o,rfl⟩,hb.o.trans (kR.o.mono hb.o.size)⟩
   | false =>
    rw [hq] at hcall;have Hq:=af hq;clear hq;go_wp2_with (go_at_fn g;refine hcall.o.mono ?_;rintro e w' ⟨rfl,hb'⟩;have kR:=af hb';clear hb');go_roundw
    case rel =>
     refine ⟨k+1,by go_num,by omega,?_,hb.o.trans (kR.o.mono hb.o.size)⟩;show ∀ j,j<k+1->p j=false;intro j hj
     by_cases e:j=k
     ·subst e;exact Hq.o
     exact hn.o j (by omega)
    case measure=>simp [intOf];omega
  have:k=l.length:=by omega
  subst this;go_wp2_with fail;go_ret;exact ⟨_,rfl,.inr ⟨hn.o,rfl⟩,hb.o⟩
theorem yQ (g:Nat) (lb:Array Value) (p:Nat->Bool) (l:List aG) (v:Value) (w:World) (h:bV w v l) (hp:uF g lb l.length (fun k=>kN (Kx.inf l k)) p w) :
  Calls prog 135 #[v,.func (.func g) #[] lb] w fun e w'=>e=.returned (.bool ((Ao l.length).any p))/\Below w.heap.size w w':=by
 have Hc:=af (Ei g lb p l v w h hp);clear h hp;go_enter func135,ntmps135;go_wp2_with (go_at_call 200;refine Hc.o.mono ?_;rintro e w' ⟨r,rfl,hf,hb'⟩;have kR:=af hb';have Hf:=af hf;clear hb' hf);go_ret;exact ⟨ak Hf.o.any,kR.o⟩
theorem zY (g:Nat) (lb:Array Value) (p:Nat->Bool) (l:List Kx.Cached) (v:Value) (w:World) (h:dZ w v l) (hp:uF g lb l.length (fun k=>iT (l.getD k Kx.Cached.zero)) p w) :
  Calls prog 202 #[v,.func (.func g) #[] lb] w (uG l.length p w):=by
 obtain ⟨a,cap,rfl,_,_⟩:=RS.val h;obtain ⟨eg,hg⟩:=hp;have hl:=h.1;have H:=af h;clear h;have Hg:=af hg;clear hg;go_enter func202,ntmps202;go_wp2_with fail;go_loopw [8] (fun i wr=>∃ k:Nat,i=I_ k/\k<=l.length/\TI (∀ j,j<k->p j=false)/\TI (Below w.heap.size w wr)) (fun i _=>l.length - (intOf i).toNat)
 case atStart=>exact ⟨0,rfl,Av _,fun j hj=>absurd hj (Ax _),Below.refl _ _⟩
 case round =>
  obtain ⟨k,rfl,hk,hn,hb⟩:=hrel
  by_cases hlt:k<l.length
  ·obtain ⟨b,off,cap1,e,_,h1,h2,h3,h4⟩:=dZ.at (RS.below H.o hb.o) hlt;obtain ⟨rfl,_,rfl⟩:=Za e;clear e;have kQ:(k:Int)<(l.length:Int):=by omega
   have hcall:=af (Hg.o k wr hlt hb.o);unfold iT at hcall;generalize l.getD k Kx.Cached.zero=x at h1 h2 h3 h4 hcall
   cases hq:p k with
   | true =>
    rw [hq] at hcall;have Hq:=af hq;clear hq;go_wp2_with (go_at_fn g;refine hcall.o.mono ?_;rintro e w' ⟨rfl,hb'⟩;have kR:=af hb';clear hb');go_ret;exact ⟨_,rfl,.inl ⟨k,hlt,Hq.o,hn.o,rfl⟩,hb.o.trans (kR.o.mono hb.o.size)⟩
   | false =>
    rw [hq] at hcall;have Hq:=af hq;clear hq;go_wp2_with (go_at_fn g;refine hcall.o.mono ?_;rintro e w' ⟨rfl,hb'⟩;have kR:=af hb';clear hb');go_roundw
    case rel =>
     refine ⟨k+1,by go_num,by omega,?_,hb.o.trans (kR.o.mono hb.o.size)⟩;show ∀ j,j<k+1->p j=false;intro j hj
     by_cases e:j=k
     ·subst e;exact Hq.o
     exact hn.o j (by omega)
    case measure=>simp [intOf];omega
  have:k=l.length:=by omega
  subst this;go_wp2_with fail;go_ret;exact ⟨_,rfl,.inr ⟨hn.o,rfl⟩,hb.o⟩
theorem FZ (g:Nat) (lb:Array Value) (p:Nat->Bool) (l:List Kx.Str) (v:Value) (w:World) (h:dK w v l) (hp:uF g lb l.length (fun k=>.string (l.getD k AN)) p w) :
  Calls prog 197 #[v,.func (.func g) #[] lb] w (uG l.length p w):=by
 obtain ⟨a,cap,rfl,_,_⟩:=RS.val h;obtain ⟨eg,hg⟩:=hp;have hl:=h.1;have H:=af h;clear h;have Hg:=af hg;clear hg;go_enter func197,ntmps197;go_wp2_with fail;go_loopw [8] (fun i wr=>∃ k:Nat,i=I_ k/\k<=l.length/\TI (∀ j,j<k->p j=false)/\TI (Below w.heap.size w wr)) (fun i _=>l.length - (intOf i).toNat)
 case atStart=>exact ⟨0,rfl,Av _,fun j hj=>absurd hj (Ax _),Below.refl _ _⟩
 case round =>
  obtain ⟨k,rfl,hk,hn,hb⟩:=hrel
  by_cases hlt:k<l.length
  ·obtain ⟨b,off,cap1,e,_,h1⟩:=dK.at2 (RS.below H.o hb.o) hlt;obtain ⟨rfl,_,rfl⟩:=Za e;clear e;have kQ:(k:Int)<(l.length:Int):=by omega
   have hcall:=af (Hg.o k wr hlt hb.o);generalize l.getD k AN=x at h1 hcall
   cases hq:p k with
   | true =>
    rw [hq] at hcall;have Hq:=af hq;clear hq;go_wp2_with (go_at_fn g;refine hcall.o.mono ?_;rintro e w' ⟨rfl,hb'⟩;have kR:=af hb';clear hb');go_ret;exact ⟨_,rfl,.inl ⟨k,hlt,Hq.o,hn.o,rfl⟩,hb.o.trans (kR.o.mono hb.o.size)⟩
   | false =>
    rw [hq] at hcall;have Hq:=af hq;clear hq;go_wp2_with (go_at_fn g;refine hcall.o.mono ?_;rintro e w' ⟨rfl,hb'⟩;have kR:=af hb';clear hb');go_roundw
    case rel =>
     refine ⟨k+1,by go_num,by omega,?_,hb.o.trans (kR.o.mono hb.o.size)⟩;show ∀ j,j<k+1->p j=false;intro j hj
     by_cases e:j=k
     ·subst e;exact Hq.o
     exact hn.o j (by omega)
    case measure=>simp [intOf];omega
  have:k=l.length:=by omega
  subst this;go_wp2_with fail;go_ret;exact ⟨_,rfl,.inr ⟨hn.o,rfl⟩,hb.o⟩
theorem zU (g:Nat) (lb:Array Value) (p:Nat->Bool) (l:List Kx.Str) (v:Value) (w:World) (h:dK w v l) (hp:uF g lb l.length (fun k=>.string (l.getD k AN)) p w) :
  Calls prog 125 #[v,.func (.func g) #[] lb] w fun e w'=>e=.returned (.bool ((Ao l.length).any p))/\Below w.heap.size w w':=by
 have Hc:=af (FZ g lb p l v w h hp);clear h hp;go_enter func125,ntmps125;go_wp2_with (go_at_call 197;refine Hc.o.mono ?_;rintro e w' ⟨r,rfl,hf,hb'⟩;have kR:=af hb';have Hf:=af hf;clear hb' hf);go_ret;exact ⟨ak Hf.o.any,kR.o⟩
theorem F5 (g:Nat) (lb:Array Value) (p:Nat->Bool) (l:List Value) (v:Value) (w:World) (h:RS yL 1 w v l) (hp:uF g lb l.length (fun k=>l.getD k undef) p w) :
  Calls prog 150 #[v,.func (.func g) #[] lb] w (uG l.length p w):=by
 obtain ⟨a,cap,rfl,_,_⟩:=RS.val h;obtain ⟨eg,hg⟩:=hp;have hl:=h.1;have H:=af h;clear h;have Hg:=af hg;clear hg;go_enter func150,ntmps150;go_wp2_with fail;go_loopw [8] (fun i wr=>∃ k:Nat,i=I_ k/\k<=l.length/\TI (∀ j,j<k->p j=false)/\TI (Below w.heap.size w wr)) (fun i _=>l.length - (intOf i).toNat)
 case atStart=>exact ⟨0,rfl,Av _,fun j hj=>absurd hj (Ax _),Below.refl _ _⟩
 case round =>
  obtain ⟨k,rfl,hk,hn,hb⟩:=hrel
  by_cases hlt:k<l.length
  ·obtain ⟨b,off,cap1,e,_,h1⟩:=XJ.at2 (RS.below H.o hb.o) hlt;obtain ⟨rfl,_,rfl⟩:=Za e;clear e;have kQ:(k:Int)<(l.length:Int):=by omega
   have hcall:=af (Hg.o k wr hlt hb.o);generalize l.getD k undef=x at h1 hcall
   cases hq:p k with
   | true =>
    rw [hq] at hcall;have Hq:=af hq;clear hq;go_wp2_with (go_at_fn g;refine hcall.o.mono ?_;rintro e w' ⟨rfl,hb'⟩;have kR:=af hb';clear hb');go_ret;exact ⟨_,rfl,.inl ⟨k,hlt,Hq.o,hn.o,rfl⟩,hb.o.trans (kR.o.mono hb.o.size)⟩
   | false =>
    rw [hq] at hcall;have Hq:=af hq;clear hq;go_wp2_with (go_at_fn g;refine hcall.o.mono ?_;rintro e w' ⟨rfl,hb'⟩;have kR:=af hb';clear hb');go_roundw
    case rel =>
     refine ⟨k+1,by go_num,by omega,?_,hb.o.trans (kR.o.mono hb.o.size)⟩;show ∀ j,j<k+1->p j=false;intro j hj
     by_cases e:j=k
     ·subst e;exact Hq.o
     exact hn.o j (by omega)
    case measure=>simp [intOf];omega
  have:k=l.length:=by omega
  subst this;go_wp2_with fail;go_ret;exact ⟨_,rfl,.inr ⟨hn.o,rfl⟩,hb.o⟩
theorem zZ (g:Nat) (lb:Array Value) (p:Nat->Bool) (l:List Value) (v:Value) (w:World) (h:RS yL 1 w v l) (hp:uF g lb l.length (fun k=>l.getD k undef) p w) :
  Calls prog 69 #[v,.func (.func g) #[] lb] w fun e w'=>e=.returned (.bool ((Ao l.length).any p))/\Below w.heap.size w w':=by
 have Hc:=af (F5 g lb p l v w h hp);clear h hp;go_enter func69,ntmps69;go_wp2_with (go_at_call 150;refine Hc.o.mono ?_;rintro e w' ⟨r,rfl,hf,hb'⟩;have kR:=af hb';have Hf:=af hf;clear hb' hf);go_ret;exact ⟨ak Hf.o.any,kR.o⟩
theorem lh (xs:List Int):dC xs=dQ xs:=by
 unfold dC dQ CG;rw [AK];simp [bK,Kx.bK]
def fU (l:List Nat):List Int:=l.map fun (n:Nat)=>(n:Int)
theorem aQ (l:List Nat):(fU l).length=l.length:=by simp [fU]
theorem NJ:fU []=[]:=rfl
theorem jv (l l':List Nat):fU (l ++ l')=fU l ++ fU l':=by simp [fU]
theorem nI (l:List Nat) (k:Nat) (h:k<(fU l).length) (h':k<l.length):(fU l)[k]=(l[k]:Int):=by simp [fU]
theorem mem_row {m:List (List Int)} (h:bW m=true) {f:Nat} (hf:f<12):m.length=12/\(Kx.row m f).length=4/\∀ x ∈ Kx.row m f,0<=x/\x<=9999:=
 ⟨(jC.1 h).1,((jC.1 h).2 f hf).1,((jC.1 h).2 f hf).2⟩
def F6 (xs:List Int) (x:Int):Bool:=xs.contains x
theorem yx (l:List Nat) (g:Nat):F6 (fU l) (g:Int)=l.contains g:=by
 unfold F6 fU;rw [AK,List.contains_iff_mem,List.contains_iff_mem,List.mem_map];constructor
 ·rintro ⟨x,hx,e⟩;have:x=g:=by omega
  rwa [this] at hx
 exact fun h=>⟨g,h,rfl⟩
theorem RM.word {w:World} {v:Value} {m:List (List Int)} (h:RM w v m) (hm:bW m=true) {f a:Nat} (hf:f<12) (ha:a<4) :
  ∃ b off cap b' off' cap',v=A0 (some ⟨b,off,none⟩) 12 cap/\w.cell? ⟨b,off+f,none⟩=some (A0 (some ⟨b',off',none⟩) 4 cap')/\w.cell? ⟨b',off'+a,none⟩=some (I_ (Kx.word m f a)) /\
   0<=Kx.word m f a/\Kx.word m f a<=9999:=by
 obtain ⟨h12,h4,hw⟩:=mem_row hm hf;obtain ⟨b,off,cap,u,rfl,_,hc,hr⟩:=h.at (k:=f) (by omega);obtain ⟨b',off',cap',rfl,_,hc'⟩:=hr.at (k:=a) (by omega);rw [h4] at hc;rw [h12];have e:Kx.word m f a=(Kx.row m f)[a]'(by omega):=by simp [Kx.word,show a<(Kx.row m f).length by omega]
 rw [e];exact ⟨b,off,cap,b',off',cap',rfl,hc,hc',hw _ (A4 _)⟩
theorem RM.row {w:World} {v:Value} {m:List (List Int)} (h:RM w v m) (hm:bW m=true) {f:Nat} (hf:f<12) :
  ∃ b off cap u,v=A0 (some ⟨b,off,none⟩) 12 cap/\w.cell? ⟨b,off+f,none⟩=some u/\RI w u (Kx.row m f):=by
 obtain ⟨h12,_⟩:=mem_row hm hf;obtain ⟨b,off,cap,u,rfl,_,hc,hr⟩:=h.at (k:=f) (by omega);rw [h12];exact ⟨b,off,cap,u,rfl,hc,hr⟩
theorem nz (m:List (List Int)) (v:Value) (w:World) (h:RM w v m) :
  Calls prog 92 #[v] w fun e w'=>e=.returned (.bool (bW m))/\w=w':=by
 obtain ⟨hl,a,cap,rfl,_,_⟩:=h.len;have H:=af h;clear h;go_enter func92,ntmps92;go_wp2_with fail;go_loop [3] (fun i=>∃ k:Nat,i=I_ k/\k<=m.length/\TI (∀ j,j<k->dQ (Kx.row m j)=true)) (fun i=>m.length - (intOf i).toNat)
 case atStart=>exact ⟨0,rfl,Av _,fun j hj=>absurd hj (Ax _)⟩
 case round =>
  obtain ⟨k,rfl,hk,hall⟩:=hrel
  by_cases hlt:k<m.length
  ·obtain ⟨b,off,cap',u,e,_,hc,hr⟩:=H.o.at hlt;obtain ⟨rfl,_,rfl⟩:=Za e;clear e;have Hr:=af hr;clear hr
   cases hq:dQ (Kx.row m k) with
   | false =>
    have hF:bW m=false:=by
     cases hm:bW m
     ·rfl
     unfold bW at hm;simp only [AI,A5] at hm;rw [hm.1 _ (Kx.row_mem hlt)] at hq;cases hq
    have HF:=af hF;have Hq:=af ((lh (Kx.row m k)).trans hq);clear hF hq;go_wp2_with (go_at_call 129;refine (oJ _ _ _ Hr.o).mono ?_;rintro e w' ⟨rfl,rfl⟩;rw [Hq.o]);go_ret;exact ⟨ak HF.o.symm,rfl⟩
   | true =>
    have Hk:=af hq;have Hq:=af ((lh (Kx.row m k)).trans hq);clear hq;go_wp2_with (go_at_call 129;refine (oJ _ _ _ Hr.o).mono ?_;rintro e w' ⟨rfl,rfl⟩;rw [Hq.o]);go_round
    case rel =>
     refine ⟨k+1,by go_num,by omega,?_⟩;show ∀ j,j<k+1->_;intro j hj
     by_cases e:j=k
     ·subst e;exact Hk.o
     exact hall.o j (by omega)
    case measure=>simp [intOf];omega
  have hT:m.all dQ=true:=by
   rw [A5];intro x hx;obtain ⟨f,hf,rfl⟩:=Kx.mem_row hx;exact hall.o f (by omega)
  have HT:=af hT;clear hT;go_wp2_with fail;go_ret;refine ⟨ak ?_,rfl⟩;unfold bW;rw [HT.o,Bool.true_and];exact Bool.eq_iff_iff.2 (by simp;omega)
theorem P8 (m:List (List Int)) (f:Int) (v:Value) (w:World) (h:RM w v m) :
  Calls prog 333 #[v,I_ f] w fun e w'=>e=.returned (.bool (bW m&&Kx.bK f 0 11))/\w=w':=by
 have Hv:=af (nz m v w h);clear h
 cases hm:bW m
 ·rw [hm] at Hv;clear hm;go_enter func333,ntmps333;go_wp2_with (go_at_call 92;refine Hv.o.mono ?_;rintro e w' ⟨rfl,rfl⟩);go_ret;exact ⟨by simp,rfl⟩
 rw [hm] at Hv;clear hm;go_enter func333,ntmps333;go_wp2_with (first | (go_at_call 92;refine Hv.o.mono ?_;rintro e w' ⟨rfl,rfl⟩) | (go_at_call 131;refine (dI _ _).mono ?_;rintro e w' ⟨rfl,rfl⟩))
 go_ret;exact ⟨by simp,rfl⟩
def kM (r:(Int×Int×Bool)×Int):Value:=.tuple #[.agg #[I_ r.1.1,I_ r.1.2.1,.bool r.1.2.2],I_ r.2]
theorem uy (m:List (List Int)) (root ad:Nat) (v:Value) (w:World) (h:RM w v m) (hm:bW m=true) (hr:root<12) (ha:ad<64) :
  Calls prog 179 #[v,I_ root,I_ ad] w fun e w'=>e=.returned (kM (Kx.walk m root ad))/\Below w.heap.size w w':=by
 obtain ⟨q,hq⟩:=XP (ad / 16);obtain ⟨r,hr'⟩:=XP (ad / 4 % 4);have hal:=(Below.refl w.heap.size w).alloc aW (.cells #[I_ 0,I_ 0,.bool false] 105);have hb3:TI (∀ c,Below w.heap.size w (w.alloc (.cells c 105))):=fun c=>(Below.refl w.heap.size w).alloc aW _
 obtain ⟨b,off,cap,b',off',cap',rfl,h1,h2,h3,h4⟩:=(h.below hal).word hm hr (a:=q) (by omega);have hq4:(q:Int)<4:=by omega
 have hr4:(r:Int)<4:=by omega
 have Me:(root:Int)<12:=by omega
 have eq:(ad:Int) / 16=(q:Int):=by omega
 have er:(ad:Int) / 4 % 4=(r:Int):=by omega
 cases he:Kx.entry (Kx.word m root q) with
 | none =>
  have hw:Kx.walk m root ad=((0,0,false),1):=by unfold Kx.walk;rw [hq,he]
  have He:=af he;have Hw:=af hw;clear he hw er hq hr' h hal;generalize Kx.word m root q=x at h2 h3 h4 He;go_enter func179,ntmps179;go_wp2_with fail;refine (bM _ _).mono ?_;rintro e w' ⟨rfl,rfl⟩;rw [G7 He.o];go_wp2_with fail;refine af7 (by simp [results,results179,go_sem];rfl) ⟨?_,hb3.o _⟩;rw [Hw.o];rfl
 | some p =>
  obtain ⟨t,a⟩:=p;have ht:=Kx.dU he;obtain ⟨b1,FI,cap1,b2,mP,cap2,e1,g1,g2,g3,g4⟩:=(h.below hal).word hm ht (a:=r) (by omega);obtain ⟨⟨rfl,rfl,_⟩,_,rfl⟩:=Zb e1;clear e1;have UK:(t:Int)<12:=by omega
  cases he2:Kx.entry (Kx.word m t r) with
  | none =>
   have hw:Kx.walk m root ad=((0,0,false),2):=by unfold Kx.walk;rw [hq,he];simp only [hr',he2]
   have He:=af he;have Hw:=af hw;have KD:=af he2;clear he hw he2 hq hr' h hal;generalize Kx.word m root q=x at h2 h3 h4 He;generalize Kx.word m t r=y at g2 g3 g4 KD;go_enter func179,ntmps179;go_wp2_with fail;refine (bM _ _).mono ?_;rintro e w' ⟨rfl,rfl⟩;rw [C_ He.o];go_wp2_with fail;refine (bM _ _).mono ?_;rintro e w' ⟨rfl,rfl⟩;rw [G7 KD.o];go_wp2_with fail;refine af7 (by simp [results,results179,go_sem];rfl) ⟨?_,hb3.o _⟩;rw [Hw.o];rfl
  | some p =>
   obtain ⟨f,c⟩:=p;have hw:Kx.walk m root ad=(((f:Int),((ad % 4:Nat):Int),a&&c),0):=by unfold Kx.walk;rw [hq,he];simp only [hr',he2]
   have He:=af he;have Hw:=af hw;have KD:=af he2;clear he hw he2 hq hr' h hal;generalize Kx.word m root q=x at h2 h3 h4 He;generalize Kx.word m t r=y at g2 g3 g4 KD;go_enter func179,ntmps179;go_wp2_with fail;refine (bM _ _).mono ?_;rintro e w' ⟨rfl,rfl⟩;rw [C_ He.o];go_wp2_with fail;refine (bM _ _).mono ?_;rintro e w' ⟨rfl,rfl⟩;rw [C_ KD.o]
   cases a
   ·go_wp2_with fail;refine af7 (by simp [results,results179,go_sem];rfl) ⟨?_,hb3.o _⟩;rw [Hw.o];simp [kM]
   go_wp2_with fail;refine af7 (by simp [results,results179,go_sem];rfl) ⟨?_,hb3.o _⟩;rw [Hw.o];simp [kM]
theorem oC (xs:List Int) (v:Value) (w:World) (h:RI w v xs):Calls prog 233 #[v] w (mZ w (fU (ax xs))):=by
 obtain ⟨a,cap,rfl⟩:=h.val;have hl:=h.1;have H:=af h;clear h;go_enter func233,ntmps233;go_wp2_with fail;go_loopw [3,4] (fun out i wr=>∃ k:Nat,i=I_ k/\k<=xs.length/\TI (OI wr w.heap.size out (fU (ax (xs.take k))))/\TI (Below w.heap.size w wr)) (fun _ i _=>xs.length - (intOf i).toNat)
 case atStart=>exact ⟨0,rfl,Av _,OI.d_ aW,fZ.alloc aW _⟩
 case round =>
  obtain ⟨k,rfl,hk,ho,hb⟩:=hrel
  by_cases hlt:k<xs.length
  ·obtain ⟨b,off,cap',e,_,hc⟩:=(H.o.below hb.o).at hlt;obtain ⟨rfl,_,rfl⟩:=Za e;clear e;have htk:xs.take (k+1)=xs.take k ++ [xs[k]]:=by rw [A1 hlt]
   generalize xs[k]=x at hc htk;have hnt:ax (xs.take (k+1))=ax (xs.take k) ++ ax [x]:=by rw [htk];simp [ax]
   have hlen:(ax (xs.take k)).length<=k:=As (by unfold ax;exact List.length_filterMap_le _ _) (List.length_take_le _ _);have Ht:=af hnt;have Hlen:=af hlen;clear htk hnt hlen
   cases he:Kx.entry x with
   | none =>
    have hx:ax [x]=[]:=by simp [ax,he]
    have He:=af he;have Hx:=af hx;clear he hx;go_wp2_with fail;refine (bM _ _).mono ?_;rintro e w' ⟨rfl,rfl⟩;rw [G7 He.o];go_wp2_with fail;go_roundw
    case rel=>exact ⟨k+1,by go_num,by omega,by show OI _ _ _ _;rw [Ht.o,Hx.o,List.append_nil];exact ho.o,hb.o⟩
    case measure=>simp [intOf];omega
   | some p =>
    obtain ⟨f,c⟩:=p;have hx:ax [x]=[f]:=by simp [ax,he]
    have He:=af he;have Hx:=af hx;clear he hx;have hsz:=af hb.o.size;have hxl:=af (show (fU (ax (xs.take k))).length+1<=1099511627776 by rw [aQ];have:=Hlen.o;omega);go_wp2_with fail;refine (bM _ _).mono ?_;rintro e w' ⟨rfl,rfl⟩;rw [C_ He.o];go_wp2_with (at_builtin;refine kW rfl _ _ rfl w.heap.size _ (fU (ax (xs.take k))) rfl (ho.o.alloc _) _ 1 1 [(f:Int)] rfl rfl (cell_one_new _ _ _) hxl.o (by simp;exact AE hsz.o) ?_;intro v' w3 ho3 hg3;have jJ:=af ho3;have ql:=af hg3;clear ho3 hg3);go_roundw
    case rel =>
     refine ⟨k+1,by go_num,by omega,?_,?_⟩
     ·show OI _ _ _ _;rw [Ht.o,Hx.o,jv];exact jJ.o
     exact Below.app (hb.o.alloc hb.o.size _) (ho.o.alloc _) ql.o aW (by simp;exact AE hsz.o)
    case measure=>simp [intOf];omega
  have:k=xs.length:=by omega
  subst this;go_wp2_with fail;go_ret;exact ⟨_,rfl,by have:=ho.o;rw [Al] at this;exact this,hb.o⟩
theorem BH (xs:List Int) (x:Int) (v:Value) (w:World) (h:RI w v xs):Calls prog 284 #[v,I_ x] w fun e w'=>e=.returned (.bool (F6 xs x))/\w=w':=by
 obtain ⟨a,cap,rfl⟩:=h.val;have hl:=h.1;have H:=af h;clear h;go_enter func284,ntmps284;go_wp2_with fail;go_loop [5] (fun i=>∃ k:Nat,i=I_ k/\k<=xs.length/\TI (∀ j (hj:j<xs.length),j<k->xs[j]≠x)) (fun i=>xs.length - (intOf i).toNat)
 case atStart=>exact ⟨0,rfl,Av _,fun j _ hj=>absurd hj (Ax _)⟩
 case round =>
  obtain ⟨k,rfl,hk,hall⟩:=hrel
  by_cases hlt:k<xs.length
  ·obtain ⟨b,off,cap',e,_,hc⟩:=H.o.at hlt;obtain ⟨rfl,_,rfl⟩:=Za e;clear e
   by_cases hx:xs[k]=x
   ·have HF:=af (show F6 xs x=true by unfold F6;rw [List.contains_iff_mem,<-hx];exact A4 hlt);rw [hx] at hc;clear hx;go_wp2_with fail;go_ret;exact ⟨ak HF.o.symm,rfl⟩
   have hxb:(xs[k]==x)=false:=by simpa using hx
   have Hx:=af hx;clear hx;generalize hy:xs[k]=y at hc hxb;have Hy:=af hy;clear hy;go_wp2_with fail;go_round
   case rel =>
    refine ⟨k+1,by go_num,by omega,?_⟩;show ∀ j (hj:j<xs.length),j<k+1->_;intro j hj hjk
    by_cases e:j=k
    ·subst e;exact Hx.o
    exact hall.o j hj (by omega)
   case measure=>simp [intOf];omega
  have HF:=af (show F6 xs x=false by
   unfold F6;rw [Bool.eq_false_iff,ne_eq,List.contains_iff_mem];intro hm;obtain ⟨j,hj,e⟩:=A3 hm;exact hall.o j hj (by omega) e)
  go_wp2_with fail;go_ret;exact ⟨ak HF.o.symm,rfl⟩
theorem qA (p:Nat->Bool) (k:Nat):(Ao (k+1)).filter p=(Ao k).filter p ++ if p k then [k] else []:=by
 rw [List.range_succ,List.filter_append];congr 1
 cases h:p k <;> simp [h]
theorem tu (l:List Nat) (v:Value) (w:World) (h:RI w v (fU l)):Calls prog 230 #[v] w (mZ w (fU (fE l))):=by
 obtain ⟨a,cap,rfl⟩:=h.val;have hl:=h.1;have H:=af h;clear h;go_enter func230,ntmps230;go_wp2_with fail;go_loopw [3,4] (fun out i wr=>∃ k:Nat,i=I_ k/\k<=12/\TI (OS iR 1 3 wr w.heap.size out (fU ((Ao k).filter fun f=>l.contains f)))/\TI (Below w.heap.size w wr)) (fun _ i _=>12 - (intOf i).toNat)
 case atStart=>exact ⟨0,rfl,Av _,OS.d_ aW,fZ.alloc aW _⟩
 case round =>
  obtain ⟨k,rfl,hk,ho,hb⟩:=hrel
  by_cases hlt:k<12
  ·have hs:=congrArg fU (qA (fun f=>l.contains f) k);rw [jv] at hs;have hlen:(fU ((Ao k).filter fun f=>l.contains f)).length<=k:=by
    rw [aQ];exact As (Ab _ _) (by simp)
   have Hlen:=af hlen;clear hlen
   cases hq:l.contains k with
   | false =>
    rw [hq] at hs;simp only [Bool.false_eq_true,if_false,NJ,List.append_nil] at hs;have Hs:=af hs;have Hq:=af ((yx l k).trans hq);clear hs hq;go_wp2_with fail;refine (BH (fU l) _ _ _ (H.o.below hb.o)).mono ?_;rintro e w' ⟨rfl,rfl⟩;rw [Hq.o];go_wp2_with fail;go_roundw
    case rel=>exact ⟨k+1,by go_num,by omega,by show OS _ _ _ _ _ _ _;rw [Hs.o];exact ho.o,hb.o⟩
    case measure=>simp [intOf];omega
   | true =>
    rw [hq] at hs;simp only [if_true] at hs;have Hs:=af hs;have Hq:=af ((yx l k).trans hq);clear hs hq;have hsz:=af hb.o.size;have hsz2:=af (show w.heap.size<=(wr.alloc (.cells #[I_ (k:Int)] 3)).heap.size by simp;exact AE hsz.o);have hR:=af (RS.one (f:=iR) (sz:=1) (k:Int) #[I_ (k:Int)] rfl wr 3);have hL:=af (show (fU ((Ao k).filter fun f=>l.contains f)).length+[(k:Int)].length<=1099511627776 by have:=Hlen.o;simp at this ⊢;omega)
    generalize (fU ((Ao k).filter fun f=>l.contains f))=ys at ho hL Hs
    go_wp2_with fail;refine (BH (fU l) _ _ _ (H.o.below hb.o)).mono ?_;rintro e w' ⟨rfl,rfl⟩;rw [Hq.o];go_wp2_with (at_builtin;refine aV wK rfl _ _ rfl w.heap.size _ ys rfl (ho.o.alloc _) _ [(k:Int)] rfl hR.o hL.o hsz2.o ?_;intro v' w3 ho3 hg3 hn3;have jJ:=af ho3;have ql:=af hg3;clear ho3 hg3 hn3);go_roundw
    case rel =>
     refine ⟨k+1,by go_num,by omega,?_,?_⟩
     ·show OS _ _ _ _ _ _ _;rw [Hs.o];exact jJ.o
     exact Below.dN (hb.o.alloc hb.o.size _) (ho.o.alloc _) ql.o aW hsz2.o
    case measure=>simp [intOf];omega
  have:k=12:=by omega
  subst this;go_wp2_with fail;go_ret;exact ⟨_,rfl,ho.o.oi,hb.o⟩
theorem sF (m:List (List Int)) (root:Nat) (v:Value) (w:World) (h:RM w v m) (hm:bW m=true) (hr:root<12) :
  Calls prog 229 #[v,I_ root] w (mZ w (fU (Kx.tables m root))):=by
 obtain ⟨b,off,cap,u,rfl,hc,m_⟩:=h.row hm hr;have Me:(root:Int)<12:=by omega
 have Hr:=af m_;clear m_ h;go_enter func229,ntmps229;go_wp2_with fail;refine (oC _ _ _ Hr.o).mono ?_;rintro e w1 ⟨u1,rfl,ho,hb⟩;have Ho:=af ho;have Hb:=af hb;clear ho hb;go_wp2_with fail;refine (tu _ _ _ Ho.o.ri).mono ?_;rintro e w2 ⟨u2,rfl,ho,hb⟩;have l7:=af ho;have Hb2:=af hb;clear ho hb;go_wp2_with fail;go_ret;exact ⟨_,rfl,l7.o.mono Hb.o.size,Hb.o.trans (Hb2.o.mono Hb.o.size)⟩
def Sep (a b:Value):Prop:=a.ownBlock=none\/a.ownBlock≠b.ownBlock
theorem Sep.grow {α:Type} {f:α->List Value} {sz:Nat} {e:TypeId} {w:World} {base:Nat} {a v v':Value} {l:List α} (h:OS f sz e w base a l) (hn:Sep a v) (hv:v'.ownBlock=v.ownBlock\/v'.ownBlock=some w.heap.size):Sep a v':=by
 rcases hv with hv | hv
 ·unfold Sep;rw [hv];exact hn
 cases ha:a.ownBlock with
 | none=>exact .inl ha
 | some k =>
  refine .inr fun e=>?_
  have:=(h.lt k ha).2
  rw [ha,hv] at e;simp at e;omega
theorem Sep.later {α β:Type} {f:α->List Value} {f':β->List Value} {sz sz':Nat} {e e':TypeId} {w w':World} {base base':Nat} {a v:Value} {l:List α} {l':List β} (h:OS f sz e w base a l) (h':OS f' sz' e' w' base' v l') (hb:w.heap.size<=base'):Sep v a:=by
 cases hv:v.ownBlock with
 | none=>exact .inl hv
 | some k =>
  refine .inr fun e=>?_
  rw [hv] at e;have:=(h.lt k e.symm).2;have:=(h'.lt k hv).1;omega
theorem F7 (m:List (List Int)) (root:Nat) (v:Value) (w:World) (h:RM w v m) (hm:bW m=true) (hr:root<12) :
  Calls prog 231 #[v,I_ root] w (mZ w (fU (fO m root))):=by
 have hb0:=(Below.refl w.heap.size w).alloc aW (.cells #[] 3);have Hh:=af h;have Ht:=af (sF m root v _ (h.below hb0) hm hr);have H0:=af (OS.d_ (f:=iR) (sz:=1) (e:=3) (AD w.heap.size));have Hb0:=af hb0;obtain ⟨h12,_⟩:=mem_row hm hr;obtain ⟨_,a,cap,rfl,_,_⟩:=h.len;obtain ⟨ts,hts⟩:=XP (Kx.tables m root);rw [hts] at Ht;have Hts:=af (show fO m root=fE (ts.flatMap fun t=>ax (Kx.row m t)) by rw [<-hts];rfl)
 have Js:=af (show (∀ t ∈ ts,t<12)/\ts.length<=12 by
  rw [<-hts];exact ⟨fun t ht=>kE (lD.1 ht),As (Ab _ _) (by simp)⟩)
 have fJ:=af h12;clear hts h hb0 h12;go_enter func231,ntmps231;go_wp2_with fail;refine Ht.o.mono ?_;rintro e w1 ⟨u1,rfl,ho,hb⟩;have JG:=af (show Sep u1 (A0 (some ⟨w.heap.size,0,none⟩) 0 0) from Sep.later H0.o ho.os aW);have Zk:=af (H0.o.below hb);have Hb1:=af (Hb0.o.trans (hb.mono Hb0.o.size));have Ho:=af ho.os;clear ho hb H0 Hb0 Ht;obtain ⟨a1,c1,rfl,_,_⟩:=Ho.o.rs.val;obtain ⟨n,hn⟩:=XP ((fU ts).length);have Hn:=af hn;have Xv:n<=12:=by rw [<-hn,aQ];exact Js.o.2
 rw [hn] at Ho JG ⊢;clear hn;go_wp2_with fail;go_loopw [5,7] (fun out i wr=>∃ k:Nat,i=I_ k/\k<=n/\TI (OS iR 1 3 wr w.heap.size out (fU ((ts.take k).flatMap fun t=>ax (Kx.row m t))))/\TI (((ts.take k).flatMap fun t=>ax (Kx.row m t)).length<=4*k)/\TI (∃ b,OS iR 1 3 wr b (A0 a1 n c1) (fU ts))/\TI (Sep (A0 a1 n c1) out)/\TI (Below w.heap.size w wr)) (fun _ i _=>n - (intOf i).toNat)
 case atStart=>exact ⟨0,rfl,Av _,Zk.o,by simp [TI],⟨_,Ho.o⟩,JG.o,Hb1.o⟩
 case round =>
  clear Zk JG Hb1 Ho;obtain ⟨k,rfl,hk,ho,hlen,hts,hsep,hb⟩:=hrel
  by_cases hlt:k<n
  ·obtain ⟨bt,QE⟩:=hts.o;have hkt:k<ts.length:=by have:=Hn.o;rw [aQ] at this;omega
   have Uk:k<(fU ts).length:=by rw [aQ];exact hkt
   obtain ⟨b2,mP,cap2,e,_,hc⟩:=QE.rs.at Uk;have hc0:=hc 0 _ rfl;rw [Hn.o] at e;obtain ⟨rfl,_,rfl⟩:=Za e;clear e;have htk:ts.take (k+1)=ts.take k ++ [ts[k]]:=by rw [A1 hkt]
   have QF:=Js.o.1 _ (A4 hkt);rw [nI ts k Uk hkt,Nat.mul_one,AG] at hc0;generalize ts[k]=t at hc0 htk QF;obtain ⟨b3,TU,cap3,u3,e,hc3,hr3⟩:=(Hh.o.below hb.o).row hm QF;rw [<-fJ.o] at e;obtain ⟨rfl,_,rfl⟩:=Za e;clear e;have hw4:=(mem_row hm QF).2.1;have hfl:(ts.take (k+1)).flatMap (fun t=>ax (Kx.row m t))=(ts.take k).flatMap (fun t=>ax (Kx.row m t)) ++ ax (Kx.row m t):=by rw [htk];simp
   have hn4:(ax (Kx.row m t)).length<=4:=by rw [<-hw4];unfold ax;exact List.length_filterMap_le _ _
   have Ub:=af hfl;have Zl:=af hn4;have Ci:=af hr3;have H3:=af QE;have UK:(t:Int)<(m.length:Int):=by rw [fJ.o];omega
   clear htk hfl hn4 hr3 hts QE hw4 hc;generalize (ts.take k).flatMap (fun t=>ax (Kx.row m t))=ys at ho hlen Ub
   go_wp2_with fail;refine (oC _ _ _ Ci.o).mono ?_;rintro e w2 ⟨u4,rfl,iV,hb4⟩;have kH:=af iV.os;have l7:=af (ho.o.below hb4);have Zm:=af (H3.o.below hb4);have Hb2:=af (hb.o.trans (hb4.mono hb.o.size));have uf:=af (As hb.o.size hb4.size);have HL:=af (show (fU ys).length+(fU (ax (Kx.row m t))).length<=1099511627776 by rw [aQ,aQ];have:=hlen.o;have:=Zl.o;omega);clear iV hb4;go_wp2_with (at_builtin;refine aV wK rfl _ _ rfl w.heap.size _ (fU ys) rfl l7.o _ (fU (ax (Kx.row m t))) rfl kH.o.rs HL.o uf.o ?_;intro v' w3 ho3 hg3 hn3;have jJ:=af ho3;have ql:=af hg3;have Hn3:=af hn3;clear ho3 hg3 hn3);go_roundw
   case rel =>
    refine ⟨k+1,by go_num,by omega,?_,?_,⟨_,Zm.o.kept ql.o hsep.o⟩,Sep.grow Zm.o hsep.o Hn3.o,Below.dN Hb2.o l7.o ql.o aW uf.o⟩
    ·show OS _ _ _ _ _ _ _;rw [Ub.o,jv];exact jJ.o
    show _<=_;rw [Ub.o,A2];have:=hlen.o;have:=Zl.o;omega
   case measure=>simp [intOf];omega
  have hkn:k=n:=by omega
  subst hkn;have htt:ts.take k=ts:=List.take_of_length_le (by have:=Hn.o;rw [aQ] at this;omega);have ho':=ho.o;rw [htt] at ho';have Ho:=af ho'.oi.ri;clear ho' htt;go_wp2_with fail;refine (tu _ _ _ Ho.o).mono ?_;rintro e w2 ⟨u2,rfl,ho2,hb2⟩;have l7:=af ho2;have Hb2:=af hb2;clear ho2 hb2;go_wp2_with fail;go_ret;refine ⟨_,rfl,?_,hb.o.trans (Hb2.o.mono hb.o.size)⟩;rw [Hts.o];exact l7.o.mono hb.o.size
theorem kZ (m:List (List Int)) (root:Int) (v:Value) (w:World) (h:RM w v m) (hm:bW m=true) (hr:root<=11) :
  Calls prog 175 #[v,I_ root] w (mZ w (fU (Kx.reach m root))):=by
 by_cases h0:root<0
 ·have hw:=af (show Kx.reach m root=[] by unfold Kx.reach;rw [if_pos h0]);obtain ⟨_,a,cap,rfl,_,_⟩:=h.len;go_enter func175,ntmps175;go_wp2_with fail;go_ret;refine ⟨_,rfl,?_,fZ.alloc aW _⟩;rw [hw.o];exact OI.d_ aW
 obtain ⟨r,rfl⟩:=AH (show 0<=root by omega);have D_:r<12:=by omega
 have hw:=af (show Kx.reach m (r:Int)=fE (r :: (Kx.tables m r ++ fO m r)) by unfold Kx.reach;rw [if_neg h0];simp);obtain ⟨w0,hw0⟩:=XP (w.alloc (.cells #[I_ (r:Int)] 3));have hb0:Below w.heap.size w w0:=hw0 ▸ (Below.refl w.heap.size w).alloc aW _;have H0:=af (show OS iR 1 3 w0 w.heap.size (A0 (some ⟨w.heap.size,0,none⟩) 1 1) [(r:Int)] from hw0 ▸ OS.lit (l:=[(r:Int)]) aW _ rfl rfl (by simp));have Ht:=af (sF m r v w0 (h.below hb0) hm D_);have Hh:=af h;have Hb0:=af hb0;have Hl:=af (show (Kx.tables m r).length<=12/\(fO m r).length<=12 from ⟨As (Ab _ _) (by simp),As (Ab _ _) (by simp)⟩);clear h hb0;go_enter func175,ntmps175;go_wp2_with fail;refine Ht.o.mono ?_;rintro e w1 ⟨u1,rfl,ho,hb⟩
 have O_:=af ho.os;have H1:=af (H0.o.below hb);have Hb1:=af (Hb0.o.trans (hb.mono Hb0.o.size));have HL:=af (show [(r:Int)].length+(fU (Kx.tables m r)).length<=1099511627776 by rw [aQ];have:=Hl.o;simp;omega);clear ho hb H0 Hb0 hw0;go_wp2_with (at_builtin;refine aV wK rfl _ _ rfl w.heap.size _ [(r:Int)] rfl H1.o _ (fU (Kx.tables m r)) rfl O_.o.rs HL.o Hb1.o.size ?_;intro v' w3 ho3 hg3 hn3;have jJ:=af ho3;have Hb3:=af (Below.dN Hb1.o H1.o hg3 aW Hb1.o.size);clear ho3 hg3 hn3);refine (F7 m r v _ (Hh.o.below Hb3.o) hm D_).mono ?_;rintro e w4 ⟨u4,rfl,iV,hb4⟩;have kH:=af iV.os;have H4:=af (jJ.o.below hb4);have Hb4:=af (Hb3.o.trans (hb4.mono Hb3.o.size))
 have HL2:=af (show ([(r:Int)] ++ fU (Kx.tables m r)).length+(fU (fO m r)).length<=1099511627776 by rw [A2,aQ,aQ];have:=Hl.o;simp;omega);clear iV hb4;go_wp2_with (at_builtin;refine aV wK rfl _ _ rfl w.heap.size _ ([(r:Int)] ++ fU (Kx.tables m r)) rfl H4.o _ (fU (fO m r)) rfl kH.o.rs HL2.o Hb4.o.size ?_;intro v5 w5 zK hg5 hn5;have OY:=af zK;have Hb5:=af (Below.dN Hb4.o H4.o hg5 aW Hb4.o.size);clear zK hg5 hn5);have H6:=af (show RI w5 v5 (fU (r :: (Kx.tables m r ++ fO m r))) by
  have:=OY.o.oi.ri
  rw [List.append_assoc,<-jv] at this;exact this)
 refine (tu _ _ _ H6.o).mono ?_;rintro e w6 ⟨u6,rfl,yI,hb6⟩;have Ri:=af yI;have Hb6:=af hb6;clear yI hb6;go_wp2_with fail;go_ret;refine ⟨_,rfl,?_,Hb5.o.trans (Hb6.o.mono Hb5.o.size)⟩;rw [hw.o];exact Ri.o.mono Hb5.o.size
theorem toList_data (s:ByteArray):s.toList=s.data.toList:=Go.ByteArray.toList_eq s
theorem uJ (s:ByteArray):s.size=s.data.toList.length:=by show s.data.size=_;simp
theorem wW {a b:Kx.Str}:((b.extract 0 a.size).toList==a.toList)=Kx.pre a b:=by
 rw [toList_data,toList_data,Lib.extract_data];unfold Kx.pre;rw [AK,beq_iff_eq,List.isPrefixOf_iff_prefix,List.prefix_iff_eq_take];rw [<-uJ];simp;exact eq_comm
theorem D7 {a b:Kx.Str} (h:¬ a.size<=b.size):Kx.pre a b=false:=by
 unfold Kx.pre;rw [Bool.eq_false_iff,ne_eq,List.isPrefixOf_iff_prefix];intro hp;have:=hp.length_le;rw [<-uJ,<-uJ] at this;omega
theorem mY (a b:Kx.Str) (w:World):Calls prog 199 #[.string a,.string b] w fun e w'=>e=.returned (.bool (Kx.pre a b))/\w=w':=by
 by_cases h:a.size<=b.size
 ·have H:=af (wW (a:=a) (b:=b));go_enter func199,ntmps199;go_wp2_with fail;go_ret;exact ⟨ak H.o,rfl⟩
 have H:=af (D7 h);go_enter func199,ntmps199;go_wp2_with fail;go_ret;exact ⟨ak H.o.symm,rfl⟩
theorem mO (l:List Kx.Str) (g:Kx.Str) (v:Value) (w:World) (h:dK w v l):Calls prog 130 #[v,.string g] w fun e w'=>e=.returned (.bool (Kx.may l g))/\w=w':=by
 obtain ⟨a,cap,rfl,_,_⟩:=RS.val h;have hl:=h.1;have H:=af h;clear h;go_enter func130,ntmps130;go_wp2_with fail;go_loop [5] (fun i=>∃ k:Nat,i=I_ k/\k<=l.length/\TI (∀ j (hj:j<l.length),j<k->Kx.pre l[j] g=false)) (fun i=>l.length - (intOf i).toNat)
 case atStart=>exact ⟨0,rfl,Av _,fun j _ hj=>absurd hj (Ax _)⟩
 case round =>
  obtain ⟨k,rfl,hk,hall⟩:=hrel
  by_cases hlt:k<l.length
  ·obtain ⟨b,off,cap',e,_,hc⟩:=dK.at H.o hlt;obtain ⟨rfl,_,rfl⟩:=Za e;clear e
   cases hq:Kx.pre l[k] g with
   | true =>
    have HF:=af (show Kx.may l g=true by unfold Kx.may;rw [An];exact ⟨_,A4 hlt,hq⟩);have Hq:=af hq;clear hq;generalize l[k]=s at hc Hq;go_wp2_with fail;refine (mY _ _ _).mono ?_;rintro e w' ⟨rfl,rfl⟩;rw [Hq.o];go_wp2_with fail;go_ret;exact ⟨ak HF.o.symm,rfl⟩
   | false =>
    have Hk:=af hq;have Hq:=af hq;clear hq;generalize l[k]=s at hc Hq;go_wp2_with fail;refine (mY _ _ _).mono ?_;rintro e w' ⟨rfl,rfl⟩;rw [Hq.o];go_wp2_with fail;go_round
    case rel =>
     refine ⟨k+1,by go_num,by omega,?_⟩;show ∀ j (hj:j<l.length),j<k+1->_;intro j hj hjk
     by_cases e:j=k
     ·subst e;exact Hk.o
     exact hall.o j hj (by omega)
    case measure=>simp [intOf];omega
  have HF:=af (show Kx.may l g=false by
   unfold Kx.may;rw [Bool.eq_false_iff,ne_eq,An];rintro ⟨s,hs,hp⟩;obtain ⟨j,hj,rfl⟩:=A3 hs;rw [hall.o j hj (by omega)] at hp;cases hp)
  go_wp2_with fail;go_ret;exact ⟨ak HF.o.symm,rfl⟩
def letter (b:UInt8):Bool:=97<=b&&b<=99
theorem yP (b:UInt8):letter b=true↔97<=(b.toNat:Int)/\(b.toNat:Int)<=99:=by
 unfold letter;simp only [AI,decide_eq_true_eq,UInt8.le_iff_toNat_le,show (97:UInt8).toNat=97 from rfl,show (99:UInt8).toNat=99 from rfl];omega
theorem pK (s:Kx.Str):bT s=(s.data.toList.all letter&&decide (s.size<=4)):=rfl
theorem IY (s:ByteArray) {k:Nat} (h:k<s.size):s[k] ∈ s.data.toList:=by
 have h':k<s.data.size:=h;show s.data[k] ∈ s.data.toList;exact Array.getElem_mem_toList h'
theorem IZ (s:ByteArray) {b:UInt8} (h:b ∈ s.data.toList):∃ k,∃ h:k<s.size,s[k]=b:=by
 obtain ⟨k,hk,e⟩:=A3 h;have hk':k<s.size:=by rw [uJ];exact hk
 refine ⟨k,hk',?_⟩;have h1:s[k]=s.data[k]'hk':=rfl;rw [h1];simpa using e
theorem bY (s:Kx.Str) (w:World) (hs:s.size<=9223372036854775807):Calls prog 228 #[.string s] w fun e w'=>e=.returned (.bool (bT s))/\w=w':=by
 go_enter func228,ntmps228;go_wp2_with fail;go_loop [3] (fun i=>∃ k:Nat,i=I_ k/\k<=s.size/\TI (∀ j (hj:j<s.size),j<k->letter s[j]=true)) (fun i=>s.size - (intOf i).toNat)
 case atStart=>exact ⟨0,rfl,Av _,fun j _ hj=>absurd hj (Ax _)⟩
 case round =>
  obtain ⟨k,rfl,hk,hall⟩:=hrel
  by_cases hlt:k<s.size
  ·have Le:=af (show letter s[k]=false->bT s=false from fun h=>by
    rw [pK,AJ];left;rw [A6];exact ⟨_,IY s hlt,by rw [h];simp⟩)
   have Hi:=af (yP s[k])
   by_cases h1:(s[k].toNat:Int)<97
   ·have HF:=af (Le.o (by rw [Bool.eq_false_iff,ne_eq,Hi.o];omega));clear Le Hi;go_wp2_with fail;go_ret;exact ⟨ak HF.o.symm,rfl⟩
   by_cases h2:99<(s[k].toNat:Int)
   ·have HF:=af (Le.o (by rw [Bool.eq_false_iff,ne_eq,Hi.o];omega));clear Le Hi;go_wp2_with fail;go_ret;exact ⟨ak HF.o.symm,rfl⟩
   have Hk:=af (Hi.o.2 (by omega));clear Le Hi;go_wp2_with fail;go_round
   case rel =>
    refine ⟨k+1,by go_num,by omega,?_⟩;show ∀ j (hj:j<s.size),j<k+1->_;intro j hj hjk
    by_cases e:j=k
    ·subst e;exact Hk.o
    exact hall.o j hj (by omega)
   case measure=>simp [intOf];omega
  have HT:=af (show s.data.toList.all letter=true by
   rw [A5];intro b hb;obtain ⟨j,hj,rfl⟩:=IZ s hb;exact hall.o j hj (by omega))
  go_wp2_with fail;go_ret;refine ⟨ak ?_,rfl⟩;rw [pK,HT.o,Bool.true_and];exact Bool.eq_iff_iff.2 (by simp;omega)
def Qt (v:Value) (w:World) (e:Ending) (w':World):Prop:=e=.returned v/\∃ n,w'=w.drewN n
theorem Qt.below {v:Value} {w:World} {e:Ending} {w':World} (h:Qt v w e w'):e=.returned v/\Below w.heap.size w w':=by
 obtain ⟨h1,n,rfl⟩:=h;exact ⟨h1,⟨rfl,rfl,rfl,AD _,fun _ _=>rfl⟩⟩
theorem RS.drewN {α:Type} {f:α->List Value} {sz:Nat} {w:World} {v:Value} {l:List α} (h:RS f sz w v l) (n:Nat):RS f sz (w.drewN n) v l:=h
theorem pM:∀ (l:List Kx.Str) (k:Nat),(∀ j (hj:j+1<l.length),j+1<k->Kx.lt l[j] l[j+1]=true)->l.length<=k->dR l=true
 | [],_,_,_=>rfl
 | [_],_,_,_=>rfl
 | a :: b :: l,k,h,hk=>by
  simp only [dR,AI];refine ⟨h 0 (by simp) (by simp at hk;omega),pM (b :: l) (k - 1) (fun j hj hjk=>?_) (by simp at hk ⊢;omega)⟩;have:=h (j+1) (by simp at hj ⊢;omega) (by omega);simpa using this
theorem qL:∀ (l:List Kx.Str) (j:Nat) (hj:j+1<l.length),Kx.lt l[j] l[j+1]=false->dR l=false
 | a :: b :: l,0,_,h=>by simp only [dR,AJ];exact .inl (by simpa using h)
 | a :: b :: l,j+1,hj,h=>by
  simp only [dR,AJ];exact .inr (qL (b :: l) j (by simpa using hj) (by simpa using h))
theorem di (l:List Kx.Str) (v:Value) (w:World) (h:dK w v l) (hsz:∀ s ∈ l,s.size<=9223372036854775807):Calls prog 173 #[v] w (Qt (.bool (aS l)) w):=by
 obtain ⟨a,cap,rfl,_,_⟩:=RS.val h;have hl:=h.1;have H:=af h;clear h;have uf:=af hsz;clear hsz;go_enter func173,ntmps173;go_wp2_with fail;go_loopw [3] (fun i wr=>∃ k:Nat,i=I_ k/\k<=l.length/\TI (∀ j (hj:j<l.length),j<k->bT l[j]=true)/\TI (∀ j (hj:j+1<l.length),j+1<k->Kx.lt l[j] l[j+1]=true)/\TI (∃ n,wr=w.drewN n)) (fun i _=>l.length - (intOf i).toNat)
 case atStart=>exact ⟨0,rfl,Av _,fun j _ hj=>absurd hj (Ax _),fun j _ hj=>absurd hj (Ax _),⟨0,rfl⟩⟩
 case round =>
  obtain ⟨k,rfl,hk,hall,hasc,hw⟩:=hrel;have Hr:=af (show dK wr (A0 a l.length cap) l by obtain ⟨n,e⟩:=hw.o;rw [e];exact RS.drewN H.o n);have Hw:=af (show ∀ n,∃ m,wr.drewN n=w.drewN m from fun n=>by obtain ⟨m,e⟩:=hw.o;exact ⟨m+n,by rw [e,World.drewN_drewN]⟩)
  by_cases hlt:k<l.length
  ·obtain ⟨b,off,cap',e,_,hc⟩:=dK.at Hr.o hlt;have D8:∀ hk0:0<k,wr.cell? ⟨b,off+(k - 1),none⟩=some (.string (l[k - 1]'(by omega))):=fun hk0=>by
    obtain ⟨b',off',cap'',e',_,hc'⟩:=dK.at Hr.o (k:=k - 1) (by omega);rw [e] at e';obtain ⟨⟨rfl,rfl,_⟩,_⟩:=Zb e';clear e';exact hc'
   have KA:=af D8;clear D8;obtain ⟨rfl,_,rfl⟩:=Za e;clear e;have kQ:(k:Int)<(l.length:Int):=by omega
   have Hs:=af (uf.o _ (A4 hlt))
   cases hq:bT l[k] with
   | false =>
    have HF:=af (show aS l=false by
     unfold aS;rw [AJ,AJ,A6];exact .inl (.inl ⟨_,A4 hlt,by rw [hq];simp⟩))
    have Hq:=af hq;clear hq;generalize l[k]=s at hc Hq Hs;go_wp2_with fail;go_quiet ((go_at_call 228;exact Calls.quiet_of_same ((bY _ _ Hs.o).mono fun _ _ ⟨he,hw⟩=>⟨by rw [he,Hq.o],hw.symm⟩)))
    go_wp2_with fail;go_ret;exact ⟨ak HF.o.symm,Hw.o _⟩
   | true =>
    have Hk:=af hq;have Hq:=af hq;clear hq
    by_cases hk0:k=0
    ·have hg:decide (0<k)=false:=by simp;omega
     have oV:=af hk0;clear hk0;generalize l[k]=s at hc Hq Hs;go_wp2_with fail;go_quiet ((go_at_call 228;exact Calls.quiet_of_same ((bY _ _ Hs.o).mono fun _ _ ⟨he,hw⟩=>⟨by rw [he,Hq.o],hw.symm⟩)))
     go_wp2_with fail;go_roundw
     case rel =>
      refine ⟨k+1,by go_num,by omega,?_,?_,Hw.o _⟩
      ·show ∀ j (hj:j<l.length),j<k+1->_
       intro j hj hjk;have:=oV.o;obtain rfl:j=k:=by omega
       exact Hk.o
      show ∀ j (hj:j+1<l.length),j+1<k+1->_
      intro j hj hjk;have:=oV.o;omega
     case measure=>simp [intOf];omega
    have hp:=KA.o (by omega);have hg:decide (0<k)=true:=by simp;omega
    have eI:IntKind.i64.wrap ((k:Int) - 1)=((k - 1:Nat):Int):=by rw [IntWalk.i64_in _ (by omega)];omega
    have hk1:((k - 1:Nat):Int)<(l.length:Int):=by omega
    have KC:k - 1+1<l.length:=by omega
    have ek:k - 1+1=k:=by omega
    cases hq2:Kx.lt (l[k - 1]'(by omega)) l[k] with
    | false =>
     have HF:=af (show aS l=false by
      unfold aS;rw [AJ,AJ];exact .inl (.inr (qL l (k - 1) KC (by simp only [ek];exact hq2))))
     unfold Kx.lt at hq2;generalize l[k - 1]'(by omega)=s' at hp hq2;generalize l[k]=s at hc Hq Hs hq2;clear ek KC;go_wp2_with fail;go_quiet ((go_at_call 228;exact Calls.quiet_of_same ((bY _ _ Hs.o).mono fun _ _ ⟨he,hw⟩=>⟨by rw [he,Hq.o],hw.symm⟩)))
     go_wp2_with fail;go_ret;exact ⟨ak HF.o.symm,Hw.o _⟩
    | true =>
     have WZ:=af hq2;unfold Kx.lt at hq2;generalize l[k - 1]'(by omega)=s' at hp hq2;generalize l[k]=s at hc Hq Hs hq2;have Tz:=af ek;clear ek;go_wp2_with fail;go_quiet ((go_at_call 228;exact Calls.quiet_of_same ((bY _ _ Hs.o).mono fun _ _ ⟨he,hw⟩=>⟨by rw [he,Hq.o],hw.symm⟩)))
     go_wp2_with fail;go_roundw
     case rel =>
      refine ⟨k+1,by go_num,by omega,?_,?_,Hw.o _⟩
      ·show ∀ j (hj:j<l.length),j<k+1->_
       intro j hj hjk
       by_cases e:j=k
       ·subst e;exact Hk.o
       exact hall.o j hj (by omega)
      show ∀ j (hj:j+1<l.length),j+1<k+1->_
      intro j hj hjk
      by_cases e:j=k - 1
      ·subst e;have e2:=Tz.o;simp only [e2];exact WZ.o
      exact hasc.o j hj (by omega)
     case measure=>simp [intOf];omega
  have HT:=af (show aS l=decide (l.length<=6) by
   unfold aS;have h1:l.all bT=true:=by
    rw [A5];intro s hs;obtain ⟨j,hj,rfl⟩:=A3 hs;exact hall.o j hj (by omega)
   rw [h1,pM l k hasc.o (by omega)];simp)
  go_wp2_with fail;go_ret;refine ⟨ak ?_,hw.o⟩;rw [HT.o];exact Bool.eq_iff_iff.2 (by simp;omega)
theorem Bc (x:aG) (w:World) (hs:x.guard.size<=9223372036854775807):Calls prog 170 #[kN x] w fun e w'=>e=.returned (.bool (cZ x))/\Below w.heap.size w w':=by
 have hb:=af (show Below w.heap.size w (w.alloc (.cells #[I_ x.kind,.string x.guard,I_ x.refs] 98)) from fZ.alloc aW _);unfold kN
 by_cases h0:x.kind=0
 ·have hk:(x.kind==0)=true:=by simpa using h0
  have hv:=af (show cZ x=decide (x=aG.zero) by unfold cZ;rw [if_pos h0];rfl);have hz:=af (show x=aG.zero↔x.guard.toList=[]/\x.refs=0 by
   constructor
   ·intro e;rw [e];exact ⟨by decide +kernel,rfl⟩
   rintro ⟨e1,e2⟩;have:x.guard=AN:=Kx.toList_inj (by rw [e1];decide +kernel)
   cases x;simp_all [aG.zero])
  clear h0
  by_cases hg:x.guard.toList=[]
  ·by_cases hr:x.refs=0
   ·have hF:=af (show cZ x=true by rw [hv.o,decide_eq_true_eq,hz.o];exact ⟨hg,hr⟩);go_enter func170,ntmps170;go_wp2_with fail;go_ret;exact ⟨ak hF.o.symm,by simpa [hr] using hb.o⟩
   have hF:=af (show cZ x=false by rw [hv.o,decide_eq_false_iff_not,hz.o];exact fun h=>hr h.2);go_enter func170,ntmps170;go_wp2_with fail;go_ret;exact ⟨ak hF.o.symm,hb.o⟩
  have hF:=af (show cZ x=false by rw [hv.o,decide_eq_false_iff_not,hz.o];exact fun h=>hg h.1);go_enter func170,ntmps170;go_wp2_with fail;go_ret;exact ⟨ak hF.o.symm,hb.o⟩
 have hk:(x.kind==0)=false:=by simpa using h0
 have hv:=af (show cZ x=(Kx.bK x.kind 1 3&&bT x.guard&&Kx.bK x.refs 0 50) by unfold cZ;rw [if_neg h0]);clear h0;go_enter func170,ntmps170;go_wp2_with fail;refine (dJ _ _ _ _).mono ?_;rintro e w' ⟨rfl,rfl⟩
 cases h1:Kx.bK x.kind 1 3
 ·rw [h1] at hv;clear h1;go_wp2_with fail;go_ret;exact ⟨ak (by rw [hv.o];rfl),hb.o⟩
 rw [h1] at hv;clear h1;go_wp2_with fail;refine (bY _ _ hs).mono ?_;rintro e w' ⟨rfl,rfl⟩
 cases h1:bT x.guard
 ·rw [h1] at hv;clear h1;go_wp2_with fail;go_ret;exact ⟨ak (by rw [hv.o];rfl),hb.o⟩
 rw [h1] at hv;clear h1;go_wp2_with fail;refine (dJ _ _ _ _).mono ?_;rintro e w' ⟨rfl,rfl⟩;go_wp2_with fail;go_ret;exact ⟨ak (by rw [hv.o];rfl),hb.o⟩
theorem fF {P:Nat->Bool} {k:Nat} (h:∀ j,j<k->P j=true) (hk:P k=true):∀ j,j<k+1->P j=true:=fun j hj=>by
 by_cases e:j=k
 ·subst e;exact hk
 exact h j (by omega)
def jo (l:List aG):Prop:=∀ x ∈ l,x.guard.size<=9223372036854775807
def Dw (l:List Kx.Str):Prop:=∀ x ∈ l,x.size<=9223372036854775807
theorem jo.at {l:List aG} (h:jo l) {k:Nat} (hk:k<l.length):(Kx.inf l k).guard.size<=9223372036854775807:=h _ (ry hk)
theorem dX (l:List aG) (v:Value) (w:World) (h:bV w v l) (hs:jo l):Calls prog 93 #[v] w fun e w'=>e=.returned (.bool (bC l))/\Below w.heap.size w w':=by
 obtain ⟨a,cap,rfl,_,_⟩:=RS.val h;have hl:=h.1;have H:=af h;have Hs:=af hs;clear h hs;have HT:=af (show (∀ j,j<l.length->cZ (Kx.inf l j)=true)->bC l=(l.length==12) from fun hall=>by
  unfold bC;rw [show l.all cZ=true by
   rw [A5];intro x hx;obtain ⟨f,hf,rfl⟩:=BZ hx;exact hall f hf,Bool.true_and]
 )
 have HB:=af (show ∀ k,k<l.length->cZ (Kx.inf l k)=false->bC l=false from fun k hk hq=>by
  unfold bC;rw [AJ,A6];exact .inl ⟨_,ry hk,by rw [hq];simp⟩
 )
 go_enter func93,ntmps93;go_wp2_with fail;go_loopw [3] (fun i wr=>∃ k:Nat,i=I_ k/\k<=l.length/\TI (∀ j,j<k->cZ (Kx.inf l j)=true)/\TI (Below w.heap.size w wr)) (fun i _=>l.length - (intOf i).toNat)
 case atStart=>exact ⟨0,rfl,Av _,fun j hj=>absurd hj (Ax _),Below.refl _ _⟩
 case round =>
  obtain ⟨k,rfl,hk,hall,hb⟩:=hrel
  by_cases hlt:k<l.length
  ·have kQ:(k:Int)<((l.length:Nat):Int):=by omega
   obtain ⟨b,off,cap1,e,_,h1,h2,h3⟩:=bV.at (RS.below H.o hb.o) hlt;obtain ⟨rfl,_,rfl⟩:=Za e;clear e;have PS:=af (Hs.o.at hlt)
   cases hq:cZ (Kx.inf l k) with
   | false =>
    have HF:=af (HB.o k hlt hq);have Hq:=af hq;clear hq;generalize Kx.inf l k=x at h1 h2 h3 PS Hq;go_wp2_with fail;refine (Bc x _ PS.o).mono ?_;rintro e w1 ⟨rfl,hb1⟩;rw [Hq.o];have Hb1:=af (hb.o.trans (hb1.mono hb.o.size));clear hb1;go_wp2_with fail;go_ret;exact ⟨ak HF.o.symm,Hb1.o⟩
   | true =>
    have Hn:=af (fF (P:=fun j=>cZ (Kx.inf l j)) hall.o hq)
    have Hq:=af hq;clear hq;generalize Kx.inf l k=x at h1 h2 h3 PS Hq;go_wp2_with fail;refine (Bc x _ PS.o).mono ?_;rintro e w1 ⟨rfl,hb1⟩;rw [Hq.o];have Hb1:=af (hb.o.trans (hb1.mono hb.o.size));clear hb1;go_wp2_with fail;go_roundw
    case rel=>exact ⟨k+1,by go_num,by omega,Hn.o,Hb1.o⟩
    case measure=>simp [intOf];omega
  have hkn:k=l.length:=by omega
  subst hkn;have HF:=af (HT.o hall.o);go_wp2_with fail;go_ret;exact ⟨ak (by rw [HF.o];exact Bool.eq_iff_iff.2 (by simp;omega)),hb.o⟩
theorem jw (l:List aG) (fs:List Nat) (r:List Kx.Str) (v u t:Value) (w:World) (h:bV w v l) (hf:RI w u (fU fs)) (hr:dK w t r) (Pg:∀ f ∈ fs,f<l.length):Calls prog 174 #[v,u,t] w fun e w'=>e=.returned (.bool (Kx.allowed l fs r))/\Below w.heap.size w w':=by
 obtain ⟨a,cap,rfl,_,_⟩:=RS.val h;obtain ⟨a2,cap2,rfl⟩:=hf.val;have hl:=h.1;have hl2:=hf.1;have H:=af h;have Hf:=af hf;have Hr:=af hr;have fJ:=af Pg;clear h hf hr Pg;have Hn:=af (aQ fs);rw [aQ fs] at hl2 ⊢;have HT:=af (show (∀ j,j<fs.length->Kx.may r (Kx.inf l (fs.getD j 0)).guard=true)->Kx.allowed l fs r=true from fun hall=>by
  unfold Kx.allowed;rw [A5];intro f hf;obtain ⟨j,hj,rfl⟩:=A3 hf;have:=hall j hj;rwa [A9,A' hj] at this
 )
 have HB:=af (show ∀ k,k<fs.length->Kx.may r (Kx.inf l (fs.getD k 0)).guard=false->Kx.allowed l fs r=false from fun k hk hq=>by
  unfold Kx.allowed;rw [A6];refine ⟨fs[k],A4 hk,?_⟩;rw [A9,A' hk] at hq;rw [Option.getD_some] at hq;rw [hq];simp
 )
 go_enter func174,ntmps174;go_wp2_with fail;go_loopw [7] (fun i wr=>∃ k:Nat,i=I_ k/\k<=fs.length/\TI (∀ j,j<k->Kx.may r (Kx.inf l (fs.getD j 0)).guard=true)/\TI (Below w.heap.size w wr)) (fun i _=>fs.length - (intOf i).toNat)
 case atStart=>exact ⟨0,rfl,Av _,fun j hj=>absurd hj (Ax _),Below.refl _ _⟩
 case round =>
  obtain ⟨k,rfl,hk,hall,hb⟩:=hrel
  by_cases hlt:k<fs.length
  ·have kQ:(k:Int)<((fs.length:Nat):Int):=by omega
   have hlt2:k<(fU fs).length:=by rw [Hn.o];exact hlt
   obtain ⟨b2,mP,cap3,e2,_,g1⟩:=(Hf.o.below hb.o).at hlt2;rw [Hn.o] at e2;obtain ⟨rfl,_,rfl⟩:=Za e2;clear e2;rw [nI fs k hlt2 hlt] at g1;have hfk:fs.getD k 0<l.length:=by
    rw [A9,A' hlt];exact fJ.o _ (A4 hlt)
   have Zn:fs[k]=fs.getD k 0:=by rw [A9,A' hlt];rfl
   rw [Zn] at g1;obtain ⟨b,off,cap1,e,_,h1,h2,h3⟩:=bV.at (RS.below H.o hb.o) hfk;obtain ⟨rfl,_,rfl⟩:=Za e;clear e;have wJ:((fs.getD k 0:Nat):Int)<(l.length:Int):=by omega
   clear Zn hlt2
   cases hq:Kx.may r (Kx.inf l (fs.getD k 0)).guard with
   | false =>
    have HF:=af (HB.o k hlt hq);have Hq:=af hq;clear hq;generalize fs.getD k 0=f at g1 h1 h2 h3 wJ Hq hfk;generalize Kx.inf l f=x at h1 h2 h3 Hq;go_wp2_with fail;refine (mO r _ _ _ (RS.below Hr.o hb.o)).mono ?_;rintro e w1 ⟨rfl,rfl⟩;rw [Hq.o];have Hb1:=af hb.o;go_wp2_with fail;go_ret;exact ⟨ak HF.o.symm,Hb1.o⟩
   | true =>
    have Hn:=af (fF (P:=fun j=>Kx.may r (Kx.inf l (fs.getD j 0)).guard) hall.o hq)
    have Hq:=af hq;clear hq;generalize fs.getD k 0=f at g1 h1 h2 h3 wJ Hq hfk;generalize Kx.inf l f=x at h1 h2 h3 Hq;go_wp2_with fail;refine (mO r _ _ _ (RS.below Hr.o hb.o)).mono ?_;rintro e w1 ⟨rfl,rfl⟩;rw [Hq.o];have Hb1:=af hb.o;go_wp2_with fail;go_roundw
    case rel=>exact ⟨k+1,by go_num,by omega,Hn.o,Hb1.o⟩
    case measure=>simp [intOf];omega
  have hkn:k=fs.length:=by omega
  subst hkn;have HF:=af (HT.o hall.o);go_wp2_with fail;go_ret;exact ⟨ak (by rw [HF.o]),hb.o⟩
theorem gu (x:Int) (w:World):Calls prog 176 #[I_ x] w fun e w'=>e=.returned (.bool (aX x))/\w=w':=by
 by_cases h2:x=2
 ·subst h2;go_enter func176,ntmps176;go_wp2_with fail;go_ret;exact ⟨rfl,rfl⟩
 have hb2:(x==2)=false:=by simpa using h2
 by_cases h3:x=3
 ·subst h3;go_enter func176,ntmps176;go_wp2_with fail;go_ret;exact ⟨rfl,rfl⟩
 have hb3:(x==3)=false:=by simpa using h3
 have H:=af (show aX x=false by simp [aX,h2,h3]);clear h2 h3;go_enter func176,ntmps176;go_wp2_with fail;go_ret;exact ⟨ak H.o.symm,rfl⟩
theorem j_ (x:Int) (w:World):Calls prog 66 #[I_ x] w fun e w'=>e=.returned (.bool (aX x))/\w=w':=by
 by_cases h2:x=2
 ·subst h2;go_enter func66,ntmps66;go_wp2_with fail;go_ret;exact ⟨rfl,rfl⟩
 have hb2:(x==2)=false:=by simpa using h2
 by_cases h3:x=3
 ·subst h3;go_enter func66,ntmps66;go_wp2_with fail;go_ret;exact ⟨rfl,rfl⟩
 have hb3:(x==3)=false:=by simpa using h3
 have H:=af (show aX x=false by simp [aX,h2,h3]);clear h2 h3;go_enter func66,ntmps66;go_wp2_with fail;go_ret;exact ⟨ak H.o.symm,rfl⟩
theorem zl (l:List aG) (t:Nat) (x kind:Int) (r:List Kx.Str) (v u:Value) (w:World) (h:bV w v l) (h12:l.length=12) (hr:dK w u r) (hk:kind=2\/kind=3) :
  Calls prog 232 #[v,I_ t,I_ x,I_ kind,u] w fun e w'=>e=.returned (.bool (gK l t x kind r))/\w=w':=by
 cases he:Kx.entry x with
 | none =>
  have HF:=af (show gK l t x kind r=(x==0) by unfold gK;rw [he]);have He:=af he;clear he hk h h12 hr
  by_cases h0:x=0
  ·subst h0;go_enter func232,ntmps232;go_wp2_with fail;refine (bM _ _).mono ?_;rintro e w' ⟨rfl,rfl⟩;rw [G7 He.o];go_wp2_with fail;go_ret;exact ⟨ak (by rw [HF.o];rfl),rfl⟩
  have hb:(x==0)=false:=by simpa using h0
  rw [hb] at HF;clear h0;go_enter func232,ntmps232;go_wp2_with fail;refine (bM _ _).mono ?_;rintro e w' ⟨rfl,rfl⟩;rw [G7 He.o];go_wp2_with fail;go_ret;exact ⟨ak HF.o.symm,rfl⟩
 | some p =>
  obtain ⟨g,c⟩:=p;have hg:=Kx.dU he;have HF:=af (show gK l t x kind r=(g != t&&(Kx.inf l g).kind==kind - 1&&Kx.may r (Kx.inf l g).guard) by unfold gK;rw [he]);have He:=af he;clear he;obtain ⟨b,off,cap1,rfl,_,h1,h2,h3⟩:=bV.at h (k:=g) (by omega);have Vt:(g:Int)<(l.length:Int):=by omega
  have ek:kind - 1=1\/kind - 1=2:=by omega
  have Hr:=af hr;have eI:IntKind.i64.wrap (kind - 1)=kind - 1:=by rw [IntWalk.i64_in _ (by omega)]
  clear h hr h12;generalize Kx.inf l g=y at h1 h2 h3 HF
  by_cases ht:g=t
  ·subst ht;have HF2:=af (HF.o.trans (show _=false by simp));clear HF;go_enter func232,ntmps232;go_wp2_with fail;refine (bM _ _).mono ?_;rintro e w' ⟨rfl,rfl⟩;rw [C_ He.o];go_wp2_with fail;go_ret;exact ⟨ak HF2.o.symm,rfl⟩
  have htb:(g != t)=true:=by simpa using ht
  have UK:((g:Int) != (t:Int))=true:=by rw [bne_iff_ne];omega
  rw [htb] at HF;clear ht htb
  by_cases hky:y.kind=kind - 1
  ·have hkb:(y.kind==kind - 1)=true:=by simpa using hky
   rw [hkb] at HF;clear hky;go_enter func232,ntmps232;go_wp2_with fail;refine (bM _ _).mono ?_;rintro e w' ⟨rfl,rfl⟩;rw [C_ He.o];go_wp2_with fail;refine (mO r _ _ _ Hr.o).mono ?_;rintro e w' ⟨rfl,rfl⟩;go_wp2_with fail;go_ret;exact ⟨ak (by rw [HF.o];rfl),rfl⟩
  have hkb:(y.kind==kind - 1)=false:=by simpa using hky
  rw [hkb] at HF;clear hky;go_enter func232,ntmps232;go_wp2_with fail;refine (bM _ _).mono ?_;rintro e w' ⟨rfl,rfl⟩;rw [C_ He.o];go_wp2_with fail;go_ret;exact ⟨ak (by rw [HF.o];rfl),rfl⟩
theorem BQ (m:List (List Int)) (l:List aG) (f:Nat) (kind:Int) (r:List Kx.Str) (vm v u:Value) (w:World) (hm:RM w vm m) (hmo:bW m=true) (h:bV w v l) (h12:l.length=12) (hr:dK w u r) (hk:kind=2\/kind=3) (hf:f<12):Calls prog 177 #[vm,v,I_ f,I_ kind,u] w fun e w'=>e=.returned (.bool (Kx.rowOk m l f kind r))/\Below w.heap.size w w':=by
 obtain ⟨a,cap,rfl,_,_⟩:=RS.val h;obtain ⟨_,a2,cap2,rfl,_,_⟩:=hm.len;have h4:=af (mem_row hmo hf).2.1;have kX:=af (mem_row hmo hf).1;have H:=af h;have Hm:=af hm;have Hr:=af hr;have fJ:=af h12;have Hk:=af hk;clear h hm hr hk h12;have HT:=af (show (∀ j,j<4->gK l f (Kx.word m f j) kind r=true)->Kx.rowOk m l f kind r=true from fun hall=>by
  unfold Kx.rowOk;rw [A5];intro x hx;obtain ⟨j,hj,rfl⟩:=Lh hx;exact hall j (by rw [h4.o] at hj;exact hj)
 )
 have HB:=af (show ∀ k,k<4->gK l f (Kx.word m f k) kind r=false->Kx.rowOk m l f kind r=false from fun k hk hq=>by
  unfold Kx.rowOk;rw [A6];exact ⟨_,Kx.getD_mem (by rw [h4.o];exact hk),by unfold Kx.word at hq;rw [hq];simp⟩
 )
 go_enter func177,ntmps177;go_wp2_with fail;go_loopw [11] (fun i wr=>∃ k:Nat,i=I_ k/\k<=4/\TI (∀ j,j<k->gK l f (Kx.word m f j) kind r=true)/\TI (Below w.heap.size w wr)) (fun i _=>4 - (intOf i).toNat)
 case atStart=>exact ⟨0,rfl,Av _,fun j hj=>absurd hj (Ax _),Below.refl _ _⟩
 case round =>
  obtain ⟨k,rfl,hk,hall,hb⟩:=hrel
  by_cases hlt:k<4
  ·have kQ:(k:Int)<((4:Nat):Int):=by omega
   obtain ⟨b,off,cap3,b',off',cap',e,g1,g2,g3,g4⟩:=(Hm.o.below hb.o).word hmo hf hlt;rw [<-kX.o] at e;obtain ⟨rfl,_,rfl⟩:=Za e;clear e;have hfm:(f:Int)<(m.length:Int):=by rw [kX.o];omega
   have hk4:(k:Int)<4:=by omega
   cases hq:gK l f (Kx.word m f k) kind r with
   | false =>
    have HF:=af (HB.o k hlt hq);have Hq:=af hq;clear hq;generalize Kx.word m f k=x at g2 g3 g4 Hq;go_wp2_with fail;refine (zl l f x kind r _ _ _ (RS.below H.o hb.o) fJ.o (RS.below Hr.o hb.o) Hk.o).mono ?_;rintro e w1 ⟨rfl,rfl⟩;rw [Hq.o];have Hb1:=af hb.o;go_wp2_with fail;go_ret;exact ⟨ak HF.o.symm,Hb1.o⟩
   | true =>
    have Hn:=af (fF (P:=fun j=>gK l f (Kx.word m f j) kind r) hall.o hq)
    have Hq:=af hq;clear hq;generalize Kx.word m f k=x at g2 g3 g4 Hq;go_wp2_with fail;refine (zl l f x kind r _ _ _ (RS.below H.o hb.o) fJ.o (RS.below Hr.o hb.o) Hk.o).mono ?_;rintro e w1 ⟨rfl,rfl⟩;rw [Hq.o];have Hb1:=af hb.o;go_wp2_with fail;go_roundw
    case rel=>exact ⟨k+1,by go_num,by omega,Hn.o,Hb1.o⟩
    case measure=>simp [intOf];omega
  have hkn:k=4:=by omega
  subst hkn;have HF:=af (HT.o hall.o);go_wp2_with fail;go_ret;exact ⟨ak (by rw [HF.o]),hb.o⟩
theorem Below.bz {B:Nat} {a w:World} (h:Below B a w):Below B a w.drew:=⟨h.os,h.tape,h.output,h.size,h.block⟩
theorem grownBy_drew {a w:World} {r:Option Nat} (h:a.grownBy w r):a.grownBy w.drew r:=⟨h.os,h.tape,h.output,h.size,h.block⟩
def dL (F:Nat->Nat):List Int:=(Ao 12).map fun g=>(F g:Int)
theorem dH (F:Nat->Nat):(dL F).length=12:=by simp [dL]
theorem jP (F:Nat->Nat) (n:Nat) (h:n<(dL F).length):(dL F)[n]=(F n:Int):=by simp [dL]
theorem qY (F F':Nat->Nat) (n:Nat) (x:Int) (hx:x=(F' n:Int)) (h:∀ g,g≠n->F' g=F g):(dL F).set n x=dL F':=by
 refine List.ext_getElem (by simp [dL]) fun i h1 h2=>?_
 rw [List.getElem_set];split
 ·rename_i e;subst e;rw [jP,hx]
 rename_i e;rw [jP,jP,h i (Ne.symm e)]
theorem gU {F F':Nat->Nat} (h:∀ g,g<12->F g=F' g):dL F=dL F':=by
 unfold dL;exact List.map_congr_left fun g hg=>by rw [h g (by simpa using hg)]
def cnt (m:List (List Int)) (l:List aG) (f i g:Nat):Nat:=((Ao f).map (oW m l g)).sum+((ax (Kx.row m f)).take i).count g
theorem Ed (m:List (List Int)) (l:List aG) (g:Nat):cnt m l 0 0 g=0:=by simp [cnt]
theorem Ec (m:List (List Int)) (l:List aG) (f g:Nat) (ht:aX (Kx.inf l f).kind=true):cnt m l (f+1) 0 g=cnt m l f (ax (Kx.row m f)).length g:=by
 unfold cnt;rw [List.range_succ,List.map_append,List.sum_append,Al];simp [oW,ht]
theorem Ee (m:List (List Int)) (l:List aG) (f g:Nat) (ht:aX (Kx.inf l f).kind=false):cnt m l (f+1) 0 g=cnt m l f 0 g:=by
 unfold cnt;rw [List.range_succ,List.map_append,List.sum_append];simp [oW,ht]
theorem Lj (m:List (List Int)) (l:List aG) (f i g:Nat) (hi:i<(ax (Kx.row m f)).length):cnt m l f (i+1) g=cnt m l f i g+if g=(ax (Kx.row m f))[i] then 1 else 0:=by
 unfold cnt;rw [A1 hi,List.count_append]
 by_cases h:g=(ax (Kx.row m f))[i]
 ·rw [if_pos h,h];simp;omega
 rw [if_neg h,List.count_singleton];have:((ax (Kx.row m f))[i]==g)=false:=by rw [beq_eq_false_iff_ne];exact Ne.symm h
 rw [this];simp
theorem cnt_le (m:List (List Int)) (l:List aG) (hm:∀ f,f<12->(Kx.row m f).length=4) (f i g:Nat) (hf:f<=12):cnt m l f i g<=4*f+i:=by
 unfold cnt;have h1:((Ao f).map (oW m l g)).sum<=f*4:=CB fun j hj=>by
  unfold oW;split
  ·exact As (Kx.count_le _ _) (by rw [hm j (by omega)];omega)
  omega
 have h2:((ax (Kx.row m f)).take i).count g<=i:=As List.count_le_length (List.length_take_le _ _);omega
theorem GG (m:List (List Int)) (l:List aG):dL (cnt m l 12 0)=Kx.counts m l:=by
 unfold dL Kx.counts;refine List.map_congr_left fun g hg=>?_
 rw [fV];unfold cnt;simp
theorem F8 (m:List (List Int)) (l:List aG) (vm v:Value) (w:World) (hm:RM w vm m) (hmo:bW m=true) (h:bV w v l) (h12:l.length=12) :
  Calls prog 178 #[vm,v] w (mZ w (Kx.counts m l)):=by
 obtain ⟨a,cap,rfl,_,_⟩:=RS.val h;obtain ⟨_,a2,cap2,rfl,_,_⟩:=hm.len;have hrow4:=af (show ∀ f,f<12->(Kx.row m f).length=4 from fun f hf=>(mem_row hmo hf).2.1)
 have kX:=af (mem_row hmo (show 0<12 by omega)).1;have H:=af h;have Hm:=af hm;have fJ:=af h12;have Qy:=af (GG m l);have hmk:∀ w:World,(Instr.makeSlice 29 (I_ 12) (I_ 12)).run prog w=.ok (A0 (some ⟨w.heap.size,0,none⟩) 12 12) (w.alloc (.cells #[I_ 0,I_ 0,I_ 0,I_ 0,I_ 0,I_ 0,I_ 0,I_ 0,I_ 0,I_ 0,I_ 0,I_ 0] 3)):=fun _=>by kernel_rfl
 have H0:=af (show OS iR 1 3 (w.alloc (.cells #[I_ 0,I_ 0,I_ 0,I_ 0,I_ 0,I_ 0,I_ 0,I_ 0,I_ 0,I_ 0,I_ 0,I_ 0] 3)) w.heap.size (A0 (some ⟨w.heap.size,0,none⟩) 12 12) (dL (cnt m l 0 0)) by
  have e:dL (cnt m l 0 0)=[0,0,0,0,0,0,0,0,0,0,0,0]:=by
   rw [gU (F':=fun _=>0) (fun g _=>Ed m l g)];rfl
  rw [e];exact OS.lit (l:=[0,0,0,0,0,0,0,0,0,0,0,0]) aW _ rfl rfl (by simp))
 clear h hm h12;go_enter func178,ntmps178;go_wp2_with fail;clear hmk;go_loopw [6,7,8] (fun i _ _ wr=>∃ f:Nat,i=I_ f/\f<=12/\TI (OS iR 1 3 wr w.heap.size (A0 (some ⟨w.heap.size,0,none⟩) 12 12) (dL (cnt m l f 0)))/\TI (Below w.heap.size w wr)) (fun i _ _ _=>12 - (intOf i).toNat)
 case atStart=>exact ⟨0,rfl,Av _,H0.o,fZ.alloc aW _⟩
 case round =>
  clear H0;obtain ⟨f,rfl,hf,ho,hb⟩:=hrel
  by_cases hlt:f<12
  ·obtain ⟨b1,FI,cap1,u,e,hc,m_⟩:=(Hm.o.below hb.o).row hmo hlt;rw [<-kX.o] at e;obtain ⟨rfl,_,rfl⟩:=Za e;clear e;have hfm:(f:Int)<(m.length:Int):=by rw [kX.o];omega
   have Hr:=af m_;clear m_;go_wp2_with fail;refine (oC _ _ _ Hr.o).mono ?_;rintro e w1 ⟨u1,rfl,iV,hb4⟩;obtain ⟨ns,hns⟩:=XP (ax (Kx.row m f));rw [hns] at iV;have Ul:=af (show ∀ x ∈ ns,x<12 by rw [<-hns];exact fun x hx=>kE hx);have Um:=af (show ns.length<=4 by rw [<-hns,<-hrow4.o f hlt];unfold ax;exact List.length_filterMap_le _ _);have Qs:=af hns;have O_:=af (ho.o.below hb4);have Hb1:=af (hb.o.trans (hb4.mono hb.o.size));have OG:=af iV.os;have Un:=af (show Sep u1 (A0 (some ⟨w.heap.size,0,none⟩) 12 12) from Sep.later ho.o iV.os aW);obtain ⟨a3,cap3,rfl,_,_⟩:=OG.o.rs.val;obtain ⟨n,hn⟩:=XP ((fU ns).length);have Hn:=af hn;rw [hn] at OG Un ⊢;clear hns hb4 iV hn hc;go_wp2_with fail
   go_loopw [8] (fun i wq=>∃ j:Nat,i=I_ j/\j<=n/\TI (aX (Kx.inf l f).kind=false->j=0)/\TI (OS iR 1 3 wq w.heap.size (A0 (some ⟨w.heap.size,0,none⟩) 12 12) (dL (cnt m l f j)))/\TI (∃ b,OS iR 1 3 wq b (A0 a3 n cap3) (fU ns))/\TI (Below w.heap.size w wq)) (fun i _=>n - (intOf i).toNat)
   case atStart=>exact ⟨0,rfl,Av _,fun _=>rfl,O_.o,⟨_,OG.o⟩,Hb1.o⟩
   case round =>
    clear O_ Hb1 OG ho hb Hr;obtain ⟨j,rfl,hj,hj0,ho,hnn,hb⟩:=hrel;obtain ⟨b5,XB,cap5,e,_,h1,h2,h3⟩:=bV.at (RS.below H.o hb.o) (k:=f) (by rw [fJ.o];exact hlt);obtain ⟨rfl,_,rfl⟩:=Za e;clear e;have hfl:(f:Int)<(l.length:Int):=by rw [fJ.o];omega
    cases ht:aX (Kx.inf l f).kind with
    | false =>
     have XK:=hj0.o ht;subst XK;have GH:=af (show dL (cnt m l (f+1) 0)=dL (cnt m l f 0) from gU fun g _=>Ee m l f g ht)
     have Ht:=af ht;clear ht hj0;generalize Kx.inf l f=y at h1 h2 h3 Ht
     by_cases hn0:n=0
     ·have hb0:decide (0<n)=false:=by simp;omega
      clear hn0;go_wp2_with fail;go_roundw
      case rel=>exact ⟨f+1,by go_num,by omega,by show OS _ _ _ _ _ _ _;rw [GH.o];exact ho.o,hb.o⟩
      case measure=>simp [intOf];omega
     have hb0:decide (0<n)=true:=by simp;omega
     clear hn0;go_wp2_with fail;refine (gu _ _).mono ?_;rintro e w' ⟨rfl,rfl⟩;rw [Ht.o];go_wp2_with fail;go_roundw
     case rel=>exact ⟨f+1,by go_num,by omega,by show OS _ _ _ _ _ _ _;rw [GH.o];exact ho.o,hb.o⟩
     case measure=>simp [intOf];omega
    | true =>
     by_cases hjn:j<n
     ·obtain ⟨bb,QG⟩:=hnn.o;have hjl:j<ns.length:=by have:=Hn.o;rw [aQ] at this;omega
      have hj':j<(fU ns).length:=by rw [aQ];exact hjl
      obtain ⟨b3,TU,cap4,e,_,hc3⟩:=QG.rs.at hj';have hcx:=hc3 0 _ rfl;rw [Hn.o] at e;obtain ⟨rfl,_,rfl⟩:=Za e;clear e;rw [nI ns j hj' hjl,Nat.mul_one,AG] at hcx;have sD:=Ul.o _ (A4 hjl);have hstep:=af (show ∀ g,cnt m l f (j+1) g=cnt m l f j g+if g=ns[j] then 1 else 0 from fun g=>by
       have hns:=Qs.o;subst hns;exact Lj m l f j g hjl)
      have hle:=cnt_le m l hrow4.o f j ns[j] hf;have Hj4:=Um.o;generalize ns[j]=x at hcx sD hstep hle;obtain ⟨g,cap6,e,_,hcg,hfg⟩:=ho.o.oi.at (k:=x) (by rw [dH];exact sD);obtain ⟨⟨rfl,_,_⟩,yc,rfl⟩:=Zb e;clear e yc;rw [jP] at hcg;have hset:=af (qY (cnt m l f j) (cnt m l f (j+1)) x ((cnt m l f j x:Int)+1) (by rw [hstep.o,if_pos rfl];omega) (fun g hg=>by rw [hstep.o,if_neg hg];rfl));have hst:=ho.o.oi.stored (dH _) x ((cnt m l f j x:Int)+1);rw [hset.o] at hst;have uh:=af hst.1;have JD:=af hst.2;have Hnn:=af QG;have Oa:(x:Int)<12:=by omega
      have MO:(cnt m l f j x:Int)<=1000:=by omega
      have Q5:(j:Int)<(n:Int):=by omega
      have hn4:(n:Int)<=4:=by have:=Hn.o;rw [aQ] at this;omega
      have abj:=af hb.o.size;have Ht:=af ht;clear hst hset hstep hle hc3 QG hnn Hj4 hj' hjl ht;generalize cnt m l f j x=q at hcg uh JD MO;generalize Kx.inf l f=y at h1 h2 h3 Ht hj0;go_wp2_with fail;refine (gu _ _).mono ?_;rintro e w' ⟨rfl,rfl⟩;rw [Ht.o];go_wp2_with fail;go_region
      all_goals
       go_wp2_with fail;go_roundw
       case rel =>
        refine ⟨j+1,by go_num,by omega,(fun h=>by cases h),uh.o.os,⟨bb,Hnn.o.kept (grownBy_drew JD.o) ?_⟩,Below.bz (hb.o.setCell (p:=⟨w.heap.size,x,none⟩) aW _)⟩;exact Un.o
       case measure=>simp [intOf];omega
     have XL:j=n:=by omega
     subst XL;have DW:=af (show dL (cnt m l (f+1) 0)=dL (cnt m l f j) from gU fun g _=>by
      rw [Ec m l f g ht,Qs.o];have:=Hn.o;rw [aQ] at this;rw [this])
     clear ht hj0;generalize Kx.inf l f=y at h1 h2 h3;go_wp2_with fail;go_roundw
     case rel=>exact ⟨f+1,by go_num,by omega,by show OS _ _ _ _ _ _ _;rw [DW.o];exact ho.o,hb.o⟩
     case measure=>simp [intOf];omega
  have:f=12:=by omega
  subst this;go_wp2_with fail;go_ret;exact ⟨_,rfl,by rw [<-Qy.o];exact ho.o.oi,hb.o⟩
def kK (w:World) (b:Nat) (v0 v1 v2 v3:Value):Prop:=
 w.cell? ⟨b,0,none⟩=some v0/\w.cell? ⟨b,1,none⟩=some v1/\w.cell? ⟨b,2,none⟩=some v2/\w.cell? ⟨b,3,none⟩=some v3/\b<w.heap.size
theorem kK.new (w:World) (v0 v1 v2 v3:Value) (e:TypeId):kK (w.alloc (.cells #[v0,v1,v2,v3] e)) w.heap.size v0 v1 v2 v3:=by
 have h:(w.alloc (.cells #[v0,v1,v2,v3] e)).heap[w.heap.size]?=some (.cells #[v0,v1,v2,v3] e (0,0)):=heap_alloc_new w _;exact ⟨cell_of_row _ _ 0 _ _ _ h,cell_of_row _ _ 1 _ _ _ h,cell_of_row _ _ 2 _ _ _ h,cell_of_row _ _ 3 _ _ _ h,by simp⟩
theorem kK.below {w w':World} {b:Nat} {v0 v1 v2 v3:Value} (h:kK w b v0 v1 v2 v3) (hb:Below w.heap.size w w'):kK w' b v0 v1 v2 v3:=
 ⟨(hb.cell (p:=⟨b,0,none⟩) h.2.2.2.2).trans h.1,(hb.cell (p:=⟨b,1,none⟩) h.2.2.2.2).trans h.2.1,(hb.cell (p:=⟨b,2,none⟩) h.2.2.2.2).trans h.2.2.1,(hb.cell (p:=⟨b,3,none⟩) h.2.2.2.2).trans h.2.2.2.1,Ay h.2.2.2.2 hb.size⟩
theorem Below.lit {a w:World} (h:Below a.heap.size a w) (o:Obj):Below a.heap.size a (w.alloc o):=h.alloc h.size o
theorem DJ (k:Kx.Kernel) (vm vi ve vc:Value) (w:World) (h:RK w vm vi ve vc k) (hmo:bW k.mem=true) (jI:k.ag.length=12) :
  Calls prog 96 #[.agg #[vm,vi,ve,vc]] w fun e w'=>e=.returned (.bool (mD k))/\Below w.heap.size w w':=by
 obtain ⟨w0,hw0⟩:=XP (w.alloc (.cells #[vm,vi,ve,vc] 28));have dB:=af (show Below w.heap.size w w0 from hw0 ▸ (Below.refl w.heap.size w).alloc aW _);have jF:=af (show kK w0 w.heap.size vm vi ve vc from hw0 ▸ kK.new w vm vi ve vc _);have HK:=af (h.below dB.o);obtain ⟨ai,ci,rfl,_,_⟩:=RS.val h.i;have nM:=af jI;clear h jI;go_enter func96,ntmps96;go_wp2_with fail;clear hw0;go_loopw [3] (fun i wr=>∃ f:Nat,i=I_ f/\f<=12/\TI (∀ j,j<f->(!aX (Kx.inf k.ag j).kind||Kx.rowOk k.mem k.ag j (Kx.inf k.ag j).kind [AN])=true)/\TI (Below w0.heap.size w0 wr)) (fun i _=>12 - (intOf i).toNat)
 case atStart=>exact ⟨0,rfl,Av _,fun j hj=>absurd hj (Ax _),Below.refl _ _⟩
 case round =>
  obtain ⟨f,rfl,hf,hall,hb⟩:=hrel
  by_cases hlt:f<12
  ·obtain ⟨k0,k1,k2,k3,hbl⟩:=jF.o.below hb.o;obtain ⟨b,off,cap,e,hbb,h1,h2,h3⟩:=bV.at (RS.below HK.o.i hb.o) (k:=f) (by rw [nM.o];exact hlt);obtain ⟨rfl,_,rfl⟩:=Za e;clear e;have hfl:(f:Int)<(k.ag.length:Int):=by rw [nM.o];omega
   clear k2 k3 h2 h3
   cases ht:aX (Kx.inf k.ag f).kind with
   | false =>
    have Hn:=af (fF (P:=fun j=>!aX (Kx.inf k.ag j).kind||Kx.rowOk k.mem k.ag j (Kx.inf k.ag j).kind [AN]) hall.o (by simp only [ht];rfl))
    have Ht:=af ht;clear ht;generalize Kx.inf k.ag f=y at h1 Ht;go_wp2_with fail;go_quiet ((go_at_call 176;exact Calls.quiet_of_same ((gu _ _).mono fun _ _ ⟨he,hw⟩=>⟨by rw [he,Ht.o],hw.symm⟩)))
    go_wp2_with fail;go_roundw
    case rel=>exact ⟨f+1,by go_num,by omega,Hn.o,⟨hb.o.os,hb.o.tape,hb.o.output,hb.o.size,hb.o.block⟩⟩
    case measure=>simp [intOf];omega
   | true =>
    have hkd:=af (dF.1 ht);have ND:=af hbl;have S_:=af hbb;have ik:=af (show ∀ wz,Below wr.heap.size wr wz->(wz.cell? ⟨w.heap.size,0,none⟩=some vm/\wz.cell? ⟨w.heap.size,1,none⟩=some (A0 (some ⟨b,off,none⟩) k.ag.length ci)/\wz.cell? ⟨b,off+f*3,none⟩=some (I_ (Kx.inf k.ag f).kind)) from fun wz hz =>
     ⟨(hz.cell (p:=⟨w.heap.size,0,none⟩) hbl).trans k0,(hz.cell (p:=⟨w.heap.size,1,none⟩) hbl).trans k1,(hz.cell (p:=⟨b,off+f*3,none⟩) hbb).trans h1⟩)
    cases hq:Kx.rowOk k.mem k.ag f (Kx.inf k.ag f).kind [AN] with
    | false =>
     have HF:=af (show mD k=false by
      unfold mD;rw [A6];exact ⟨f,by simpa using hlt,by rw [ht,hq];simp⟩)
     have Hq:=af hq;have Ht:=af ht;clear ht hq hbl hbb;generalize Kx.inf k.ag f=y at h1 Ht Hq ik hkd;obtain ⟨W1,hW1⟩:=XP ((wr.alloc (.cells #[.string AN] 9)).drew);have B1:=af (show Below wr.heap.size wr W1 from hW1 ▸ Below.bz (dm));have M1:=af (HK.o.m.below (hb.o.trans (B1.o.mono hb.o.size)));have I1:=af (RS.below HK.o.i (hb.o.trans (B1.o.mono hb.o.size)));have S1:=af (show dK W1 (A0 (some ⟨wr.heap.size,0,none⟩) 1 1) [AN] from hW1 ▸ RS.one (f:=df) (sz:=1) AN #[.string AN] rfl wr 9);have hW1':(wr.alloc (.cells #[.string ⟨#[]⟩] 9)).drew=W1:=hW1;have XM:=ik.o W1 B1.o;clear hW1;go_wp2_with fail;go_region_held3 (fun wz=>wz.cell? ⟨w.heap.size,0,none⟩=some vm/\wz.cell? ⟨w.heap.size,1,none⟩=some (A0 (some ⟨b,off,none⟩) k.ag.length ci)/\wz.cell? ⟨b,off+f*3,none⟩=some (I_ y.kind))
      (first | assumption | go_keep)
      (first
       | (go_at_call 176;refine (gu _ _).mono ?_;rintro e w' ⟨rfl,rfl⟩;rw [Ht.o])
       | (go_at_call 177;refine (BQ k.mem k.ag f y.kind [AN] _ _ _ _ M1.o hmo I1.o nM.o S1.o hkd.o hlt).mono ?_;rintro e w2 ⟨rfl,hb2⟩;rw [Hq.o];have hb3:=B1.o.trans (hb2.mono B1.o.size);have hc3:=ik.o w2 hb3))
     have Hb1:=af (hb.o.trans (hb3.mono hb.o.size));clear hb2 hb3 hc3 hW1' XM;go_wp2_with fail;go_ret;exact ⟨ak HF.o.symm,dB.o.trans (Hb1.o.mono dB.o.size)⟩
    | true =>
     have Hn:=af (fF (P:=fun j=>!aX (Kx.inf k.ag j).kind||Kx.rowOk k.mem k.ag j (Kx.inf k.ag j).kind [AN]) hall.o (by simp only [hq];simp))
     have Hq:=af hq;have Ht:=af ht;clear ht hq hbl hbb;generalize Kx.inf k.ag f=y at h1 Ht Hq ik hkd;obtain ⟨W1,hW1⟩:=XP ((wr.alloc (.cells #[.string AN] 9)).drew);have B1:=af (show Below wr.heap.size wr W1 from hW1 ▸ Below.bz (dm));have M1:=af (HK.o.m.below (hb.o.trans (B1.o.mono hb.o.size)));have I1:=af (RS.below HK.o.i (hb.o.trans (B1.o.mono hb.o.size)));have S1:=af (show dK W1 (A0 (some ⟨wr.heap.size,0,none⟩) 1 1) [AN] from hW1 ▸ RS.one (f:=df) (sz:=1) AN #[.string AN] rfl wr 9);have hW1':(wr.alloc (.cells #[.string ⟨#[]⟩] 9)).drew=W1:=hW1;have XM:=ik.o W1 B1.o;clear hW1;go_wp2_with fail;go_region_held3 (fun wz=>wz.cell? ⟨w.heap.size,0,none⟩=some vm/\wz.cell? ⟨w.heap.size,1,none⟩=some (A0 (some ⟨b,off,none⟩) k.ag.length ci)/\wz.cell? ⟨b,off+f*3,none⟩=some (I_ y.kind))
      (first | assumption | go_keep)
      (first
       | (go_at_call 176;refine (gu _ _).mono ?_;rintro e w' ⟨rfl,rfl⟩;rw [Ht.o])
       | (go_at_call 177;refine (BQ k.mem k.ag f y.kind [AN] _ _ _ _ M1.o hmo I1.o nM.o S1.o hkd.o hlt).mono ?_;rintro e w2 ⟨rfl,hb2⟩;rw [Hq.o];have hb3:=B1.o.trans (hb2.mono B1.o.size);have hc3:=ik.o w2 hb3))
     have Hb1:=af (hb.o.trans (hb3.mono hb.o.size));clear hb2 hb3 hc3 hW1' XM;go_wp2_with fail;go_roundw
     case rel=>exact ⟨f+1,by go_num,by omega,Hn.o,Hb1.o⟩
     case measure=>simp [intOf];omega
  have:f=12:=by omega
  subst this;have HF:=af (show mD k=true by unfold mD;rw [A5];exact fun f hf=>hall.o f (by simpa using hf))
  go_wp2_with fail;go_ret;exact ⟨ak HF.o.symm,dB.o.trans (hb.o.mono dB.o.size)⟩
def lT (k:Kx.Kernel) (e g:Nat):Nat:=gI k.mem k.ag g+eF (k.ah.take e) g
theorem I4 (k:Kx.Kernel):dL (lT k 0)=Kx.counts k.mem k.ag:=by
 unfold dL Kx.counts;refine List.map_congr_left fun g _=>?_
 simp [lT,eF]
theorem I5 (k:Kx.Kernel) (e g:Nat) (h:e<k.ah.length):lT k (e+1) g=lT k e g+if (au k.ah e).root=(g:Int) then 1 else 0:=by
 unfold lT eF;rw [A1 h,List.countP_append];have:k.ah[e]=au k.ah e:=by simp [au,h]
 rw [this]
 by_cases hg:(au k.ah e).root=(g:Int)
 ·simp [hg];omega
 simp [hg]
theorem NK (k:Kx.Kernel) (hm:bW k.mem=true) (e g:Nat):lT k e g<=48+e:=by
 unfold lT;have h1:gI k.mem k.ag g<=48:=by
  have:=cnt_le k.mem k.ag (fun f hf=>(mem_row hm hf).2.1) 12 0 g aW
  have e:gI k.mem k.ag g=cnt k.mem k.ag 12 0 g:=by rw [fV];simp [cnt]
  omega
 have h2:eF (k.ah.take e) g<=e:=As List.countP_le_length (List.length_take_le _ _);omega
theorem HY (k:Kx.Kernel) (vm vi ve vc:Value) (w:World) (h:RK w vm vi ve vc k) (hmo:bW k.mem=true) (jI:k.ag.length=12) (hen:k.ah.length<=1000) (hro:∀ e,e<k.ah.length->(au k.ah e).root<=11) :
  Calls prog 97 #[.agg #[vm,vi,ve,vc]] w fun e w'=>e=.returned (.bool (mF k))/\Below w.heap.size w w':=by
 obtain ⟨w0,hw0⟩:=XP (w.alloc (.cells #[vm,vi,ve,vc] 28));have dB:=af (show Below w.heap.size w w0 from hw0 ▸ (Below.refl w.heap.size w).alloc aW _);have jF:=af (show kK w0 w.heap.size vm vi ve vc from hw0 ▸ kK.new w vm vi ve vc _);have HK:=af (h.below dB.o);obtain ⟨ai,ci,rfl,_,_⟩:=RS.val h.i;obtain ⟨_,ae,ce,rfl,_,_⟩:=h.e.len;obtain ⟨ne,hne⟩:=XP k.ah.length;have nM:=af jI;have mW:=af hro;have xQ:=af hne;rw [hne] at jF HK hen hw0 ⊢;clear h jI hro hne;obtain ⟨k0,k1,k2,k3,hbl⟩:=jF.o;have ND:=af hbl;go_enter func97,ntmps97;go_wp2_with fail;clear hw0;refine (F8 k.mem k.ag _ _ _ HK.o.m hmo HK.o.i nM.o).mono ?_;rintro e w1 ⟨u1,rfl,ho,hb⟩;have Hb1:=af hb;rw [<-I4] at ho;have Ho:=af ho;obtain ⟨gc,cc,rfl,hgc,_,_⟩:=ho.at (k:=0) (by rw [dH];omega);rw [dH] at Ho ⊢;have Hgc:=af hgc
 clear ho hb hgc k0 k1 k2 k3 hbl;go_wp2_with fail;go_loopw [4] (fun i wr=>∃ e:Nat,i=I_ e/\e<=ne/\TI (OI wr w0.heap.size (A0 (some ⟨gc,0,none⟩) 12 cc) (dL (lT k e)))/\TI (Below w0.heap.size w0 wr)) (fun i _=>ne - (intOf i).toNat)
 case atStart=>exact ⟨0,rfl,Av _,Ho.o,Hb1.o⟩
 case round =>
  clear Ho Hb1;obtain ⟨e,rfl,he,ho,hb⟩:=hrel;obtain ⟨k0,k1,k2,k3,hbl⟩:=jF.o.below hb.o
  by_cases hlt:e<ne
  ·have hlt':e<k.ah.length:=by rw [xQ.o];exact hlt
   obtain ⟨b,off,cap,u,ev,hbb,h1,h2,_⟩:=(HK.o.e.below hb.o).at hlt';rw [xQ.o] at ev;obtain ⟨rfl,_,rfl⟩:=Za ev;clear ev;have hel:(e:Int)<(ne:Int):=by omega
   have hstep:=af (I5 k e · hlt');have lL:=mW.o e hlt';have hle:=af (NK k hmo e);generalize (au k.ah e).root=r at h2 hstep lL
   by_cases hr0:0<=r
   ·obtain ⟨x,rfl⟩:=AH hr0;have sD:x<12:=by omega
    obtain ⟨g,cap6,ev,_,hcg,hfg⟩:=ho.o.at (k:=x) (by rw [dH];exact sD);obtain ⟨⟨rfl,_,_⟩,yc,rfl⟩:=Zb ev;clear ev yc;rw [jP] at hcg;have hset:=af (qY (lT k e) (lT k (e+1)) x ((lT k e x:Int)+1) (by rw [hstep.o,if_pos rfl];omega) (fun g hg=>by rw [hstep.o,if_neg (by omega)];rfl))
    have hst:=ho.o.stored (dH _) x ((lT k e x:Int)+1);rw [hset.o] at hst;have uh:=af hst.1;have Oa:(x:Int)<12:=by omega
    have MO:(lT k e x:Int)<=2000:=by have:=hle.o x;omega
    clear hst hset lL hle hstep;generalize lT k e x=q at hcg uh MO;go_wp2_with fail;go_region
    all_goals
     go_wp2_with fail;go_roundw
     case rel=>exact ⟨e+1,by go_num,by omega,uh.o.drewN 1,Below.bz (hb.o.setCell (p:=⟨gc,x,none⟩) Hgc.o _)⟩
     case measure=>simp [intOf];omega
   have hst:=af (show dL (lT k (e+1))=dL (lT k e) from gU fun g _=>by rw [hstep.o,if_neg (by omega)];rfl)
   clear lL hle hstep;go_wp2_with fail;go_roundw
   case rel=>exact ⟨e+1,by go_num,by omega,by show OI _ _ _ _;rw [hst.o];exact ho.o,hb.o⟩
   case measure=>simp [intOf];omega
  have hen':e=ne:=by omega
  subst hen';have hall:=af (show ∀ g,lT k e g=gI k.mem k.ag g+eF k.ah g from fun g=>by unfold lT;rw [<-xQ.o,Al]);go_wp2_with fail;clear k0 k1 k2 k3 hbl;go_loopw [5] (fun i wq=>∃ f:Nat,i=I_ f/\f<=12/\TI (∀ j,j<f->(Kx.inf k.ag j).refs=(lT k e j:Int))/\TI (OI wq w0.heap.size (A0 (some ⟨gc,0,none⟩) 12 cc) (dL (lT k e)))/\TI (Below w0.heap.size w0 wq)) (fun i _=>12 - (intOf i).toNat)
  case atStart=>exact ⟨0,rfl,Av _,fun j hj=>absurd hj (Ax _),ho.o,hb.o⟩
  case round =>
   clear ho hb;obtain ⟨f,rfl,hf,hq,ho,hb⟩:=hrel
   by_cases hlt2:f<12
   ·obtain ⟨k0,k1,k2,k3,hbl⟩:=jF.o.below hb.o;obtain ⟨b,off,cap,ev,hbb,h1,h2,h3⟩:=bV.at (RS.below HK.o.i hb.o) (k:=f) (by rw [nM.o];exact hlt2);obtain ⟨rfl,_,rfl⟩:=Za ev;clear ev;have hfl:(f:Int)<(k.ag.length:Int):=by rw [nM.o];omega
    have dG:(f:Int)<12:=by omega
    obtain ⟨g,cap6,ev,_,hcg,hfg⟩:=ho.o.at (k:=f) (by rw [dH];exact hlt2);obtain ⟨⟨rfl,_,_⟩,yc,rfl⟩:=Zb ev;clear ev yc;rw [jP] at hcg
    by_cases heq:(Kx.inf k.ag f).refs=(lT k e f:Int)
    ·have hnb:((Kx.inf k.ag f).refs != (lT k e f:Int))=false:=by simpa using heq
     have Hn:=af (show ∀ j,j<f+1->(Kx.inf k.ag j).refs=(lT k e j:Int) from fun j hj=>by
      by_cases e:j=f
      ·subst e;exact heq
      exact hq.o j (by omega))
     clear heq;generalize (Kx.inf k.ag f).refs=x at h3 hnb;generalize lT k e f=y at hcg hnb;go_wp2_with fail;go_quiet (fail);go_wp2_with fail;go_roundw
     case rel=>exact ⟨f+1,by go_num,by omega,Hn.o,ho.o.drewN _,⟨hb.o.os,hb.o.tape,hb.o.output,hb.o.size,hb.o.block⟩⟩
     case measure=>simp [intOf];omega
    have hnb:((Kx.inf k.ag f).refs != (lT k e f:Int))=true:=by simpa using heq
    have HF:=af (show mF k=false by
     unfold mF;rw [A6];exact ⟨f,by simpa using hlt2,by rw [<-hall.o];simpa using heq⟩)
    clear heq;generalize (Kx.inf k.ag f).refs=x at h3 hnb;generalize lT k e f=y at hcg hnb;go_wp2_with fail;go_quiet (fail);go_wp2_with fail;go_ret;exact ⟨ak HF.o.symm,dB.o.trans (Below.mono (w:=w0) ⟨hb.o.os,hb.o.tape,hb.o.output,hb.o.size,hb.o.block⟩ dB.o.size)⟩
   have:f=12:=by omega
   subst this;have HF:=af (show mF k=true by
    unfold mF;rw [A5];intro g hg;have:=hq.o g (by simpa using hg);rw [hall.o] at this;simpa using this)
   go_wp2_with fail;go_ret;exact ⟨ak HF.o.symm,dB.o.trans (hb.o.mono dB.o.size)⟩
end Go.Proofs.YthcmmoibpgcgaaaGreatDoor
