/- Kern, KernA, KernB, KernC, KernD, KernE, KernP, KernQ, KernR, KernS, KernT, joined. -/
import Derived.Test.YthcmmoibpgcgaaaGreatDoorKY
set_option linter.all false
open List renaming set_cons_zero->A1,set_cons_succ->A2,getElem_of_mem->A3,getElem_mem->A4,all_eq_true->A5,replicate->A6,getD_eq_getElem?_getD->A9,getElem?_eq_getElem->A',length_filter_le->Ab,length_set->Al,any_eq_true->An,range->Ao
open Nat renaming le_trans->As,add_zero->Av
open Bool renaming and_eq_true->Ax,not_eq_true'->Ay,eq_iff_iff->AD,not_eq_false->AE,or_eq_true->AF
open Option.some renaming injEq->AG
open ByteArray renaming empty->AH
namespace Kx
abbrev Str:=ByteArray
def pre (a b:Str):Bool:=a.data.toList.isPrefixOf b.data.toList
def lt (a b:Str):Bool:=Go.Op.bytesLess a.toList b.toList
structure aG where
 kind:Int
 guard:Str
 refs:Int
deriving DecidableEq
structure Env where
 aB:List Str
 root:Int
deriving DecidableEq
structure Cached where
 env:Int
 page:Int
 frame:Int
 write:Bool
deriving DecidableEq
structure Kernel where
 mem:List (List Int)
 ag:List aG
 ah:List Env
 cache:List Cached
deriving DecidableEq
structure Call where
 kind:Int
 env:Int
 a:Int
 b:Int
 c:Int
 name:Str
deriving DecidableEq
structure dV where
 wh:Int
 at_:Int
 used:Bool
deriving DecidableEq
structure aH where
 k:Kernel
 swap:List (List Int)
 low:List Int
 pages:List dV
 hand:Int
 limit:Int
deriving DecidableEq
def bK (n lo hi:Int):Bool:=decide (lo<=n)&&decide (n<=hi)
theorem ay {n lo hi:Int}:bK n lo hi=true↔lo<=n/\n<=hi:=by simp [bK]
theorem u_ {n lo hi:Int}:bK n lo hi=false↔n<lo\/hi<n:=by
 simp only [bK,Bool.and_eq_false_iff,decide_eq_false_iff_not];omega
def aG.zero:aG:=⟨0,AH,0⟩
def Env.zero:Env:=⟨[],0⟩
def Cached.zero:Cached:=⟨0,0,0,false⟩
def dV.zero:dV:=⟨0,0,false⟩
def Kernel.zero:Kernel:=⟨[],[],[],[]⟩
def aH.zero:aH:=⟨Kernel.zero,[],[],[],0,0⟩
def row (m:List (List Int)) (f:Nat):List Int:=m.getD f []
def word (m:List (List Int)) (f a:Nat):Int:=(row m f).getD a 0
def inf (l:List aG) (f:Nat):aG:=l.getD f aG.zero
def au (l:List Env) (e:Nat):Env:=l.getD e Env.zero
def aA (l:List dV) (n:Nat):dV:=l.getD n dV.zero
/-! entries -/
def put (f:Nat) (write:Bool):Int:=4*(f:Int)+if write then 3 else 1
def entry (w:Int):Option (Nat×Bool):=if 0<w/\w % 2=1/\w<48 then some ((w / 4).toNat,w % 4==3) else none
def dY (w:Int):Int:=if w=0 then 0 else if (entry w).isSome then 1 else 2
/-! memory -/
def CG (n:Int):Bool:=bK n 0 9999
def dQ (ws:List Int):Bool:=ws.all CG&&ws.length==4
def bW (m:List (List Int)):Bool:=m.all dQ&&m.length==12
def bG (m:List (List Int)) (f a:Nat) (x:Int):List (List Int):=m.set f ((row m f).set a x)
/-! walks -/
def walk (m:List (List Int)) (root ad:Nat):(Int×Int×Bool)×Int:=
 match entry (word m root (ad / 16)) with
 | none=>((0,0,false),1)
 | some (t,a)=>match entry (word m t (ad / 4 % 4)) with
  | none=>((0,0,false),2)
  | some (f,b)=>(((f:Int),((ad % 4:Nat):Int),a&&b),0)
def ax (ws:List Int):List Nat:=ws.filterMap fun w=>(entry w).map (·.1)
def fE (l:List Nat):List Nat:=(Ao 12).filter fun f=>l.contains f
def tables (m:List (List Int)) (r:Nat):List Nat:=fE (ax (row m r))
def fO (m:List (List Int)) (r:Nat):List Nat:=fE ((tables m r).flatMap fun t=>ax (row m t))
def reach (m:List (List Int)) (root:Int):List Nat:=
 if root<0 then [] else fE (root.toNat :: (tables m root.toNat ++ fO m root.toNat))
/-! the cache -/
def dn (x:Cached):Bool:=bK x.env 0 2&&bK x.page 0 15&&bK x.frame 0 11
def iW (c:List Cached) (env page:Int):Option Nat:=c.findIdx? fun x=>x.env==env&&x.page==page
def dA (c:List Cached):Bool:=
 ((Ao c.length).all fun i=>let x:=c.getD i Cached.zero;dn x&&!(match iW c x.env x.page with | some j=>decide (j<i) | none=>false))&&decide (c.length<=4)
def qp (c:List Cached) (x:Cached):List Cached:=
 let o:=c.filter fun y=>y.env != x.env||y.page != x.page
 (if 4<=o.length then o.drop 1 else o) ++ [x]
def fP (c:List Cached) (env:Int):List Cached:=c.filter fun y=>y.env != env
/-! rights -/
def bT (s:Str):Bool:=s.data.toList.all (fun b=>97<=b&&b<=99)&&decide (s.size<=4)
def dR:List Str->Bool
 | []=>true
 | [_]=>true
 | a :: b :: l=>lt a b&&dR (b :: l)
def aS (l:List Str):Bool:=l.all bT&&dR l&&decide (l.length<=6)
def may (l:List Str) (g:Str):Bool:=l.any fun s=>pre s g
def gz (l:List Str) (s:Str):Nat:=(l.takeWhile fun x=>lt x s).length
def jS (l:List Str) (s:Str):List Str×Bool:=
 if l[gz l s]?=some s then (l,true)
 else if 6<=l.length then (l,false)
 else (l.take (gz l s) ++ s :: l.drop (gz l s),true)
def jm (l:List Str) (s:Str):List Str:=l.filter fun r=>!pre s r
def allowed (l:List aG) (fs:List Nat) (aB:List Str):Bool:=fs.all fun f=>may aB (inf l f).guard
/-! frames -/
def cZ (x:aG):Bool:=if x.kind=0 then x==aG.zero else bK x.kind 1 3&&bT x.guard&&bK x.refs 0 50
def bC (l:List aG):Bool:=l.all cZ&&l.length==12
def free (l:List aG):Option Nat:=l.findIdx? fun x=>x.kind==0
def oH (l:List aG):Nat:=l.countP fun x=>x.kind==0
def aF (l:List aG) (f:Nat) (d:Int):List aG:=l.set f { inf l f with refs:=(inf l f).refs+d }
def setKind (l:List aG) (f:Nat) (kind:Int):List aG:=l.set f { inf l f with kind:=kind }
/-! tables -/
def aX (kind:Int):Bool:=kind==2||kind==3
def needs (kind:Int):Int:=if aX kind then kind - 1 else 0
def gK (l:List aG) (t:Nat) (w kind:Int) (aB:List Str):Bool:=
 match entry w with
 | none=>w==0
 | some (g,_)=>g != t&&(inf l g).kind==kind - 1&&may aB (inf l g).guard
def rowOk (m:List (List Int)) (l:List aG) (f:Nat) (kind:Int) (aB:List Str):Bool:=
 (row m f).all fun w=>gK l f w kind aB
def gI (m:List (List Int)) (l:List aG) (g:Nat):Nat:=
 ((Ao 12).map fun f=>if aX (inf l f).kind then (ax (row m f)).count g else 0).sum
def counts (m:List (List Int)) (l:List aG):List Int:=(Ao 12).map fun g=>(gI m l g:Int)
def bD (l:List aG) (fs:List Nat) (d:Int):List aG:=fs.foldl (fun l f=>aF l f d) l
def pin (m:List (List Int)) (l:List aG) (f kind:Int) (aB:List Str):List aG×Int:=
 if !(bW m&&bK f 0 11&&bC l&&aX kind&&aS aB) then ([],3)
 else if (inf l f.toNat).kind≠1\/(inf l f.toNat).refs > 0 then (l,1)
 else if !rowOk m l f.toNat kind aB then (l,2)
 else if bC (bD (setKind l f.toNat kind) (ax (row m f.toNat)) 1) then (bD (setKind l f.toNat kind) (ax (row m f.toNat)) 1,0)
 else (l,1)
def oL (m:List (List Int)) (l:List aG) (f:Int):List aG×Int:=
 if !(bW m&&bK f 0 11&&bC l) then ([],3)
 else if aX (inf l f.toNat).kind=false\/(inf l f.toNat).refs > 0 then (l,1)
 else if bC (bD (setKind l f.toNat 1) (ax (row m f.toNat)) (-1)) then (bD (setKind l f.toNat 1) (ax (row m f.toNat)) (-1),0)
 else (l,2)
/-! the kernel -/
def eF (ah:List Env) (g:Nat):Nat:=ah.countP fun e=>e.root==(g:Int)
def mF (k:Kernel):Bool:=(Ao 12).all fun g=>(inf k.ag g).refs==((gI k.mem k.ag g+eF k.ah g:Nat):Int)
def qw (k:Kernel) (e:Env):Bool:=
 aS e.aB&&bK e.root (-1) 11&&(decide (e.root<0)||(inf k.ag e.root.toNat).kind==3)&&allowed k.ag (reach k.mem e.root) e.aB
def iw (k:Kernel):Bool:=k.ah.all (qw k)&&k.ah.length==3
def mD (k:Kernel):Bool:=(Ao 12).all fun f=>!aX (inf k.ag f).kind||rowOk k.mem k.ag f (inf k.ag f).kind [AH]
def eH (k:Kernel) (x:Cached):Bool:=
 let root:=(au k.ah x.env.toNat).root
 !decide (root<0)&&(let r:=walk k.mem root.toNat (4*x.page.toNat);r.2==0&&r.1.1==x.frame&&r.1.2.2==x.write)
def gV (k:Kernel):Bool:=k.cache.all (eH k)
def az (k:Kernel):Bool:=bW k.mem&&bC k.ag&&dA k.cache&&iw k&&mD k&&mF k&&gV k
def sees (k:Kernel) (env ad:Int):Int×Bool:=
 if !az k||!bK env 0 2||!bK ad 0 63||decide ((au k.ah env.toNat).root<0) then (0,false)
 else match walk k.mem (au k.ah env.toNat).root.toNat ad.toNat with
  | ((f,a,_),c)=>if c=0 then (word k.mem f.toNat a.toNat,true) else (0,false)
/-! calls -/
abbrev Out:=Kernel×Int×Int
def jQ (k:Kernel) (env:Int) (g:Str):Bool:=may (au k.ah env.toNat).aB g
def take (k:Kernel) (c:Call):Out:=
 if !bT c.name then (k,0,3) else if !jQ k c.env c.name then (k,0,1)
 else match free k.ag with
  | none=>(k,0,4)
  | some f=>({ k with ag:=k.ag.set f ⟨1,c.name,0⟩,mem:=k.mem.set f [0,0,0,0] },f,0)
def aO (k:Kernel) (c:Call) (kind:Int):Int:=
 if !bK c.a 0 11||(inf k.ag c.a.toNat).kind==0 then 3
 else if !jQ k c.env (inf k.ag c.a.toNat).guard then 1
 else if 0<kind/\(inf k.ag c.a.toNat).kind≠kind\/kind=0/\aX (inf k.ag c.a.toNat).kind=false then 3
 else 0
def give (k:Kernel) (c:Call):Out:=
 if aO k c 1≠0 then (k,0,aO k c 1)
 else if (inf k.ag c.a.toNat).refs > 0 then (k,0,2)
 else ({ k with ag:=k.ag.set c.a.toNat aG.zero },0,0)
def oP (k:Kernel) (c:Call):Out:=
 if aO k c 1≠0 then (k,0,aO k c 1)
 else if !bK c.b 0 3||!bK c.c 0 9999 then (k,0,3)
 else ({ k with mem:=bG k.mem c.a.toNat c.b.toNat c.c },0,0)
def pinned (k:Kernel) (c:Call):List aG×Int:=
 if c.kind=4 then pin k.mem k.ag c.a c.b (au k.ah c.env.toNat).aB else oL k.mem k.ag c.a
def lu (k:Kernel) (c:Call):Out:=
 if !bK c.a 0 11||(inf k.ag c.a.toNat).kind==0||(c.kind==4&&!aX c.b) then (k,0,3)
 else if !jQ k c.env (inf k.ag c.a.toNat).guard then (k,0,1)
 else if (pinned k c).2=1 then (k,0,2) else if (pinned k c).2=2 then (k,0,3)
 else ({ k with ag:=(pinned k c).1 },0,0)
def iy (m:List (List Int)) (e:Env) (t:Int):Bool:=e.root==t||(!decide (e.root<0)&&(tables m e.root.toNat).contains t.toNat)
def kw (k:Kernel) (t:Int):List Nat:=(Ao k.ah.length).filter fun i=>iy k.mem (au k.ah i) t
def behind (k:Kernel) (w:Int):List Nat:=
 match entry w with
 | none=>[]
 | some (f,_)=>if (inf k.ag f).kind≠2 then [f] else f :: ax (row k.mem f)
def aP (l:List aG) (w d:Int):List aG:=match entry w with | none=>l | some (f,_)=>aF l f d
def qJ (k:Kernel) (c:Call):Bool:=
 !bK c.b 0 3||dY c.c==2||(match entry c.c with | none=>false | some (f,_)=>(inf k.ag f).kind != (inf k.ag c.a.toNat).kind - 1)
def lJ (k:Kernel) (c:Call):Bool:=match entry c.c with | none=>false | some (f,_)=>!jQ k c.env (inf k.ag f).guard
def lQ (k:Kernel) (c:Call):Out:=
 if aO k c 0≠0 then (k,0,aO k c 0)
 else if qJ k c then (k,0,3)
 else if !((kw k c.a).all fun e=>allowed k.ag (behind k c.c) (au k.ah e).aB) then (k,0,1)
 else if lJ k c then (k,0,1)
 else ({ k with
   ag:=aP (aP k.ag (word k.mem c.a.toNat c.b.toNat) (-1)) c.c 1
   mem:=bG k.mem c.a.toNat c.b.toNat c.c
   cache:=(kw k c.a).foldl (fun (ca:List Cached) (e:Nat)=>fP ca (e:Int)) k.cache },0,0)
def dE (l:List Env) (e:Nat) (r:Int):List Env:=l.set e { au l e with root:=r }
def aY (l:List Env) (e:Nat) (r:List Str):List Env:=l.set e { au l e with aB:=r }
def mM (k:Kernel) (c:Call):Out:=
 if c.a≠-1/\(!bK c.a 0 11||(inf k.ag c.a.toNat).kind != 3) then (k,0,3)
 else if !allowed k.ag (reach k.mem c.a) (au k.ah c.env.toNat).aB then (k,0,1)
 else
  let old:=(au k.ah c.env.toNat).root
  let l1:=if 0<=old then aF k.ag old.toNat (-1) else k.ag
  let l2:=if 0<=c.a then aF l1 c.a.toNat 1 else l1
  ({ k with ag:=l2,ah:=dE k.ah c.env.toNat c.a,cache:=fP k.cache c.env },0,0)
def f_ (k:Kernel) (c:Call):Out:=
 if !bK c.a 0 2||!bT c.name||(c.kind==9&&c.a==c.env) then (k,0,3)
 else if !jQ k c.env c.name then (k,0,1)
 else if c.kind=8 then
  if (jS (au k.ah c.a.toNat).aB c.name).2 then ({ k with ah:=aY k.ah c.a.toNat (jS (au k.ah c.a.toNat).aB c.name).1 },0,0) else (k,0,4)
 else if !allowed k.ag (reach k.mem (au k.ah c.a.toNat).root) (jm (au k.ah c.a.toNat).aB c.name) then (k,0,2)
 else ({ k with ah:=aY k.ah c.a.toNat (jm (au k.ah c.a.toNat).aB c.name) },0,0)
def placeOf (k:Kernel) (env ad:Int):(Int×Bool)×Int:=
 match iW k.cache env (ad / 4) with
 | some i=>(((k.cache.getD i Cached.zero).frame,(k.cache.getD i Cached.zero).write),0)
 | none=>match walk k.mem (au k.ah env.toNat).root.toNat ad.toNat with | ((f,_,w),c)=>((f,w),c)
def je (k:Kernel) (c:Call) (f:Int) (w:Bool):List Cached:=match iW k.cache c.env (c.a / 4) with | some _=>k.cache | none=>qp k.cache ⟨c.env,c.a / 4,f,w⟩
def access (k:Kernel) (c:Call):Out:=
 if !bK c.a 0 63||decide ((au k.ah c.env.toNat).root<0)||(c.kind==11&&!bK c.b 0 9999) then (k,0,3)
 else match placeOf k c.env c.a with
  | ((f,w),code) =>
   if code≠0 then (k,0,3)
   else if c.kind=11/\w=false then (k,0,1)
   else if c.kind=11 then ({ k with cache:=je k c f w,mem:=bG k.mem f.toNat (c.a % 4).toNat c.b },0,0)
   else ({ k with cache:=je k c f w },word k.mem f.toNat (c.a % 4).toNat,0)
def qm (k:Kernel) (c:Call):Out:=
 if c.kind=1 then take k c else if c.kind=2 then give k c else if c.kind=3 then oP k c
 else if c.kind=4\/c.kind=5 then lu k c else if c.kind=6 then lQ k c else if c.kind=7 then mM k c
 else if c.kind=8\/c.kind=9 then f_ k c else if c.kind=10\/c.kind=11 then access k c
 else (k,0,3)
def cO (k:Kernel) (c:Call):Out:=if (qm k c).2.2≠0 then (k,0,(qm k c).2.2) else qm k c
def QH (k:Kernel) (c:Call):Out:=if !az k||!bK c.env 0 2 then (Kernel.zero,0,5) else cO k c
def uK (s:Kernel×List Int) (c:Call):Kernel×List Int:=
 if bK c.env 0 2 then ((cO s.1 c).1,s.2 ++ [(cO s.1 c).2.2]) else (s.1,s.2 ++ [5])
def QI (k:Kernel) (cs:List Call):Kernel×List Int:=if !az k then (Kernel.zero,[]) else cs.foldl uK (k,[])
/-! the pager -/
def sA:Str:=⟨#[97]⟩
def jE (s:List (List Int)):Bool:=s.all (fun ws=>ws.isEmpty||dQ ws)&&s.length==16
def dC (p:aH) (n:Nat):Bool:=
 let x:=aA p.pages n
 let w:=word p.k.mem ((p.low.getD (n / 4) 0).toNat) (n % 4)
 if x.wh=0 then x==dV.zero&&w==0
 else if x.wh=1 then bK x.at_ 0 11&&w==put x.at_.toNat true&&decide ((inf p.k.ag x.at_.toNat).guard=sA)&&(inf p.k.ag x.at_.toNat).refs==1
 else if x.wh=2 then bK x.at_ 0 15&&!(row p.swap x.at_.toNat).isEmpty&&!x.used&&w==0
 else false
def oN (p:aH) (root i:Nat):Bool:=
 let f:=p.low.getD i 0
 bK f 0 11&&word p.k.mem root i==put f.toNat true&&decide ((inf p.k.ag f.toNat).guard=sA)&&(inf p.k.ag f.toNat).refs==1
def iC (p:aH):Bool:=
 let root:=(au p.k.ah 0).root
 !decide (root<0)&&p.low.length==4&&decide ((inf p.k.ag root.toNat).guard=sA)&&(inf p.k.ag root.toNat).refs==1&&(Ao 4).all (oN p root.toNat)
def alone (k:Kernel):Bool:=(k.ah.drop 1).all (fun e=>!may e.aB sA)&&may (au k.ah 0).aB sA
def countP (p:aH) (wh:Int):Nat:=p.pages.countP fun x=>x.wh==wh
def qf (p:aH) (i:Nat):Nat:=p.pages.countP fun x=>x.wh==2&&x.at_==(i:Int)
def mV (p:aH):Bool:=(Ao p.swap.length).all fun i=>qf p i==if (row p.swap i).isEmpty then 0 else 1
def bI (p:aH):Bool:=
 az p.k&&jE p.swap&&alone p.k&&iC p&&p.pages.length==16&&mV p&&(Ao 16).all (dC p) &&
  bK p.hand 0 15&&bK p.limit 1 6&&decide ((countP p 1:Int)<=p.limit)
end Kx
namespace Kx
/-! ### entries -/
theorem tC {w:Int} {g:Nat} {b:Bool}:entry w=some (g,b)↔g<12/\w=put g b:=by
 unfold entry put
 by_cases h:0<w/\w % 2=1/\w<48
 ·rw [if_pos h];simp only [AG,Prod.mk.injEq];constructor
  ·rintro ⟨rfl,rfl⟩;refine ⟨by omega,?_⟩
   by_cases h3:w % 4=3
   ·simp [h3];omega
   simp [h3];omega
  rintro ⟨hg,hw⟩
  cases b
  ·simp at hw;refine ⟨by omega,?_⟩;simp;omega
  simp at hw;refine ⟨by omega,?_⟩;simp;omega
 rw [if_neg h];constructor
 ·intro h';cases h'
 rintro ⟨hg,hw⟩
 cases b <;> simp at hw <;> omega
theorem jf {g:Nat} (h:g<12) (b:Bool):entry (put g b)=some (g,b):=tC.2 ⟨h,rfl⟩
theorem g_:entry 0=none:=rfl
theorem dU {w:Int} {g:Nat} {b:Bool} (h:entry w=some (g,b)):g<12:=(tC.1 h).1
/-! ### lists -/
theorem rC {m:List (List Int)} {f g:Nat} {x:List Int} (hf:f<m.length):row (m.set f x) g=if g=f then x else row m g:=by
 unfold row
 by_cases h:g=f
 ·subst h;simp [hf]
 simp [h,List.getElem?_set_ne (Ne.symm h)]
theorem nJ {l:List aG} {f g:Nat} {x:aG} (hf:f<l.length):inf (l.set f x) g=if g=f then x else inf l g:=by
 unfold inf
 by_cases h:g=f
 ·subst h;simp [hf]
 simp [h,List.getElem?_set_ne (Ne.symm h)]
theorem mr {l:List Env} {f g:Nat} {x:Env} (hf:f<l.length):au (l.set f x) g=if g=f then x else au l g:=by
 unfold au
 by_cases h:g=f
 ·subst h;simp [hf]
 simp [h,List.getElem?_set_ne (Ne.symm h)]
theorem Em {l:List Int} {f g:Nat} {x:Int} (hf:f<l.length):(l.set f x).getD g 0=if g=f then x else l.getD g 0:=by
 by_cases h:g=f
 ·subst h;simp [hf]
 simp [h,List.getElem?_set_ne (Ne.symm h)]
theorem row_mem {m:List (List Int)} {f:Nat} (h:f<m.length):row m f ∈ m:=by
 unfold row;rw [A9,A' h];exact A4 h
theorem ry {l:List aG} {f:Nat} (h:f<l.length):inf l f ∈ l:=by
 unfold inf;rw [A9,A' h];exact A4 h
theorem Be {l:List Env} {f:Nat} (h:f<l.length):au l f ∈ l:=by
 unfold au;rw [A9,A' h];exact A4 h
theorem BZ {l:List aG} {x:aG} (h:x ∈ l):∃ f,f<l.length/\inf l f=x:=by
 obtain ⟨f,hf,rfl⟩:=A3 h;exact ⟨f,hf,by simp [inf,hf]⟩
theorem wB {l:List Env} {x:Env} (h:x ∈ l):∃ f,f<l.length/\au l f=x:=by
 obtain ⟨f,hf,rfl⟩:=A3 h;exact ⟨f,hf,by simp [au,hf]⟩
theorem mem_row {m:List (List Int)} {x:List Int} (h:x ∈ m):∃ f,f<m.length/\row m f=x:=by
 obtain ⟨f,hf,rfl⟩:=A3 h;exact ⟨f,hf,by simp [row,hf]⟩
theorem getD_mem {l:List Int} {f:Nat} (h:f<l.length):l.getD f 0 ∈ l:=by
 rw [A9,A' h];exact A4 h
theorem Lh {l:List Int} {x:Int} (h:x ∈ l):∃ f,f<l.length/\l.getD f 0=x:=by
 obtain ⟨f,hf,rfl⟩:=A3 h;exact ⟨f,hf,by simp [hf]⟩
theorem iL {ws:List Int} {g:Nat}:g ∈ ax ws↔∃ w ∈ ws,∃ b,entry w=some (g,b):=by
 unfold ax;rw [List.mem_filterMap];constructor
 ·rintro ⟨w,hw,h⟩;rcases he:entry w with _ | ⟨g',b⟩
  ·simp [he] at h
  simp [he] at h;subst h;exact ⟨w,hw,b,he⟩
 rintro ⟨w,hw,b,he⟩;exact ⟨w,hw,by simp [he]⟩
theorem kE {ws:List Int} {g:Nat} (h:g ∈ ax ws):g<12:=by
 obtain ⟨w,_,b,he⟩:=iL.1 h;exact dU he
theorem nG {l:List Nat} {g:Nat}:g ∈ fE l↔g<12/\g ∈ l:=by simp [fE]
theorem lD {m:List (List Int)} {r g:Nat}:g ∈ tables m r↔g ∈ ax (row m r):=by
 unfold tables;rw [nG];exact ⟨fun h=>h.2,fun h=>⟨kE h,h⟩⟩
theorem En {m:List (List Int)} {r g:Nat}:g ∈ fO m r↔∃ t,t ∈ ax (row m r)/\g ∈ ax (row m t):=by
 unfold fO;rw [nG,List.mem_flatMap];constructor
 ·rintro ⟨_,t,ht,hg⟩;exact ⟨t,lD.1 ht,hg⟩
 rintro ⟨t,ht,hg⟩;exact ⟨kE hg,t,lD.2 ht,hg⟩
theorem iY {m:List (List Int)} {root:Int} {g:Nat} :
  g ∈ reach m root↔0<=root/\g<12/\(g=root.toNat\/g ∈ ax (row m root.toNat)\/∃ t,t ∈ ax (row m root.toNat)/\g ∈ ax (row m t)):=by
 unfold reach
 by_cases h:root<0
 ·rw [if_pos h];simp;omega
 rw [if_neg h,nG];simp only [List.mem_cons,List.mem_append,lD,En];constructor
 ·rintro ⟨h1,h2⟩;exact ⟨by omega,h1,h2⟩
 rintro ⟨_,h1,h2⟩;exact ⟨h1,h2⟩
theorem CJ {m m':List (List Int)} {r:Nat} (h:row m r=row m' r):tables m r=tables m' r:=by unfold tables;rw [h]
theorem xk {m m':List (List Int)} {root:Int} (h:0<=root->row m root.toNat=row m' root.toNat)
  (ht:0<=root->∀ t,t ∈ ax (row m root.toNat)->row m t=row m' t):reach m root=reach m' root:=by
 unfold reach
 by_cases hr:root<0
 ·rw [if_pos hr,if_pos hr]
 rw [if_neg hr,if_neg hr];have h1:=h (by omega);have e1:tables m root.toNat=tables m' root.toNat:=CJ h1;have e2:fO m root.toNat=fO m' root.toNat:=by
  unfold fO;rw [<-e1];congr 1;have:∀ l:List Nat,(∀ t ∈ l,t ∈ ax (row m root.toNat))->l.flatMap (fun t=>ax (row m t))=l.flatMap (fun t=>ax (row m' t)):=by
   intro l
   induction l with
   | nil=>intro _;rfl
   | cons a l ih =>
    intro hl;rw [List.flatMap_cons,List.flatMap_cons,ih (fun t ht'=>hl t (by simp [ht'])),ht (by omega) a (hl a (by simp))]
  exact this _ (fun t ht'=>lD.1 ht')
 rw [e1,e2]
/-! ### shapes -/
theorem jC {m:List (List Int)}:bW m=true↔m.length=12/\∀ f,f<12->(row m f).length=4/\∀ w ∈ row m f,0<=w/\w<=9999:=by
 unfold bW dQ CG;simp only [Ax,A5,beq_iff_eq,ay];constructor
 ·rintro ⟨h,hl⟩;refine ⟨hl,fun f hf=>?_⟩
  have:=h _ (row_mem (m:=m) (f:=f) (by omega))
  exact ⟨this.2,this.1⟩
 rintro ⟨hl,h⟩;refine ⟨fun x hx=>?_,hl⟩
 obtain ⟨f,hf,rfl⟩:=mem_row hx;exact ⟨(h f (by omega)).2,(h f (by omega)).1⟩
theorem kz {l:List aG}:bC l=true↔l.length=12/\∀ f,f<12->cZ (inf l f)=true:=by
 unfold bC;simp only [Ax,A5,beq_iff_eq];constructor
 ·rintro ⟨h,hl⟩;exact ⟨hl,fun f hf=>h _ (ry (by omega))⟩
 rintro ⟨hl,h⟩;refine ⟨fun x hx=>?_,hl⟩
 obtain ⟨f,hf,rfl⟩:=BZ hx;exact h f (by omega)
theorem gZ {x:aG}:cZ x=true↔x=aG.zero\/(1<=x.kind/\x.kind<=3/\bT x.guard=true/\0<=x.refs/\x.refs<=50):=by
 unfold cZ
 by_cases h:x.kind=0
 ·rw [if_pos h];simp only [beq_iff_eq];constructor
  ·exact .inl
  rintro (h' | h')
  ·exact h'
  omega
 rw [if_neg h];simp only [Ax,ay];constructor
 ·rintro ⟨⟨h1,h2⟩,h3⟩;exact .inr ⟨h1.1,h1.2,h2,h3.1,h3.2⟩
 rintro (h' | ⟨h1,h2,h3,h4,h5⟩)
 ·subst h';exact absurd rfl h
 exact ⟨⟨⟨h1,h2⟩,h3⟩,h4,h5⟩
theorem dF {k:Int}:aX k=true↔k=2\/k=3:=by simp [aX]
theorem I7 (s:Str):may [AH] s=true:=by
 have h:pre AH s=true:=by unfold pre;rfl
 simp [may,h]
end Kx
namespace Kx
/-! ### counting -/
theorem xW {F F':Nat->Nat} {f:Nat}:∀ {n:Nat},f<n->(∀ i,i<n->i≠f->F' i=F i)->((Ao n).map F').sum+F f=((Ao n).map F).sum+F' f
 | 0,h,_=>absurd h (by omega)
 | n+1,hf,h=>by
  rw [List.range_succ,List.map_append,List.map_append,List.sum_append,List.sum_append];simp only [List.map_cons,List.map_nil,List.sum_cons,List.sum_nil,Av]
  by_cases hn:f=n
  ·subst hn;have e:(Ao f).map F'=(Ao f).map F:=List.map_congr_left fun i hi=>h i (by simp at hi;omega) (by simp at hi;omega)
   rw [e];omega
  have:=xW (n:=n) (by omega) (fun i hi=>h i (by omega))
  rw [h n (by omega) (Ne.symm hn)];omega
theorem uM {F F':Nat->Nat} {n:Nat} (h:∀ i,i<n->F' i=F i):((Ao n).map F').sum=((Ao n).map F).sum:=by
 rw [List.map_congr_left fun i hi=>h i (by simpa using hi)]
theorem CB {F:Nat->Nat} {b:Nat}:∀ {n:Nat},(∀ i,i<n->F i<=b)->((Ao n).map F).sum<=n*b
 | 0,_=>by simp
 | n+1,h=>by
  rw [List.range_succ,List.map_append,List.sum_append,Nat.succ_mul];have:=CB (n:=n) (fun i hi=>h i (by omega))
  have:=h n (by omega)
  simp;omega
theorem Ll {F:Nat->Nat} {f:Nat}:∀ {n:Nat},f<n->F f<=((Ao n).map F).sum
 | 0,h=>absurd h (by omega)
 | n+1,h=>by
  rw [List.range_succ,List.map_append,List.sum_append];simp only [List.map_cons,List.map_nil,List.sum_cons,List.sum_nil,Av]
  by_cases hn:f=n
  ·subst hn;omega
  have:=Ll (F:=F) (n:=n) (f:=f) (by omega);omega
def nm (w:Int) (g:Nat):Nat:=if (entry w).map (·.1)=some g then 1 else 0
theorem xn (w:Int) (ws:List Int) (g:Nat):(ax (w :: ws)).count g=nm w g+(ax ws).count g:=by
 unfold nm ax;rw [List.filterMap_cons];rcases entry w with _ | ⟨f,b⟩
 ·simp
 simp only [Option.map_some,List.count_cons,AG]
 by_cases h:f=g <;> simp [h];omega
theorem count_set (g:Nat) (c:Int):∀ (ws:List Int) (b:Nat),b<ws.length->(ax (ws.set b c)).count g+nm (ws.getD b 0) g=(ax ws).count g+nm c g
 | [],b,h=>by simp at h
 | w :: ws,0,_=>by simp only [A1,xn,List.getD_cons_zero];omega
 | w :: ws,b+1,h=>by
  have:=count_set g c ws b (by simpa using h)
  simp only [A2,xn,List.getD_cons_succ];omega
theorem count_le (ws:List Int) (g:Nat):(ax ws).count g<=ws.length:=
 As List.count_le_length (by unfold ax;exact List.length_filterMap_le _ _)
theorem countP_set {α:Type} (p:α->Bool) (x d:α):∀ (l:List α) (e:Nat),e<l.length->(l.set e x).countP p+(if p (l.getD e d) then 1 else 0)=l.countP p+if p x then 1 else 0
 | [],_,h=>by simp at h
 | a :: l,0,_=>by simp only [A1,List.countP_cons,List.getD_cons_zero];omega
 | a :: l,e+1,h=>by
  have:=countP_set p x d l e (by simpa using h)
  simp only [A2,List.countP_cons,List.getD_cons_succ];omega
theorem nV {α:Type} {p:α->Bool} {l:List α} {x:α} (hx:x ∈ l) (hp:p x=true):0<l.countP p:=List.countP_pos_iff.2 ⟨x,hx,hp⟩
def oW (m:List (List Int)) (l:List aG) (g f:Nat):Nat:=if aX (inf l f).kind then (ax (row m f)).count g else 0
theorem fV (m:List (List Int)) (l:List aG) (g:Nat):gI m l g=((Ao 12).map (oW m l g)).sum:=rfl
theorem lU {l:List aG} {f g:Nat} {d:Int} (hf:f<l.length):inf (aF l f d) g=if g=f then { inf l f with refs:=(inf l f).refs+d } else inf l g:=nJ hf
theorem fD {l:List aG} {f:Nat} {d:Int}:(aF l f d).length=l.length:=by simp [aF]
theorem h_ {d:Int}:∀ (fs:List Nat) (l:List aG),(bD l fs d).length=l.length
 | [],_=>rfl
 | f :: fs,l=>by show (bD (aF l f d) fs d).length=_;rw [h_ fs,fD]
theorem xq {d:Int}:∀ (fs:List Nat) (l:List aG) (g:Nat),(∀ f ∈ fs,f<l.length) ->
  inf (bD l fs d) g={ inf l g with refs:=(inf l g).refs+d*(fs.count g:Int) }
 | [],l,g,_=>by show inf l g=_;simp
 | f :: fs,l,g,h=>by
  show inf (bD (aF l f d) fs d) g=_
  rw [xq fs _ g (fun x hx=>by rw [fD];exact h x (by simp [hx])),lU (h f (by simp))]
  by_cases hg:g=f
  ·subst hg;simp only [if_true,List.count_cons_self];congr 1;have:((fs.count g+1:Nat):Int)=(fs.count g:Int)+1:=by omega
   rw [this,Int.mul_add];omega
  simp only [if_neg hg];rw [List.count_cons_of_ne (Ne.symm hg)]
/-! ### validity -/
structure Ok (k:Kernel):Prop where
 m12:k.mem.length=12
 m4:∀ f,f<12->(row k.mem f).length=4
 mw:∀ f,f<12->∀ w ∈ row k.mem f,0<=w/\w<=9999
 i12:k.ag.length=12
 I8:∀ f,f<12->cZ (inf k.ag f)=true
 Ph:dA k.cache=true
 e3:k.ah.length=3
 Lm:∀ e,e<3->aS (au k.ah e).aB=true
 root:∀ e,e<3->(au k.ah e).root=-1\/(0<=(au k.ah e).root/\(au k.ah e).root<=11/\(inf k.ag (au k.ah e).root.toNat).kind=3)
 all:∀ e,e<3->∀ f,f ∈ reach k.mem (au k.ah e).root->may (au k.ah e).aB (inf k.ag f).guard=true
 tab:∀ f,f<12->aX (inf k.ag f).kind=true->∀ w ∈ row k.mem f,w=0\/∃ g b,entry w=some (g,b)/\g≠f/\(inf k.ag g).kind=(inf k.ag f).kind - 1
 refs:∀ g,g<12->(inf k.ag g).refs=((gI k.mem k.ag g+eF k.ah g:Nat):Int)
 ct:∀ x ∈ k.cache,eH k x=true
theorem rD {k:Kernel} {e:Env}:qw k e=true↔aS e.aB=true/\(e.root=-1\/(0<=e.root/\e.root<=11/\(inf k.ag e.root.toNat).kind=3))/\∀ f ∈ reach k.mem e.root,may e.aB (inf k.ag f).guard=true:=by
 unfold qw allowed;simp only [Ax,ay,AF,decide_eq_true_eq,beq_iff_eq,A5];constructor
 ·rintro ⟨⟨⟨h1,h2⟩,h3⟩,h4⟩;refine ⟨h1,?_,h4⟩;rcases h3 with h3 | h3
  ·exact .inl (by omega)
  by_cases h:e.root<0
  ·exact .inl (by omega)
  exact .inr ⟨by omega,by omega,h3⟩
 rintro ⟨h1,h2,h4⟩;refine ⟨⟨⟨h1,?_⟩,?_⟩,h4⟩
 ·rcases h2 with h2 | h2 <;> omega
 rcases h2 with h2 | h2
 ·exact .inl (by omega)
 exact .inr h2.2.2
theorem wC {m:List (List Int)} {l:List aG} {f:Nat} {kind:Int} {aB:List Str} :
  rowOk m l f kind aB=true↔∀ w ∈ row m f,w=0\/∃ g b,entry w=some (g,b)/\g≠f/\(inf l g).kind=kind - 1/\may aB (inf l g).guard=true:=by
 unfold rowOk;rw [A5];refine forall_congr' fun w=>forall_congr' fun _=>?_
 unfold gK;rcases h:entry w with _ | ⟨g,b⟩
 ·simp
 simp only [Ax,bne_iff_ne,beq_iff_eq];constructor
 ·rintro ⟨⟨h1,h2⟩,h3⟩;exact .inr ⟨g,b,rfl,h1,h2,h3⟩
 rintro (h0 | ⟨g',b',he,h1,h2,h3⟩)
 ·subst h0;rw [g_] at h;cases h
 simp only [AG,Prod.mk.injEq] at he;obtain ⟨rfl,rfl⟩:=he;exact ⟨⟨h1,h2⟩,h3⟩
theorem nN {k:Kernel}:az k=true↔Ok k:=by
 unfold az iw mD mF gV;simp only [Ax,A5,beq_iff_eq,jC,kz,List.mem_range,AF,Ay,wC];constructor
 ·rintro ⟨⟨⟨⟨⟨⟨⟨h1,h2⟩,h3,h4⟩,h5⟩,h6,h7⟩,h8⟩,h9⟩,h10⟩;have he:∀ e,e<3->qw k (au k.ah e)=true:=fun e he=>h6 _ (Be (by omega))
  refine ⟨h1,fun f hf=>(h2 f hf).1,fun f hf=>(h2 f hf).2,h3,h4,h5,h7,fun e h=>(rD.1 (he e h)).1,fun e h=>(rD.1 (he e h)).2.1,fun e h=>(rD.1 (he e h)).2.2,?_,h9,h10⟩
  intro f hf ht w hw;rcases h8 f hf with h | h
  ·rw [ht] at h;cases h
  rcases h w hw with h | ⟨g,b,h1,h2,h3,_⟩
  ·exact .inl h
  exact .inr ⟨g,b,h1,h2,h3⟩
 intro h;refine ⟨⟨⟨⟨⟨⟨⟨h.m12,fun f hf=>⟨h.m4 f hf,h.mw f hf⟩⟩,h.i12,h.I8⟩,h.Ph⟩,fun e he=>?_,h.e3⟩,fun f hf=>?_⟩,h.refs⟩,h.ct⟩
 ·obtain ⟨i,hi,rfl⟩:=wB he;exact rD.2 ⟨h.Lm i (by rw [<-h.e3];exact hi),h.root i (by rw [<-h.e3];exact hi),h.all i (by rw [<-h.e3];exact hi)⟩
 cases ht:aX (inf k.ag f).kind
 ·exact .inl rfl
 right
 intro w hw;rcases h.tab f hf ht w hw with h | ⟨g,b,h1,h2,h3⟩
 ·exact .inl h
 exact .inr ⟨g,b,h1,h2,h3,I7 _⟩
section
variable {k:Kernel} (h:Ok k)
include h
theorem Ok.names {t g:Nat} (ht:t<12) (hk:aX (inf k.ag t).kind=true) (hg:g ∈ ax (row k.mem t)):g<12/\g≠t/\(inf k.ag g).kind=(inf k.ag t).kind - 1:=by
 obtain ⟨w,hw,b,he⟩:=iL.1 hg;rcases h.tab t ht hk w hw with h0 | ⟨g',b',he',h1,h2⟩
 ·subst h0;rw [g_] at he;cases he
 rw [he] at he';simp only [AG,Prod.mk.injEq] at he';obtain ⟨rfl,rfl⟩:=he';exact ⟨dU he,h1,h2⟩
theorem Ok.iG {t g:Nat} (ht:t<12) (hk:aX (inf k.ag t).kind=true) (hg:g ∈ ax (row k.mem t)):1<=(inf k.ag g).refs:=by
 have zM:=kE hg;have h1:oW k.mem k.ag g t<=gI k.mem k.ag g:=by rw [fV];exact Ll (F:=oW k.mem k.ag g) ht
 have h2:1<=oW k.mem k.ag g t:=by
  unfold oW;rw [if_pos hk];exact List.count_pos_iff.2 hg
 rw [h.refs g zM];omega
theorem Ok.qN {e:Nat} (he:e<3) (hr:0<=(au k.ah e).root):1<=(inf k.ag (au k.ah e).root.toNat).refs:=by
 have lL:(au k.ah e).root<=11:=by rcases h.root e he with h1 | h1 <;> omega
 have h1:0<eF k.ah (au k.ah e).root.toNat:=nV (x:=au k.ah e) (Be (by rw [h.e3];exact he)) (by simp;omega);rw [h.refs _ (by omega)];omega
theorem Ok.top {e:Nat} (he:e<3) (hr:0<=(au k.ah e).root):(inf k.ag (au k.ah e).root.toNat).kind=3/\(au k.ah e).root.toNat<12:=by
 rcases h.root e he with h1 | h1
 ·omega
 exact ⟨h1.2.2,by omega⟩
theorem Ok.deep {r t g:Nat} (hr:r<12) (hk:(inf k.ag r).kind=3) (ht:t ∈ ax (row k.mem r)) (hg:g ∈ ax (row k.mem t)):(inf k.ag t).kind=2/\(inf k.ag g).kind=1/\t<12/\g<12:=by
 have h1:=h.names hr (dF.2 (.inr hk)) ht;have h2:=h.names h1.1 (dF.2 (.inl (by omega))) hg;exact ⟨by omega,by omega,h1.1,h2.1⟩
theorem Ok.reached {e f:Nat} (he:e<3) (hf:f ∈ reach k.mem (au k.ah e).root):f<12/\1<=(inf k.ag f).refs/\1<=(inf k.ag f).kind:=by
 obtain ⟨h0,h1,h2⟩:=iY.1 hf;have ht:=h.top he h0;rcases h2 with rfl | h2 | ⟨t,h2,h3⟩
 ·exact ⟨ht.2,h.qN he h0,by omega⟩
 ·have hn:=h.names ht.2 (dF.2 (.inr ht.1)) h2;exact ⟨hn.1,h.iG ht.2 (dF.2 (.inr ht.1)) h2,by omega⟩
 have hd:=h.deep ht.2 ht.1 h2 h3;exact ⟨hd.2.2.2,h.iG hd.2.2.1 (dF.2 (.inl hd.1)) h3,by omega⟩
end
theorem GK {m:List (List Int)} {l:List aG} {ah:List Env} (hm:∀ f,f<12->(row m f).length=4) (he:ah.length=3)
  (ht:∀ f,f<12->aX (inf l f).kind=true->∀ g,g ∈ ax (row m f)->g≠f/\(inf l g).kind=(inf l f).kind - 1)
  (hr:∀ e ∈ ah,e.root=-1\/(0<=e.root/\e.root<=11/\(inf l e.root.toNat).kind=3)) (g:Nat) (hg:g<12):gI m l g+eF ah g<=50:=by
 have hc:∀ f,f<12->oW m l g f<=4:=fun f hf=>by
  unfold oW;split
  ·exact As (count_le _ _) (by rw [hm f hf];omega)
  omega
 have Pj:∀ f,f<12->(f=g\/(inf l g).kind=3)->oW m l g f=0:=fun f hf hfg=>by
  unfold oW;split
  ·rename_i hk
   refine List.count_eq_zero.2 fun hm=>?_
   have:=ht f hf hk g hm
   have:=dF.1 hk
   omega
  rfl
 have XN:eF ah g<=3:=by unfold eF;rw [<-he];exact List.countP_le_length
 by_cases h3:(inf l g).kind=3
 ·have:gI m l g=0:=by
   have hs:((Ao 12).map (oW m l g)).sum=((Ao 12).map fun _=>0).sum:=uM fun f hf=>Pj f hf (.inr h3)
   rw [fV,hs];decide
  omega
 have h0:eF ah g=0:=by
  unfold eF;refine List.countP_eq_zero.2 fun e hm=>?_
  rcases hr e hm with h | h
  ·simp;omega
  simp only [beq_iff_eq];intro heq;rw [heq] at h;simp at h;omega
 have h1:=xW (n:=12) (f:=g) (F:=fun f=>if f=g then 4 else oW m l g f) (F':=oW m l g) hg (fun i _ hi=>by simp [hi]);have h2:((Ao 12).map fun f=>if f=g then 4 else oW m l g f).sum<=12*4:=CB fun f hf=>by
  split
  ·omega
  exact hc f hf
 have h3:=Pj g hg (.inl rfl);simp only [if_pos] at h1;rw [fV];omega
/-! ### the cache -/
def key (x y:Cached):Prop:=¬ (x.env=y.env/\x.page=y.page)
theorem jq {c:List Cached}:dA c=true↔(∀ x ∈ c,dn x=true)/\c.Pairwise key/\c.length<=4:=by
 unfold dA;simp only [Ax,A5,List.mem_range,decide_eq_true_eq,Ay];have hget:∀ i (hi:i<c.length),c.getD i Cached.zero=c[i]:=fun i hi=>by simp [hi]
 constructor
 ·rintro ⟨h,hl⟩;refine ⟨fun x hx=>?_,?_,hl⟩
  ·obtain ⟨i,hi,rfl⟩:=A3 hx;have:=(h i hi).1;rwa [hget i hi] at this
  rw [List.pairwise_iff_getElem];intro i j hi hj hij hk;have:=(h j hj).2;rw [hget j hj] at this;have hex:∃ i',i'<=i/\iW c c[j].env c[j].page=some i':=by
   unfold iW
   cases hf:c.findIdx? fun x=>x.env==c[j].env&&x.page==c[j].page with
   | none =>
    rw [List.findIdx?_eq_none_iff] at hf;have:=hf c[i] (A4 hi);simp [hk.1,hk.2] at this
   | some i' =>
    refine ⟨i',?_,rfl⟩;obtain ⟨hi',_,hlt⟩:=List.findIdx?_eq_some_iff_getElem.1 hf;refine Nat.not_lt.1 fun hc=>?_
    have:=hlt i hc
    simp [hk.1,hk.2] at this
  obtain ⟨i',hle,he⟩:=hex;rw [he] at this;simp at this;omega
 rintro ⟨h1,h2,h3⟩;refine ⟨fun i hi=>⟨?_,?_⟩,h3⟩
 ·rw [hget i hi];exact h1 _ (A4 hi)
 rw [hget i hi]
 cases hf:iW c c[i].env c[i].page with
 | none=>rfl
 | some j =>
  unfold iW at hf;obtain ⟨hj,hp,_⟩:=List.findIdx?_eq_some_iff_getElem.1 hf;simp only [decide_eq_false_iff_not];intro hji;have:=List.pairwise_iff_getElem.1 h2 j i hj hi hji;simp only [Ax,beq_iff_eq] at hp;exact this hp
theorem qO {c:List Cached} (p:Cached->Bool) (h:dA c=true):dA (c.filter p)=true:=by
 obtain ⟨h1,h2,h3⟩:=jq.1 h;exact jq.2 ⟨fun x hx=>h1 x (List.mem_filter.1 hx).1,h2.filter p,As (Ab _ _) h3⟩
theorem GL (c:List Cached) (x:Cached):∃ o o':List Cached,o=c.filter (fun y=>y.env != x.env||y.page != x.page)/\o'=(if 4<=o.length then o.drop 1 else o)/\qp c x=o' ++ [x]:=⟨_,_,rfl,rfl,rfl⟩
theorem Eo {c:List Cached} {x:Cached} (h:dA c=true) (hx:dn x=true):dA (qp c x)=true:=by
 obtain ⟨h1,h2,h3⟩:=jq.1 h;obtain ⟨o,o',ho,ho',hc⟩:=GL c x;rw [hc];have ho1:∀ y ∈ o,dn y=true/\key y x:=fun y hy=>by
  rw [ho] at hy;obtain ⟨hy1,hy2⟩:=List.mem_filter.1 hy;refine ⟨h1 y hy1,fun hk=>?_⟩
  simp [hk.1,hk.2] at hy2
 have ho2:o.Pairwise key:=by rw [ho];exact h2.filter _
 have ho3:o.length<=4:=by rw [ho];exact As (Ab _ _) h3
 have hs:o'.Sublist o:=by
  rw [ho'];split
  ·exact List.drop_sublist _ _
  exact List.Sublist.refl _
 have hl:o'.length<=3:=by
  rw [ho'];split
  ·rw [List.length_drop];omega
  omega
 refine jq.2 ⟨fun y hy=>?_,?_,by rw [List.length_append];simp;omega⟩
 ·simp only [List.mem_append,List.mem_singleton] at hy;rcases hy with hy | rfl
  ·exact (ho1 y (hs.subset hy)).1
  exact hx
 rw [List.pairwise_append];refine ⟨ho2.sublist hs,by simp,fun y hy z hz=>?_⟩
 simp only [List.mem_singleton] at hz;subst hz;exact (ho1 y (hs.subset hy)).2
theorem Lp {c:List Cached} {x y:Cached} (h:y ∈ qp c x):y ∈ c\/y=x:=by
 obtain ⟨o,o',ho,ho',hc⟩:=GL c x;rw [hc,List.mem_append,List.mem_singleton] at h;rcases h with h | h
 ·left
  have:y ∈ o:=by
   rw [ho'] at h;split at h
   ·exact List.mem_of_mem_drop h
   exact h
  rw [ho] at this;exact (List.mem_filter.1 this).1
 exact .inr h
end Kx
namespace Kx
theorem iP {m:List (List Int)} {r i t:Nat} {b:Bool} (h:entry (word m r i)=some (t,b)):t ∈ ax (row m r):=by
 unfold word at h
 by_cases hi:i<(row m r).length
 ·exact iL.2 ⟨_,getD_mem hi,b,h⟩
 rw [A9,List.getElem?_eq_none (by omega)] at h
 cases h
theorem F9 {m m':List (List Int)} {root ad:Nat} (h:row m root=row m' root) (ht:∀ t,t ∈ ax (row m root)->row m t=row m' t):walk m root ad=walk m' root ad:=by
 unfold walk;have e1:word m' root (ad / 16)=word m root (ad / 16):=by unfold word;rw [h]
 rw [e1]
 cases he:entry (word m root (ad / 16)) with
 | none=>rfl
 | some p =>
  obtain ⟨t,a⟩:=p;have e2:word m' t (ad / 4 % 4)=word m t (ad / 4 % 4):=by unfold word;rw [ht t (iP he)]
  simp only [e2]
theorem v_ {m:List (List Int)} {root ad:Nat} {p:Int×Int×Bool} (h:walk m root ad=(p,0)) :
  ∃ t f a b,entry (word m root (ad / 16))=some (t,a)/\entry (word m t (ad / 4 % 4))=some (f,b)/\p=((f:Int),((ad % 4:Nat):Int),a&&b)/\t ∈ ax (row m root)/\f ∈ ax (row m t):=by
 unfold walk at h
 cases he:entry (word m root (ad / 16)) with
 | none=>rw [he] at h;simp at h
 | some q =>
  obtain ⟨t,a⟩:=q;rw [he] at h;simp only at h
  cases he':entry (word m t (ad / 4 % 4)) with
  | none=>rw [he'] at h;simp at h
  | some q =>
   obtain ⟨f,b⟩:=q;rw [he'] at h;simp only [Prod.mk.injEq,and_true] at h;exact ⟨t,f,a,b,rfl,he',h.symm,iP he,iP he'⟩
theorem jg {k k':Kernel} {x:Cached} (he:(au k'.ah x.env.toNat).root=(au k.ah x.env.toNat).root)
  (h:0<=(au k.ah x.env.toNat).root->row k.mem (au k.ah x.env.toNat).root.toNat=row k'.mem (au k.ah x.env.toNat).root.toNat)
  (ht:0<=(au k.ah x.env.toNat).root->∀ t,t ∈ ax (row k.mem (au k.ah x.env.toNat).root.toNat)->row k.mem t=row k'.mem t):eH k' x=eH k x:=by
 unfold eH;rw [he];generalize (au k.ah x.env.toNat).root=root at h ht
 by_cases hr:root<0
 ·simp [hr]
 have:=F9 (ad:=4*x.page.toNat) (h (by omega)) (ht (by omega))
 simp only [this]
theorem Ok.Lr {k:Kernel} (h:Ok k) {x:Cached} (hx:x ∈ k.cache):x.env.toNat<3/\0<=x.env/\0<=x.page/\x.page<=15:=by
 have:=(jq.1 h.Ph).1 x hx
 simp only [dn,Ax,ay] at this;omega
theorem Ok.data {k:Kernel} (h:Ok k) {f:Nat} (hf:f<12) {x:aG} {r:List Int} {m':List (List Int)} {l':List aG} (hm:m'.length=12) (hl:l'.length=12)
  (hm':∀ g,row m' g=if g=f then r else row k.mem g) (hl':∀ g,inf l' g=if g=f then x else inf k.ag g)
  (hr4:r.length=4) (hrw:∀ w ∈ r,0<=w/\w<=9999) (hx:cZ x=true) (ht:aX (inf k.ag f).kind=false) (htx:aX x.kind=false)
  (hrefs:x.refs=(inf k.ag f).refs) (hsame:x=inf k.ag f\/(inf k.ag f).refs=0):Ok { k with mem:=m',ag:=l' }:=by
 have hrow:∀ g,g≠f->row m' g=row k.mem g:=fun g hg=>by rw [hm' g,if_neg hg]
 have NL:∀ g,g≠f->inf l' g=inf k.ag g:=fun g hg=>by rw [hl' g,if_neg hg]
 have htab:∀ g,aX (inf l' g).kind=aX (inf k.ag g).kind:=fun g=>by
  by_cases hg:g=f
  ·subst hg;rw [hl' g,if_pos rfl,ht,htx]
  rw [NL g hg]
 have hpos:∀ g,1<=(inf k.ag g).refs->inf l' g=inf k.ag g:=fun g hg=>by
  by_cases hgf:g=f
  ·subst hgf;rcases hsame with e | e
   ·rw [hl' g,if_pos rfl,e]
   omega
  exact NL g hgf
 have hne:∀ g,aX (inf k.ag g).kind=true->g≠f:=fun g hg e=>by subst e;rw [ht] at hg;cases hg
 have hR:∀ e,e<3->0<=(au k.ah e).root->row k.mem (au k.ah e).root.toNat=row m' (au k.ah e).root.toNat:=fun e he h0 =>
  (hrow _ (hne _ (dF.2 (.inr (h.top he h0).1)))).symm
 have hT:∀ e,e<3->0<=(au k.ah e).root->∀ t,t ∈ ax (row k.mem (au k.ah e).root.toNat)->row k.mem t=row m' t:=fun e he h0 t ht=>by
  have h1:=h.top he h0;have h2:=h.names h1.2 (dF.2 (.inr h1.1)) ht;exact (hrow _ (hne _ (dF.2 (.inl (by omega))))).symm
 refine ⟨hm,fun g hg=>?_,fun g hg=>?_,hl,fun g hg=>?_,h.Ph,h.e3,h.Lm,fun e he=>?_,fun e he g hg=>?_,fun t ht' htt w hw=>?_,fun g hg=>?_,fun c hc=>?_⟩
 ·rw [hm' g];split
  ·exact hr4
  exact h.m4 g hg
 ·intro w hw;simp only [hm' g] at hw;split at hw
  ·exact hrw w hw
  exact h.mw g hg w hw
 ·simp only [hl' g];split
  ·exact hx
  exact h.I8 g hg
 ·rcases h.root e he with h1 | ⟨h1,h2,h3⟩
  ·exact .inl h1
  refine .inr ⟨h1,h2,?_⟩;show (inf l' _).kind=3;rw [NL _ (hne _ (dF.2 (.inr h3)))];exact h3
 ·have hre:reach m' (au k.ah e).root=reach k.mem (au k.ah e).root:=(xk (hR e he) (hT e he)).symm;change g ∈ reach m' _ at hg;rw [hre] at hg;show may _ (inf l' g).guard=true;rw [hpos g (h.reached he hg).2.1];exact h.all e he g hg
 ·change aX (inf l' t).kind=true at htt;rw [htab t] at htt;change w ∈ row m' t at hw;rw [hrow t (hne t htt)] at hw;rcases h.tab t ht' htt w hw with h1 | ⟨g,b,h1,h2,h3⟩
  ·exact .inl h1
  refine .inr ⟨g,b,h1,h2,?_⟩;show (inf l' g).kind=(inf l' t).kind - 1;rw [hpos g (h.iG ht' htt (iL.2 ⟨w,hw,b,h1⟩)),NL t (hne t htt)];exact h3
 ·show (inf l' g).refs=((gI m' l' g+eF k.ah g:Nat):Int)
  have e1:(inf l' g).refs=(inf k.ag g).refs:=by
   rw [hl' g];split
   ·rename_i e;subst e;exact hrefs
   rfl
  have e2:gI m' l' g=gI k.mem k.ag g:=by
   rw [fV,fV];refine uM fun i hi=>?_
   unfold oW;rw [htab i]
   by_cases hif:i=f
   ·subst hif;rw [ht];simp
   rw [hrow i hif]
  rw [e1,e2];exact h.refs g hg
 have hl:=h.Lr hc;rw [<-h.ct c hc];exact jg (k:=k) rfl (hR _ hl.1) (hT _ hl.1)
theorem Ok.kinds {k:Kernel} (h:Ok k) {f:Nat} (hf:f<12) {kd:Int} {l':List aG} (hl:l'.length=12) (h0:(inf k.ag f).refs=0)
  (hg':∀ g,(inf l' g).guard=(inf k.ag g).guard) (hk':∀ g,g≠f->(inf l' g).kind=(inf k.ag g).kind) (Np:(inf l' f).kind=kd)
  (hok:∀ g,g<12->cZ (inf l' g)=true)
  (ht:aX kd=true->∀ w ∈ row k.mem f,w=0\/∃ g b,entry w=some (g,b)/\g≠f/\(inf k.ag g).kind=kd - 1)
  (hrefs:∀ g,g<12->(inf l' g).refs+(oW k.mem k.ag g f:Int)=(inf k.ag g).refs+((if aX kd then (ax (row k.mem f)).count g else 0:Nat):Int)):Ok { k with ag:=l' }:=by
 have hpos:∀ g,1<=(inf k.ag g).refs->(inf l' g).kind=(inf k.ag g).kind:=fun g hg=>hk' g (fun e=>by subst e;omega)
 refine ⟨h.m12,h.m4,h.mw,hl,hok,h.Ph,h.e3,h.Lm,fun e he=>?_,fun e he g hg=>?_,fun t ht' htt w hw=>?_,fun g hg=>?_,fun c hc=>?_⟩
 ·rcases h.root e he with h1 | ⟨h1,h2,h3⟩
  ·exact .inl h1
  refine .inr ⟨h1,h2,?_⟩;show (inf l' _).kind=3;rw [hpos _ (h.qN he h1)];exact h3
 ·show may _ (inf l' g).guard=true
  rw [hg' g];exact h.all e he g hg
 ·change aX (inf l' t).kind=true at htt;change w ∈ row k.mem t at hw;show w=0\/∃ g b,entry w=some (g,b)/\g≠t/\(inf l' g).kind=(inf l' t).kind - 1
  by_cases htf:t=f
  ·subst htf;rw [Np] at htt ⊢;rcases ht htt w hw with h1 | ⟨g,b,h1,h2,h3⟩
   ·exact .inl h1
   exact .inr ⟨g,b,h1,h2,by rw [hk' g h2];exact h3⟩
  rw [hk' t htf] at htt ⊢;rcases h.tab t ht' htt w hw with h1 | ⟨g,b,h1,h2,h3⟩
  ·exact .inl h1
  exact .inr ⟨g,b,h1,h2,by rw [hpos g (h.iG ht' htt (iL.2 ⟨w,hw,b,h1⟩))];exact h3⟩
 ·show (inf l' g).refs=((gI k.mem l' g+eF k.ah g:Nat):Int)
  have e:=xW (n:=12) (f:=f) (F:=oW k.mem k.ag g) (F':=oW k.mem l' g) hf (fun i _ hi=>by unfold oW;rw [hk' i hi]);rw [<-fV,<-fV] at e;have e2:oW k.mem l' g f=if aX kd then (ax (row k.mem f)).count g else 0:=by unfold oW;rw [Np]
  have h1:=hrefs g hg;have h2:=h.refs g hg;rw [<-e2] at h1;omega
 rw [<-h.ct c hc];exact jg (k:=k) rfl (fun _=>rfl) (fun _ _ _=>rfl)
theorem wE {l:List aG} {f:Nat} (h:free l=some f):f<l.length/\(inf l f).kind=0:=by
 unfold free at h;obtain ⟨hf,hp,_⟩:=List.findIdx?_eq_some_iff_getElem.1 h;refine ⟨hf,?_⟩;have e:inf l f=l[f]:=by simp [inf,hf]
 rw [e];simpa using hp
theorem uN {k:Kernel} (h:Ok k) {f:Nat} (hf:f<12) (h0:(inf k.ag f).kind=0):inf k.ag f=aG.zero:=by
 rcases gZ.1 (h.I8 f hf) with h1 | h1
 ·exact h1
 omega
theorem qP:cZ aG.zero=true:=by rw [gZ];exact .inl rfl
theorem Ok.take {k:Kernel} (h:Ok k) (c:Call):Ok (take k c).1:=by
 unfold Kx.take;split
 ·exact h
 split
 ·exact h
 rename_i hn _
 split
 ·exact h
 rename_i f hf
 obtain ⟨hf1,hf2⟩:=wE hf;have dG:f<12:=by rw [<-h.i12];exact hf1
 have hz:=uN h dG hf2;have hn':bT c.name=true:=by simpa using hn
 refine h.data dG (x:=⟨1,c.name,0⟩) (r:=[0,0,0,0]) (by simp [h.m12]) (by simp [h.i12]) (fun g=>rC (by rw [h.m12];exact dG)) (fun g=>nJ hf1) rfl ?_ ?_ ?_ rfl ?_ ?_
 ·intro w hw;simp at hw;omega
 ·rw [gZ];right;simp [hn']
 ·rw [hz];rfl
 ·rw [hz];rfl
 right;rw [hz];rfl
theorem fQ {k:Kernel} {c:Call} {kind:Int} (h:aO k c kind=0) :
  0<=c.a/\c.a.toNat<12/\(inf k.ag c.a.toNat).kind≠0/\jQ k c.env (inf k.ag c.a.toNat).guard=true/\(0<kind->(inf k.ag c.a.toNat).kind=kind)/\(kind=0->aX (inf k.ag c.a.toNat).kind=true):=by
 unfold aO at h;split at h
 ·cases h
 rename_i h1
 simp only [Ay,AF,not_or,AE,ay,beq_iff_eq] at h1;split at h
 ·cases h
 rename_i h2
 split at h
 ·cases h
 rename_i h3
 refine ⟨h1.1.1,by omega,h1.2,by simpa using h2,fun hk=>?_,fun hk=>?_⟩
 ·refine Classical.byContradiction fun hc=>h3 (.inl ⟨hk,hc⟩)
 cases ht:aX (inf k.ag c.a.toNat).kind
 ·exact absurd (.inr ⟨hk,ht⟩) h3
 rfl
theorem Ok.give {k:Kernel} (h:Ok k) (c:Call):Ok (give k c).1:=by
 unfold Kx.give;split
 ·exact h
 rename_i hc
 split
 ·exact h
 rename_i hr
 obtain ⟨h0,h12,hk0,_,hk1,_⟩:=fQ (Classical.not_not.1 hc);have hk:=hk1 (by omega);have hr0:(inf k.ag c.a.toNat).refs=0:=by
  rcases gZ.1 (h.I8 _ h12) with h1 | h1
  ·rw [h1];rfl
  omega
 refine h.data h12 (x:=aG.zero) (r:=row k.mem c.a.toNat) h.m12 (by simp [h.i12]) (fun g=>?_) (fun g=>nJ (by rw [h.i12];exact h12)) (h.m4 _ h12) (h.mw _ h12) qP ?_ rfl hr0.symm (.inr hr0)
 ·split
  ·rename_i e;rw [e]
  rfl
 rw [hk];rfl
theorem iH {m:List (List Int)} {f a g:Nat} {x:Int} (hf:f<m.length):row (bG m f a x) g=if g=f then (row m f).set a x else row m g:=rC hf
theorem qQ {m:List (List Int)} {f a:Nat} {x:Int}:(bG m f a x).length=m.length:=by simp [bG]
theorem Ok.write {k:Kernel} (h:Ok k) {f:Nat} (hf:f<12) (hk:(inf k.ag f).kind=1) (a:Nat) {x:Int} (hx:0<=x/\x<=9999):Ok { k with mem:=bG k.mem f a x }:=by
 refine h.data hf (x:=inf k.ag f) (r:=(row k.mem f).set a x) (by rw [qQ];exact h.m12) h.i12 (fun g=>iH (by rw [h.m12];exact hf)) (fun g=>?_) (by rw [Al];exact h.m4 f hf) ?_ (h.I8 f hf) ?_ ?_ rfl (.inl rfl)
 ·split
  ·rename_i e;rw [e]
  rfl
 ·intro w hw;rcases List.mem_or_eq_of_mem_set hw with hw | rfl
  ·exact h.mw f hf w hw
  exact hx
 ·rw [hk];rfl
 rw [hk];rfl
theorem Ok.oP {k:Kernel} (h:Ok k) (c:Call):Ok (oP k c).1:=by
 unfold Kx.oP;split
 ·exact h
 rename_i hc
 split
 ·exact h
 rename_i hr
 simp only [Ay,AF,not_or,AE,ay] at hr;obtain ⟨h0,h12,hk0,_,hk1,_⟩:=fQ (Classical.not_not.1 hc);exact h.write h12 (hk1 (by omega)) _ hr.2
theorem Ep {m:List (List Int)} {l l':List aG} {f kind:Int} {aB:List Str} (h:pin m l f kind aB=(l',0)) :
  0<=f/\f.toNat<12/\bW m=true/\bC l=true/\aX kind=true/\(inf l f.toNat).kind=1/\(inf l f.toNat).refs<=0/\rowOk m l f.toNat kind aB=true/\bC l'=true /\
   l'=bD (setKind l f.toNat kind) (ax (row m f.toNat)) 1:=by
 unfold pin at h;split at h
 ·simp at h
 rename_i h1
 simp only [Ay,Ax,AE,ay] at h1;split at h
 ·simp at h
 rename_i h2
 simp only [not_or,Classical.not_not] at h2;split at h
 ·simp at h
 rename_i h3
 split at h
 ·rename_i h4
  simp only [Prod.mk.injEq,and_true] at h;exact ⟨h1.1.1.1.2.1,by omega,h1.1.1.1.1,h1.1.1.2,h1.1.2,h2.1,by omega,by simpa using h3,by rw [<-h];exact h4,h.symm⟩
 simp at h
theorem zo {m:List (List Int)} {l l':List aG} {f:Int} (h:oL m l f=(l',0)) :
  0<=f/\f.toNat<12/\aX (inf l f.toNat).kind=true/\(inf l f.toNat).refs<=0/\bC l'=true/\l'=bD (setKind l f.toNat 1) (ax (row m f.toNat)) (-1):=by
 unfold oL at h;split at h
 ·simp at h
 rename_i h1
 simp only [Ay,Ax,AE,ay] at h1;split at h
 ·simp at h
 rename_i h2
 simp only [not_or,AE] at h2;split at h
 ·rename_i h4
  simp only [Prod.mk.injEq,and_true] at h;exact ⟨h1.1.2.1,by omega,h2.1,by omega,by rw [<-h];exact h4,h.symm⟩
 simp at h
theorem qR {x:aG} (h:cZ x=true):0<=x.refs/\x.refs<=50:=by
 rcases gZ.1 h with h1 | h1
 ·rw [h1];simp [aG.zero]
 omega
theorem tJ {l:List aG} {f g:Nat} {kd d:Int} {fs:List Nat} (hl:l.length=12) (hf:f<12) (hfs:∀ x ∈ fs,x<12) :
  inf (bD (setKind l f kd) fs d) g={ inf l g with kind:=(if g=f then kd else (inf l g).kind),refs:=(inf l g).refs+d*(fs.count g:Int) }:=by
 have hlen:(setKind l f kd).length=12:=by simp [setKind,hl]
 have hs:inf (setKind l f kd) g={ inf l g with kind:=if g=f then kd else (inf l g).kind }:=by
  unfold setKind;rw [nJ (by rw [hl];exact hf)];split
  ·rename_i e;rw [e]
  rfl
 rw [xq fs _ g (fun x hx=>by rw [hlen];exact hfs x hx),hs]
theorem Ok.pinned {k:Kernel} (h:Ok k) (c:Call) (hd:(pinned k c).2=0):Ok { k with ag:=(pinned k c).1 }:=by
 obtain ⟨l',hp⟩:∃ l',Kx.pinned k c=(l',0):=⟨_,Prod.ext rfl hd⟩;rw [hp];unfold Kx.pinned at hp;have hfs:∀ f:Nat,∀ x ∈ ax (row k.mem f),x<12:=fun f x hx=>kE hx
 split at hp
 ·obtain ⟨h0,h12,_,_,hkd,hk1,hr0,hro,hok,rfl⟩:=Ep hp;have hr:=qR (h.I8 _ h12);have hin:=fun g=>tJ (g:=g) (kd:=c.b) (d:=1) h.i12 h12 (hfs c.a.toNat)
  refine h.kinds h12 (kd:=c.b) (by rw [h_];simp [setKind,h.i12]) (by omega) (fun g=>by rw [hin g]) (fun g hg=>by rw [hin g];simp [hg]) (by rw [hin _];simp) (fun g hg=>(kz.1 hok).2 g hg) ?_ ?_
  ·intro _ w hw;rcases wC.1 hro w hw with h1 | ⟨g,b,h1,h2,h3,_⟩
   ·exact .inl h1
   exact .inr ⟨g,b,h1,h2,h3⟩
  intro g hg;have hc:oW k.mem k.ag g c.a.toNat=0:=by unfold oW;rw [hk1];rfl
  rw [hin g,hc,hkd];simp
 obtain ⟨h0,h12,hkd,hr0,hok,rfl⟩:=zo hp;have hr:=qR (h.I8 _ h12);have hin:=fun g=>tJ (g:=g) (kd:=1) (d:=-1) h.i12 h12 (hfs c.a.toNat)
 refine h.kinds h12 (kd:=1) (by rw [h_];simp [setKind,h.i12]) (by omega) (fun g=>by rw [hin g]) (fun g hg=>by rw [hin g];simp [hg]) (by rw [hin _];simp) (fun g hg=>(kz.1 hok).2 g hg) ?_ ?_
 ·intro hc;cases hc
 intro g hg;have hc:oW k.mem k.ag g c.a.toNat=(ax (row k.mem c.a.toNat)).count g:=by unfold oW;rw [hkd];rfl
 have h1:aX 1=false:=rfl;rw [hin g,hc,h1];simp;omega
theorem uO {k:Kernel} (h:Ok k) (c:Call) (ha:bK c.a 0 11=true) (he:bK c.env 0 2=true) (hb:c.kind=4->aX c.b=true):(pinned k c).2=0\/(pinned k c).2=1\/(pinned k c).2=2:=by
 have hm:bW k.mem=true:=jC.2 ⟨h.m12,fun f hf=>⟨h.m4 f hf,h.mw f hf⟩⟩
 have hi:bC k.ag=true:=kz.2 ⟨h.i12,h.I8⟩;rw [ay] at he;unfold Kx.pinned;split
 ·rename_i h4
  unfold pin;have hr:=h.Lm c.env.toNat (by omega);rw [hm,hi,ha,hb h4,hr];simp only [Bool.and_self,Bool.not_true,Bool.false_eq_true,if_false];split
  ·simp
  split
  ·simp
  split <;> simp
 unfold oL;rw [hm,hi,ha];simp only [Bool.and_self,Bool.not_true,Bool.false_eq_true,if_false];split
 ·simp
 split <;> simp
theorem Ok.lu {k:Kernel} (h:Ok k) (c:Call) (he:bK c.env 0 2=true):Ok (lu k c).1:=by
 unfold Kx.lu;split
 ·exact h
 rename_i h1
 split
 ·exact h
 split
 ·exact h
 rename_i h3
 split
 ·exact h
 rename_i h4
 simp only [Ay,AF,not_or,AE,Ax,not_and,beq_iff_eq] at h1;exact h.pinned c (by rcases uO h c h1.1.1 he h1.2 with h5 | h5 | h5 <;> simp_all)
end Kx
namespace Kx
theorem iI {l:List aG} {w d:Int} {g:Nat} (hl:l.length=12):inf (aP l w d) g={ inf l g with refs:=(inf l g).refs+d*(nm w g:Int) }:=by
 unfold aP nm;rcases he:entry w with _ | ⟨f,b⟩
 ·simp
 have hf:=dU he;rw [lU (by omega)]
 by_cases hg:g=f
 ·subst hg;simp
 simp [hg,Ne.symm hg]
theorem fH {l:List aG} {w d:Int}:(aP l w d).length=l.length:=by
 unfold aP;split
 ·rfl
 exact fD
theorem qi {x:Cached}:∀ (us:List Nat) (c:List Cached),x ∈ us.foldl (fun (ca:List Cached) (e:Nat)=>fP ca (e:Int)) c↔x ∈ c/\∀ u ∈ us,x.env≠(u:Int)
 | [],c=>by simp
 | u :: us,c=>by
  rw [List.foldl_cons,qi us];simp only [fP,List.mem_filter,bne_iff_ne,List.mem_cons,forall_eq_or_imp];constructor
  ·rintro ⟨⟨h1,h2⟩,h3⟩;exact ⟨h1,h2,h3⟩
  rintro ⟨h1,h2,h3⟩;exact ⟨⟨h1,h2⟩,h3⟩
theorem rW:∀ (us:List Nat) (c:List Cached),dA c=true->dA (us.foldl (fun (ca:List Cached) (e:Nat)=>fP ca (e:Int)) c)=true
 | [],_,h=>h
 | u :: us,c,h=>by rw [List.foldl_cons];exact rW us _ (qO _ h)
theorem wF {k:Kernel} {t:Int} {u:Nat}:u ∈ kw k t↔u<k.ah.length/\iy k.mem (au k.ah u) t=true:=by simp [kw]
theorem nX {m:List (List Int)} {e:Env} {t:Nat}:iy m e t=true↔e.root=t\/(0<=e.root/\t ∈ ax (row m e.root.toNat)):=by
 unfold iy;simp only [AF,beq_iff_eq,Ax,Ay,decide_eq_false_iff_not,List.contains_iff_mem,Int.toNat_natCast,lD];constructor
 ·rintro (h | ⟨h,h2⟩)
  ·exact .inl h
  exact .inr ⟨by omega,h2⟩
 rintro (h | ⟨h,h2⟩)
 ·exact .inl h
 exact .inr ⟨by omega,h2⟩
theorem F_ {ws:List Int} {b:Nat} {c:Int} {g:Nat} (h:g ∈ ax (ws.set b c)):g ∈ ax ws\/nm c g=1:=by
 obtain ⟨w,hw,b',he⟩:=iL.1 h;rcases List.mem_or_eq_of_mem_set hw with hw | rfl
 ·exact .inl (iL.2 ⟨w,hw,b',he⟩)
 right;unfold nm;rw [he];simp
theorem nY {w:Int} {g:Nat}:nm w g=1↔∃ b,entry w=some (g,b):=by
 unfold nm;rcases entry w with _ | ⟨f,b⟩
 ·simp
 simp
theorem tK {k:Kernel} {w:Int} {g:Nat}:g ∈ behind k w↔∃ f b,entry w=some (f,b)/\(g=f\/((inf k.ag f).kind=2/\g ∈ ax (row k.mem f))):=by
 unfold behind;rcases entry w with _ | ⟨f,b⟩
 ·simp
 simp only [AG,Prod.mk.injEq];split
 ·rename_i hk
  constructor
  ·intro h;exact ⟨f,b,⟨rfl,rfl⟩,.inl (by simpa using h)⟩
  rintro ⟨_,_,⟨rfl,rfl⟩,h | ⟨h,_⟩⟩
  ·simp [h]
  exact absurd h hk
 rename_i hk
 simp only [ne_eq,Classical.not_not] at hk;rw [List.mem_cons];constructor
 ·intro h;exact ⟨f,b,⟨rfl,rfl⟩,h.imp id (fun h=>⟨hk,h⟩)⟩
 rintro ⟨_,_,⟨rfl,rfl⟩,h⟩;exact h.imp id (·.2)
theorem Ok.set {k:Kernel} (h:Ok k) {a b:Nat} {c:Int} (ha:a<12) (hb:b<4) (hk:aX (inf k.ag a).kind=true)
  (hc:c=0\/∃ f w,entry c=some (f,w)/\(inf k.ag f).kind=(inf k.ag a).kind - 1)
  (hal:∀ u,u ∈ kw k (a:Int)->∀ f ∈ behind k c,may (au k.ah u).aB (inf k.ag f).guard=true) :
  Ok { k with
   ag:=aP (aP k.ag (word k.mem a b) (-1)) c 1
   mem:=bG k.mem a b c
   cache:=(kw k (a:Int)).foldl (fun (ca:List Cached) (e:Nat)=>fP ca (e:Int)) k.cache }:=by
 obtain ⟨l',hl'⟩:∃ l',l'=aP (aP k.ag (word k.mem a b) (-1)) c 1:=⟨_,rfl⟩;obtain ⟨m',hm'⟩:∃ m',m'=bG k.mem a b c:=⟨_,rfl⟩;rw [<-hl',<-hm'];have QK:=h.i12;have hlen:l'.length=12:=by rw [hl',fH,fH,QK]
 have hin:∀ g,inf l' g={ inf k.ag g with refs:=(inf k.ag g).refs+-1*(nm (word k.mem a b) g:Int)+1*(nm c g:Int) }:=fun g=>by
  rw [hl',iI (by rw [fH,QK]),iI QK]
 have hkind:∀ g,(inf l' g).kind=(inf k.ag g).kind:=fun g=>by rw [hin g]
 have hguard:∀ g,(inf l' g).guard=(inf k.ag g).guard:=fun g=>by rw [hin g]
 have hrow:∀ g,row m' g=if g=a then (row k.mem a).set b c else row k.mem g:=fun g=>by rw [hm'];exact iH (by rw [h.m12];exact ha)
 have Gf:∀ g,g≠a->row m' g=row k.mem g:=fun g hg=>by rw [hrow g,if_neg hg]
 have hc9:0<=c/\c<=9999:=by
  rcases hc with rfl | ⟨f,w,he,_⟩
  ·omega
  have:=tC.1 he
  unfold put at this
  cases w <;> simp at this <;> omega
 have hm4:∀ f,f<12->(row m' f).length=4:=fun f hf=>by
  rw [hrow f];split
  ·rw [Al];exact h.m4 a ha
  exact h.m4 f hf
 have htab:∀ f,f<12->aX (inf l' f).kind=true->∀ w ∈ row m' f,w=0\/∃ g b,entry w=some (g,b)/\g≠f/\(inf l' g).kind=(inf l' f).kind - 1:=by
  intro f hf hft w hw;rw [hkind f] at hft ⊢;rw [hrow f] at hw;have old:w ∈ row k.mem f->w=0\/∃ g b,entry w=some (g,b)/\g≠f/\(inf l' g).kind=(inf k.ag f).kind - 1:=fun hw=>by
   rcases h.tab f hf hft w hw with h1 | ⟨g,b,h1,h2,h3⟩
   ·exact .inl h1
   exact .inr ⟨g,b,h1,h2,by rw [hkind g];exact h3⟩
  split at hw
  ·rename_i e;subst e
   rcases List.mem_or_eq_of_mem_set hw with hw | rfl
   ·exact old hw
   rcases hc with h1 | ⟨g,b',h1,h3⟩
   ·exact .inl h1
   exact .inr ⟨g,b',h1,fun e=>by subst e;omega,by rw [hkind g];exact h3⟩
  exact old hw
 have NM:∀ f,f<12->aX (inf l' f).kind=true->∀ g,g ∈ ax (row m' f)->g≠f/\(inf l' g).kind=(inf l' f).kind - 1:=fun f hf hft g hg=>by
  obtain ⟨w,hw,b',he⟩:=iL.1 hg;rcases htab f hf hft w hw with h0 | ⟨g',b'',he',h1,h2⟩
  ·subst h0;rw [g_] at he;cases he
  rw [he] at he';simp only [AG,Prod.mk.injEq] at he';obtain ⟨rfl,rfl⟩:=he';exact ⟨h1,h2⟩
 have hroot:∀ e,e<3->(au k.ah e).root=-1\/(0<=(au k.ah e).root/\(au k.ah e).root<=11/\(inf l' (au k.ah e).root.toNat).kind=3):=fun e he=>by
  rw [hkind];exact h.root e he
 have hrefs:∀ g,g<12->(inf l' g).refs=((gI m' l' g+eF k.ah g:Nat):Int):=fun g hg=>by
  have e:=xW (n:=12) (f:=a) (F:=oW k.mem k.ag g) (F':=oW m' l' g) ha (fun i _ hi=>by unfold oW;rw [hkind i,Gf i hi]);rw [<-fV,<-fV] at e;have e1:oW k.mem k.ag g a=(ax (row k.mem a)).count g:=by unfold oW;rw [hk];rfl
  have e2:oW m' l' g a=(ax ((row k.mem a).set b c)).count g:=by unfold oW;rw [hkind a,hk,hrow a];simp
  have e3:=count_set g c (row k.mem a) b (by rw [h.m4 a ha];exact hb);have e4:=h.refs g hg;rw [hin g];unfold word;simp only;omega
 have xX:∀ e,e<3->0<=(au k.ah e).root->iy k.mem (au k.ah e) (a:Int)=false ->
   row k.mem (au k.ah e).root.toNat=row m' (au k.ah e).root.toNat/\∀ t,t ∈ ax (row k.mem (au k.ah e).root.toNat)->row k.mem t=row m' t:=fun e he h0 hu=>by
  have h1:(au k.ah e).root≠(a:Int)/\¬ a ∈ ax (row k.mem (au k.ah e).root.toNat):=by
   refine ⟨fun e'=>?_,fun e'=>?_⟩
   ·rw [nX.2 (.inl e')] at hu;cases hu
   rw [nX.2 (.inr ⟨h0,e'⟩)] at hu;cases hu
  exact ⟨(Gf _ (by omega)).symm,fun t ht=>(Gf _ (fun e=>h1.2 (e ▸ ht))).symm⟩
 refine ⟨by rw [hm',qQ,h.m12],hm4,fun f hf w hw=>?_,hlen,fun g hg=>?_,rW _ _ h.Ph,h.e3,h.Lm,hroot,fun e he g hg=>?_,htab,hrefs,fun x hx=>?_⟩
 ·simp only [hrow f] at hw;split at hw
  ·rcases List.mem_or_eq_of_mem_set hw with hw | rfl
   ·exact h.mw a ha w hw
   exact hc9
  exact h.mw f hf w hw
 ·have hle:=GK (m:=m') (l:=l') (ah:=k.ah) hm4 h.e3 NM (fun e he=>by obtain ⟨i,hi,rfl⟩:=wB he;exact hroot i (by rw [<-h.e3];exact hi)) g hg
  have hr:=hrefs g hg;show cZ (inf l' g)=true;rcases gZ.1 (h.I8 g hg) with h1 | h1
  ·have n1:nm (word k.mem a b) g=0:=by
    rcases Nat.eq_zero_or_pos (nm (word k.mem a b) g) with h0 | h0
    ·exact h0
    have h2:nm (word k.mem a b) g=1:=by unfold nm at h0 ⊢;split at h0 <;> simp_all
    obtain ⟨b',he⟩:=nY.1 h2;have h3:=h.names ha hk (iP he);have h4:(inf k.ag g).kind=0:=by rw [h1];rfl
    have h5:=dF.1 hk;omega
   have n2:nm c g=0:=by
    rcases Nat.eq_zero_or_pos (nm c g) with h0 | h0
    ·exact h0
    have h2:nm c g=1:=by unfold nm at h0 ⊢;split at h0 <;> simp_all
    obtain ⟨b',he⟩:=nY.1 h2;have h4:(inf k.ag g).kind=0:=by rw [h1];rfl
    have h5:=dF.1 hk;rcases hc with h6 | ⟨f,w,h6,h7⟩
    ·rw [h6,g_] at he;cases he
    rw [he] at h6;simp only [AG,Prod.mk.injEq] at h6;obtain ⟨rfl,rfl⟩:=h6;omega
   have:inf l' g=aG.zero:=by rw [hin g,n1,n2,h1];rfl
   rw [this];exact qP
  rw [gZ,hkind g,hguard g];exact .inr ⟨h1.1,h1.2.1,h1.2.2.1,by omega,by omega⟩
 ·show may _ (inf l' g).guard=true
  rw [hguard g]
  cases hu:iy k.mem (au k.ah e) (a:Int)
  ·have hre:reach m' (au k.ah e).root=reach k.mem (au k.ah e).root:=(xk (fun h0=>(xX e he h0 hu).1) (fun h0=>(xX e he h0 hu).2)).symm
   change g ∈ reach m' _ at hg;rw [hre] at hg;exact h.all e he g hg
  have hue:e ∈ kw k (a:Int):=wF.2 ⟨by rw [h.e3];exact he,hu⟩;change g ∈ reach m' _ at hg;obtain ⟨h0,zM,hg'⟩:=iY.1 hg;have htop:=h.top he h0;generalize hR:(au k.ah e).root.toNat=R at hg' htop;have hRt:aX (inf k.ag R).kind=true:=dF.2 (.inr htop.1);have XO:∀ x,x<12->x ∈ ax (row k.mem R)->x ∈ reach k.mem (au k.ah e).root:=fun x hx hm=>iY.2 ⟨h0,hx,.inr (.inl (by rw [hR];exact hm))⟩
  have XQ:∀ x t,x<12->t ∈ ax (row k.mem R)->x ∈ ax (row k.mem t)->x ∈ reach k.mem (au k.ah e).root:=fun x t hx ht hm=>iY.2 ⟨h0,hx,.inr (.inr ⟨t,by rw [hR];exact ht,hm⟩)⟩
  have QL:∀ f w,entry c=some (f,w)->g=f\/((inf k.ag f).kind=2/\g ∈ ax (row k.mem f))->may (au k.ah e).aB (inf k.ag g).guard=true:=fun f w he' hf =>
   hal e hue g (tK.2 ⟨f,w,he',hf⟩)
  have named':∀ x t,x ∈ ax (row m' t)->x ∈ ax (row k.mem t)\/(t=a/\nm c x=1):=fun x t hx=>by
   rw [hrow t] at hx;split at hx
   ·rename_i e;subst e
    rcases F_ hx with h1 | h1
    ·exact .inl h1
    exact .inr ⟨rfl,h1⟩
   exact .inl hx
  have kc:∀ f w,entry c=some (f,w)->(inf k.ag f).kind=(inf k.ag a).kind - 1:=fun f w he'=>by
   rcases hc with h6 | ⟨f',w',h6,h7⟩
   ·rw [h6,g_] at he';cases he'
   rw [he'] at h6;simp only [AG,Prod.mk.injEq] at h6;obtain ⟨rfl,rfl⟩:=h6;exact h7
  rcases hg' with rfl | hg' | ⟨t,ht,hg'⟩
  ·exact h.all e he g (iY.2 ⟨h0,zM,.inl hR.symm⟩)
  ·rcases named' g R hg' with h1 | ⟨rfl,h1⟩
   ·exact h.all e he g (XO g zM h1)
   obtain ⟨w,he'⟩:=nY.1 h1;exact QL g w he' (.inl rfl)
  rcases named' t R ht with h1 | ⟨Zo,h1⟩
  ·rcases named' g t hg' with h2 | ⟨rfl,h2⟩
   ·exact h.all e he g (XQ g t zM h1 h2)
   obtain ⟨w,he'⟩:=nY.1 h2;exact QL g w he' (.inl rfl)
  obtain ⟨w,he'⟩:=nY.1 h1;have hkt:=kc t w he';rw [<-Zo,htop.1] at hkt;rcases named' g t hg' with h2 | ⟨hta,h2⟩
  ·exact QL t w he' (.inr ⟨by omega,h2⟩)
  rw [hta,<-Zo,htop.1] at hkt;omega
 change x ∈ List.foldl _ _ _ at hx;obtain ⟨hx1,hx2⟩:=(qi _ _).1 hx;have hxl:=h.Lr hx1;have hu:iy k.mem (au k.ah x.env.toNat) (a:Int)=false:=by
  cases hu:iy k.mem (au k.ah x.env.toNat) (a:Int)
  ·rfl
  exact absurd (by omega) (hx2 x.env.toNat (wF.2 ⟨by rw [h.e3];exact hxl.1,hu⟩))
 rw [<-h.ct x hx1];exact jg (k:=k) rfl (fun h0=>(xX _ hxl.1 h0 hu).1) (fun h0=>(xX _ hxl.1 h0 hu).2)
theorem rX {w:Int}:(dY w==2)=false↔w=0\/∃ f b,entry w=some (f,b):=by
 unfold dY
 by_cases h:w=0
 ·simp [h]
 rw [if_neg h];rcases entry w with _ | ⟨f,b⟩
 ·simp [h]
 simp
theorem Ok.lQ {k:Kernel} (h:Ok k) (c:Call):Ok (lQ k c).1:=by
 unfold Kx.lQ;split
 ·exact h
 rename_i hc
 split
 ·exact h
 rename_i h2
 split
 ·exact h
 rename_i h3
 split
 ·exact h
 obtain ⟨h0,h12,hk0,_,_,hk⟩:=fQ (Classical.not_not.1 hc);simp only [qJ,AF,not_or,Ay,AE,Bool.not_eq_true,ay] at h2;simp only [Ay,AE,A5,allowed] at h3;have ea:((c.a.toNat:Nat):Int)=c.a:=by omega
 have:=h.set (a:=c.a.toNat) (b:=c.b.toNat) (c:=c.c) h12 (by omega) (hk rfl) ?_ ?_
 ·rw [ea] at this;exact this
 ·rcases rX.1 h2.1.2 with h4 | ⟨f,b,h4⟩
  ·exact .inl h4
  right
  refine ⟨f,b,h4,?_⟩;have h5:=h2.2;rw [h4] at h5;simpa using h5
 rw [ea];exact h3
theorem Ok.mM {k:Kernel} (h:Ok k) (c:Call) (he:bK c.env 0 2=true):Ok (mM k c).1:=by
 unfold Kx.mM;split
 ·exact h
 rename_i h1
 split
 ·exact h
 rename_i h2
 rw [ay] at he;have he3:c.env.toNat<3:=by omega
 have ha:c.a=-1\/(0<=c.a/\c.a<=11/\(inf k.ag c.a.toNat).kind=3):=by
  by_cases h0:c.a=-1
  ·exact .inl h0
  right
  simp only [h0,ne_eq,not_false_eq_true,true_and,AF,Ay,bne_iff_ne,not_or,AE,Classical.not_not,ay] at h1;exact ⟨h1.1.1,h1.1.2,h1.2⟩
 simp only [Ay,AE,A5,allowed] at h2;generalize hold:(au k.ah c.env.toNat).root=old;have hro:old=-1\/(0<=old/\old<=11/\(inf k.ag old.toNat).kind=3):=by rw [<-hold];exact h.root _ he3
 obtain ⟨l',hl'⟩:∃ l',l'=(if 0<=c.a then aF (if 0<=old then aF k.ag old.toNat (-1) else k.ag) c.a.toNat 1 else (if 0<=old then aF k.ag old.toNat (-1) else k.ag)):=⟨_,rfl⟩;obtain ⟨es,hes⟩:∃ es,es=dE k.ah c.env.toNat c.a:=⟨_,rfl⟩;simp only [<-hl',<-hes];have hin:∀ g,inf l' g={ inf k.ag g with refs:=(inf k.ag g).refs - (if old=(g:Int) then 1 else 0)+(if c.a=(g:Int) then 1 else 0) }:=fun g=>by
  have e1:inf (if 0<=old then aF k.ag old.toNat (-1) else k.ag) g={ inf k.ag g with refs:=(inf k.ag g).refs - (if old=(g:Int) then 1 else 0) }:=by
   by_cases h0:0<=old
   ·rw [if_pos h0,lU (by rw [h.i12];omega)]
    by_cases hg:g=old.toNat
    ·have:old=(g:Int):=by omega
     rw [if_pos hg,if_pos this,hg];rfl
    have:¬ old=(g:Int):=by omega
    rw [if_neg hg,if_neg this];simp
   have:¬ old=(g:Int):=by omega
   rw [if_neg h0,if_neg this];simp
  have e2:(if 0<=old then aF k.ag old.toNat (-1) else k.ag).length=12:=by
   split
   ·rw [fD,h.i12]
   exact h.i12
  generalize (if 0<=old then aF k.ag old.toNat (-1) else k.ag)=l1 at hl' e1 e2;rw [hl']
  by_cases h0:0<=c.a
  ·rw [if_pos h0,lU (by rw [e2];omega)]
   by_cases hg:g=c.a.toNat
   ·have:c.a=(g:Int):=by omega
    rw [if_pos hg,if_pos this,<-hg,e1]
   have:¬ c.a=(g:Int):=by omega
   rw [if_neg hg,if_neg this,e1];simp
  have:¬ c.a=(g:Int):=by omega
  rw [if_neg h0,if_neg this,e1];simp
 have hlen:l'.length=12:=by
  rw [hl'];split <;> split <;> simp [fD,h.i12]
 have hkind:∀ g,(inf l' g).kind=(inf k.ag g).kind:=fun g=>by rw [hin g]
 have hguard:∀ g,(inf l' g).guard=(inf k.ag g).guard:=fun g=>by rw [hin g]
 have henv:∀ e,au es e=if e=c.env.toNat then { au k.ah c.env.toNat with root:=c.a } else au k.ah e:=fun e=>by rw [hes];exact mr (by rw [h.e3];exact he3)
 have hes3:es.length=3:=by rw [hes];simp [dE,h.e3]
 have XR:∀ g,gI k.mem l' g=gI k.mem k.ag g:=fun g=>by
  rw [fV,fV];exact uM fun i _=>by unfold oW;rw [hkind i]
 have hroot:∀ e,e<3->(au es e).root=-1\/(0<=(au es e).root/\(au es e).root<=11/\(inf l' (au es e).root.toNat).kind=3):=fun e he=>by
  rw [hkind,henv e];split
  ·exact ha
  exact h.root e he
 have hrefs:∀ g,g<12->(inf l' g).refs=((gI k.mem l' g+eF es g:Nat):Int):=fun g hg=>by
  have e1:=countP_set (fun e:Env=>e.root==(g:Int)) { au k.ah c.env.toNat with root:=c.a } Env.zero k.ah c.env.toNat (by rw [h.e3];exact he3)
  have e2:eF es g=(k.ah.set c.env.toNat { au k.ah c.env.toNat with root:=c.a }).countP fun e:Env=>e.root==(g:Int):=by rw [hes];rfl
  have e3:k.ah.getD c.env.toNat Env.zero=au k.ah c.env.toNat:=rfl;rw [e3,<-e2] at e1;simp only [beq_iff_eq,hold] at e1;have e4:=h.refs g hg;unfold eF at e4;rw [XR g,hin g];simp only;split <;> rename_i q1 <;> split <;> rename_i q2 <;> simp only [q1,q2,if_true,if_false] at e1 <;> omega
 refine ⟨h.m12,h.m4,h.mw,hlen,fun g hg=>?_,qO _ h.Ph,hes3,fun e he=>?_,hroot,fun e he g hg=>?_,fun f hf hft w hw=>?_,hrefs,fun x hx=>?_⟩
 ·have hle:=GK (m:=k.mem) (l:=l') (ah:=es) h.m4 hes3 (fun f hf hft g hg=>by
   rw [hkind] at hft ⊢;rw [hkind];exact (h.names hf hft hg).2) (fun e he=>by obtain ⟨i,hi,rfl⟩:=wB he;exact hroot i (by rw [<-hes3];exact hi)) g hg
  have hr:=hrefs g hg;show cZ (inf l' g)=true;rcases gZ.1 (h.I8 g hg) with h1 | h1
  ·have hk0:(inf k.ag g).kind=0:=by rw [h1];rfl
   have n1 : ¬ old = (g : Int) := fun e => by (rcases hro with h2 | ⟨_, _, h2⟩);(·omega);rw [e] at h2;simp at h2;omega
   have n2 : ¬ c.a = (g : Int) := fun e => by (rcases ha with h2 | ⟨_, _, h2⟩);(·omega);rw [e] at h2;simp at h2;omega
   have:inf l' g=aG.zero:=by rw [hin g,if_neg n1,if_neg n2,h1];rfl
   rw [this];exact qP
  rw [gZ,hkind g,hguard g];exact .inr ⟨h1.1,h1.2.1,h1.2.2.1,by omega,by omega⟩
 ·show aS (au es e).aB=true
  rw [henv e];split
  ·rename_i e';subst e';exact h.Lm _ he
  exact h.Lm e he
 ·show may (au es e).aB (inf l' g).guard=true
  change g ∈ reach k.mem (au es e).root at hg;rw [hguard g];rw [henv e] at hg ⊢;split at hg
  ·rename_i e';subst e';simp only [if_true];exact h2 g hg
  rename_i e';rw [if_neg e'];exact h.all e he g hg
 ·change aX (inf l' f).kind=true at hft;show w=0\/∃ g b,entry w=some (g,b)/\g≠f/\(inf l' g).kind=(inf l' f).kind - 1;rw [hkind] at hft ⊢;rcases h.tab f hf hft w hw with h1 | ⟨g,b,h1,h2,h3⟩
  ·exact .inl h1
  exact .inr ⟨g,b,h1,h2,by rw [hkind];exact h3⟩
 change x ∈ fP k.cache c.env at hx;unfold fP at hx;obtain ⟨hx1,hx2⟩:=List.mem_filter.1 hx;have hxl:=h.Lr hx1;rw [<-h.ct x hx1];refine jg (k:=k) ?_ (fun _=>rfl) (fun _ _ _=>rfl);show (au es x.env.toNat).root=_;simp only [bne_iff_ne] at hx2;rw [henv,if_neg (by omega)]
end Kx
namespace Kx
/-! ### order of texts -/
theorem zq:∀ (x y:List UInt8),Go.Op.bytesLess x y=false->x≠y->Go.Op.bytesLess y x=true
 | [],[],_,h=>absurd rfl h
 | _ :: _,[],_,_=>rfl
 | [],_ :: _,h,_=>by simp [Go.Op.bytesLess] at h
 | a :: x,b :: y,h,hne=>by
  rw [Go.Op.bytesLess] at h ⊢
  by_cases h1:a<b
  ·simp [h1] at h
  by_cases h2:a=b
  ·subst h2;simp only [h1,decide_false,BEq.rfl,Bool.true_and,Bool.false_or] at h ⊢;exact zq x y h (fun e=>hne (by rw [e]))
  have:b<a:=by
   have h3:b<=a:=UInt8.not_lt.1 h1;exact UInt8.lt_of_le_of_ne h3 (Ne.symm h2)
  simp [this]
theorem toList_inj {a b:Str} (h:a.toList=b.toList):a=b:=by
 rw [Go.ByteArray.toList_eq,Go.ByteArray.toList_eq] at h
 cases a;cases b
 simp at h;rw [h]
theorem Es {a b:Str} (h:lt a b=false) (hne:a≠b):lt b a=true:=zq _ _ h (fun e=>hne (toList_inj e))
theorem xu (s:Str):∀ (l:List Str),dR l=true->l[gz l s]?≠some s->dR (l.take (gz l s) ++ s :: l.drop (gz l s))=true
 | [],_,_=>rfl
 | [a],h,hn=>by
  unfold gz at hn ⊢
  cases hl:lt a s
  ·simp [hl] at hn ⊢
   simp [dR,Es hl hn]
  simp [hl,dR]
 | a :: b :: l,h,hn=>by
  simp only [dR,Ax] at h;unfold gz at hn ⊢
  cases hl:lt a s
  ·simp [hl] at hn ⊢
   simp [dR,Es hl hn,h.1,h.2]
  have ih:=xu s (b :: l) h.2;unfold gz at ih;simp only [List.takeWhile_cons,hl,if_true,List.length_cons,List.getElem?_cons_succ,List.take_succ_cons,List.drop_succ_cons,List.cons_append] at hn ⊢;simp only [List.takeWhile_cons] at ih;have ih:=ih hn
  cases hb:lt b s
  ·simp only [hb,Bool.false_eq_true,if_false,List.length_nil,List.take_zero,List.drop_zero,List.nil_append] at ih ⊢;simp only [dR,Ax] at ih ⊢;exact ⟨hl,ih⟩
  simp only [hb,if_true,List.length_cons,List.take_succ_cons,List.drop_succ_cons,List.cons_append] at ih ⊢;simp only [dR,Ax];exact ⟨h.1,ih⟩
theorem CO {a:Str} {l:List Str} (h:dR (a :: l)=true):dR l=true:=by
 cases l with
 | nil=>rfl
 | cons b l=>simp only [dR,Ax] at h;exact h.2
theorem zt:∀ (x y z:List UInt8),Go.Op.bytesLess x y=true->Go.Op.bytesLess y z=true->Go.Op.bytesLess x z=true
 | _,[],_,h,_=>by cases ‹List UInt8› <;> simp [Go.Op.bytesLess] at h
 | _,_ :: _,[],_,h=>by simp [Go.Op.bytesLess] at h
 | [],_ :: _,_ :: _,_,_=>by simp [Go.Op.bytesLess]
 | a :: x,b :: y,c :: z,h1,h2=>by
  rw [Go.Op.bytesLess] at h1 h2 ⊢;simp only [AF,decide_eq_true_eq,Ax,beq_iff_eq] at h1 h2 ⊢;rcases h1 with h1 | ⟨rfl,h1⟩
  ·rcases h2 with h2 | ⟨rfl,h2⟩
   ·exact .inl (UInt8.lt_trans h1 h2)
   exact .inl h1
  rcases h2 with h2 | ⟨rfl,h2⟩
  ·exact .inl h2
  exact .inr ⟨rfl,zt x y z h1 h2⟩
theorem lt_trans {a b c:Str} (h:lt a b=true) (h':lt b c=true):lt a c=true:=zt _ _ _ h h'
theorem uP {a:Str}:∀ {l:List Str},dR (a :: l)=true->∀ x ∈ l,lt a x=true
 | [],_,x,hx=>by simp at hx
 | b :: l,h,x,hx=>by
  simp only [dR,Ax] at h;rcases List.mem_cons.1 hx with rfl | hx
  ·exact h.1
  exact lt_trans h.1 (uP h.2 x hx)
theorem CP {a:Str} {l:List Str} (h:dR l=true) (ha:∀ x ∈ l,lt a x=true):dR (a :: l)=true:=by
 cases l with
 | nil=>rfl
 | cons b l=>simp only [dR,Ax];exact ⟨ha b (by simp),h⟩
theorem qU (p:Str->Bool):∀ (l:List Str),dR l=true->dR (l.filter p)=true
 | [],_=>rfl
 | a :: l,h=>by
  have ih:=qU p l (CO h);rw [List.filter_cons];split
  ·exact CP ih fun x hx=>uP h x (List.mem_filter.1 hx).1
  exact ih
theorem gJ {l:List Str}:aS l=true↔(∀ s ∈ l,bT s=true)/\dR l=true/\l.length<=6:=by
 unfold aS;simp only [Ax,A5,decide_eq_true_eq,and_assoc]
theorem z_ {l:List Str} (s:Str) (h:aS l=true):aS (jm l s)=true:=by
 obtain ⟨h1,h2,h3⟩:=gJ.1 h;exact gJ.2 ⟨fun x hx=>h1 x (List.mem_filter.1 hx).1,qU _ l h2,As (Ab _ _) h3⟩
theorem tN (l:List Str) (s:Str):(jS l s=(l,true)/\s ∈ l)\/(jS l s=(l,false))\/(jS l s=(l.take (gz l s) ++ s :: l.drop (gz l s),true)/\l.length<6/\l[gz l s]?≠some s):=by
 unfold jS;split
 ·rename_i h;exact .inl ⟨rfl,List.mem_of_getElem? h⟩
 split
 ·exact .inr (.inl rfl)
 rename_i h1 h2;exact .inr (.inr ⟨rfl,by omega,h1⟩)
theorem uQ {l:List Str} {s:Str} (h:aS l=true) (hs:bT s=true):aS (jS l s).1=true:=by
 obtain ⟨h1,h2,h3⟩:=gJ.1 h;rcases tN l s with ⟨e,_⟩ | e | ⟨e,hl,hn⟩
 ·rw [e];exact h
 ·rw [e];exact h
 rw [e];refine gJ.2 ⟨fun x hx=>?_,xu s l h2 hn,?_⟩
 ·simp only [List.mem_append,List.mem_cons] at hx;rcases hx with hx | rfl | hx
  ·exact h1 x (List.mem_of_mem_take hx)
  ·exact hs
  exact h1 x (List.mem_of_mem_drop hx)
 simp;omega
theorem Et {l:List Str} {s x:Str} (hx:x ∈ l):x ∈ (jS l s).1:=by
 rcases tN l s with ⟨e,_⟩ | e | ⟨e,hl,hn⟩ <;> rw [e]
 ·exact hx
 ·exact hx
 rw [<-List.take_append_drop (gz l s) l] at hx;simp only [List.mem_append,List.mem_cons] at hx ⊢;rcases hx with hx | hx
 ·exact .inl hx
 exact .inr (.inr hx)
theorem CQ {l l':List Str} {g:Str} (h:∀ x ∈ l,x ∈ l') (hm:may l g=true):may l' g=true:=by
 unfold may at hm ⊢;rw [An] at hm ⊢;obtain ⟨x,hx,hp⟩:=hm;exact ⟨x,h x hx,hp⟩
theorem Ok.aB {k:Kernel} (h:Ok k) {e:Nat} (he:e<3) {r:List Str} (hr:aS r=true) (hall:∀ f ∈ reach k.mem (au k.ah e).root,may r (inf k.ag f).guard=true):Ok { k with ah:=aY k.ah e r }:=by
 have henv:∀ i,au (aY k.ah e r) i=if i=e then { au k.ah e with aB:=r } else au k.ah i:=fun i=>mr (by rw [h.e3];exact he)
 have hroot:∀ i,(au (aY k.ah e r) i).root=(au k.ah i).root:=fun i=>by
  rw [henv i];split
  ·rename_i q;rw [q]
  rfl
 refine ⟨h.m12,h.m4,h.mw,h.i12,h.I8,h.Ph,by simp [aY,h.e3],fun i hi=>?_,fun i hi=>?_,fun i hi f hf=>?_,h.tab,fun g hg=>?_,fun x hx=>?_⟩
 ·show aS (au (aY k.ah e r) i).aB=true
  rw [henv i];split
  ·exact hr
  exact h.Lm i hi
 ·show (au (aY k.ah e r) i).root=-1\/_
  rw [hroot i];exact h.root i hi
 ·change f ∈ reach k.mem (au (aY k.ah e r) i).root at hf;show may (au (aY k.ah e r) i).aB _=true;rw [hroot i] at hf;rw [henv i];split
  ·rename_i q;rw [q] at hf;exact hall f hf
  exact h.all i hi f hf
 ·show _=((gI k.mem k.ag g+eF (aY k.ah e r) g:Nat):Int)
  obtain ⟨x,hx⟩:∃ x:Env,x={ au k.ah e with aB:=r }:=⟨_,rfl⟩;have e1:=countP_set (fun e:Env=>e.root==(g:Int)) x Env.zero k.ah e (by rw [h.e3];exact he)
  have e2:eF (aY k.ah e r) g=(k.ah.set e x).countP fun e:Env=>e.root==(g:Int):=by rw [hx];rfl
  have e3:(k.ah.getD e Env.zero).root=x.root:=by rw [hx];rfl
  simp only [e3] at e1;rw [e2,show (k.ah.set e x).countP (fun e:Env=>e.root==(g:Int))=eF k.ah g by unfold eF;omega]
  exact h.refs g hg
 rw [<-h.ct x hx];exact jg (k:=k) (hroot _) (fun _=>rfl) (fun _ _ _=>rfl)
theorem Ok.f_ {k:Kernel} (h:Ok k) (c:Call):Ok (f_ k c).1:=by
 unfold Kx.f_;split
 ·exact h
 rename_i h1
 simp only [Ay,AF,not_or,AE,ay] at h1;split
 ·exact h
 split
 ·split
  ·exact h.aB (by omega) (uQ (h.Lm _ (by omega)) h1.1.2) (fun f hf=>CQ (fun x hx=>Et hx) (h.all _ (by omega) f hf))
  exact h
 split
 ·exact h
 rename_i h3
 simp only [Ay,AE,A5,allowed] at h3;exact h.aB (by omega) (z_ _ (h.Lm _ (by omega))) h3
/-! ### loads and stores -/
theorem yS {c:List Cached} {e p:Int} {i:Nat} (h:iW c e p=some i):i<c.length/\c.getD i Cached.zero ∈ c/\(c.getD i Cached.zero).env=e/\(c.getD i Cached.zero).page=p:=by
 unfold iW at h;obtain ⟨hi,hp,_⟩:=List.findIdx?_eq_some_iff_getElem.1 h;have e1:c.getD i Cached.zero=c[i]:=by simp [hi]
 rw [e1];simp only [Ax,beq_iff_eq] at hp;exact ⟨hi,A4 hi,hp.1,hp.2⟩
theorem Bf (m:List (List Int)) (root ad:Nat):(walk m root ad).2=(walk m root (4*(ad / 4))).2/\(walk m root ad).1.1=(walk m root (4*(ad / 4))).1.1/\(walk m root ad).1.2.2=(walk m root (4*(ad / 4))).1.2.2:=by
 unfold walk;have e1:4*(ad / 4) / 16=ad / 16:=by omega
 have e2:4*(ad / 4) / 4 % 4=ad / 4 % 4:=by omega
 rw [e1,e2];split
 ·simp
 split <;> simp
theorem qV {k:Kernel} {x:Cached}:eH k x=true↔0<=(au k.ah x.env.toNat).root/\(walk k.mem (au k.ah x.env.toNat).root.toNat (4*x.page.toNat)).2=0 /\
  (walk k.mem (au k.ah x.env.toNat).root.toNat (4*x.page.toNat)).1.1=x.frame/\(walk k.mem (au k.ah x.env.toNat).root.toNat (4*x.page.toNat)).1.2.2=x.write:=by
 unfold eH;simp only [Ax,Ay,decide_eq_false_iff_not,beq_iff_eq,and_assoc];constructor
 ·rintro ⟨h1,h2⟩;exact ⟨by omega,h2⟩
 rintro ⟨h1,h2⟩;exact ⟨by omega,h2⟩
theorem Ok.place {k:Kernel} (h:Ok k) {env ad:Int} (ha:bK ad 0 63=true) :
  (placeOf k env ad).2=(walk k.mem (au k.ah env.toNat).root.toNat ad.toNat).2 /\
  ((placeOf k env ad).2=0->(placeOf k env ad).1=((walk k.mem (au k.ah env.toNat).root.toNat ad.toNat).1.1,(walk k.mem (au k.ah env.toNat).root.toNat ad.toNat).1.2.2)):=by
 rw [ay] at ha;unfold placeOf;split
 ·rename_i i hi
  obtain ⟨_,hm,he',hp'⟩:=yS hi;have hc:=qV.1 (h.ct _ hm);rw [he',hp'] at hc;have hw:=Bf k.mem (au k.ah env.toNat).root.toNat ad.toNat;have e1:4*(ad / 4).toNat=4*(ad.toNat / 4):=by omega
  rw [e1] at hc;rw [hw.1,hw.2.1,hw.2.2];exact ⟨hc.2.1.symm,fun _=>by rw [hc.2.2.1,hc.2.2.2]⟩
 exact ⟨rfl,fun _=>rfl⟩
theorem Ok.walked {k:Kernel} (h:Ok k) {e:Nat} (he:e<3) (hr:0<=(au k.ah e).root) {ad:Nat} (hw:(walk k.mem (au k.ah e).root.toNat ad).2=0) :
  ∃ f:Nat,(walk k.mem (au k.ah e).root.toNat ad).1.1=(f:Int)/\(walk k.mem (au k.ah e).root.toNat ad).1.2.1=((ad % 4:Nat):Int)/\f<12/\(inf k.ag f).kind=1/\f ∈ reach k.mem (au k.ah e).root:=by
 have ht:=h.top he hr;obtain ⟨t,f,a,b,h1,h2,h3,h4,h5⟩:=v_ (p:=(walk k.mem (au k.ah e).root.toNat ad).1) (Prod.ext rfl hw);have hd:=h.deep ht.2 ht.1 h4 h5;rw [h3];exact ⟨f,rfl,rfl,hd.2.2.2,hd.2.1,iY.2 ⟨hr,hd.2.2.2,.inr (.inr ⟨t,h4,h5⟩)⟩⟩
theorem Ok.cached {k:Kernel} (h:Ok k) {x:Cached} (hx:dn x=true) (ht:eH k x=true):Ok { k with cache:=qp k.cache x }:=
 ⟨h.m12,h.m4,h.mw,h.i12,h.I8,Eo h.Ph hx,h.e3,h.Lm,h.root,h.all,h.tab,h.refs,fun y hy=>by
  show eH k y=true
  rcases Lp hy with hy | rfl
  ·exact h.ct y hy
  exact ht⟩
theorem Ok.access {k:Kernel} (h:Ok k) (c:Call) (he:bK c.env 0 2=true):Ok (access k c).1:=by
 unfold Kx.access;split
 ·exact h
 rename_i h1
 simp only [Ay,AF,not_or,AE,decide_eq_true_eq,Ax,beq_iff_eq,not_and] at h1;have hp:=h.place (env:=c.env) h1.1.1;split;rename_i f w code hpl;rw [hpl] at hp;split
 ·exact h
 rename_i hc
 split
 ·exact h
 simp only [ne_eq,Classical.not_not] at hc;subst hc;have ha:=ay.1 h1.1.1;have he':=ay.1 he;obtain ⟨fr,hf1,hf2,dG,hfk,_⟩:=h.walked (e:=c.env.toNat) (by omega) (by omega) hp.1.symm;have hfw:=hp.2 rfl;simp only [Prod.mk.injEq] at hfw;have hca:Ok { k with cache:=je k c f w }:=by
  unfold je;split
  ·exact h
  have hw:=Bf k.mem (au k.ah c.env.toNat).root.toNat c.a.toNat;have e1:4*(c.a / 4).toNat=4*(c.a.toNat / 4):=by omega
  refine h.cached ?_ (qV.2 ⟨by simp only;omega,?_,?_,?_⟩)
  ·simp only [dn,Ax,ay];omega
  ·simp only;rw [e1,<-hw.1];exact hp.1.symm
  ·simp only;rw [e1,<-hw.2.1];exact hfw.1.symm
  simp only;rw [e1,<-hw.2.2];exact hfw.2.symm
 split
 ·rename_i hk
  exact hca.write (f:=f.toNat) (by omega) (by show (inf k.ag f.toNat).kind=1;rw [hfw.1,hf1];exact hfk) _ (ay.1 (by simpa using h1.2 hk))
 exact hca
theorem Ok.qm {k:Kernel} (h:Ok k) (c:Call) (he:bK c.env 0 2=true):Ok (qm k c).1:=by
 unfold Kx.qm;split
 ·exact h.take c
 split
 ·exact h.give c
 split
 ·exact h.oP c
 split
 ·exact h.lu c he
 split
 ·exact h.lQ c
 split
 ·exact h.mM c he
 split
 ·exact h.f_ c
 split
 ·exact h.access c he
 exact h
theorem Ok.cO {k:Kernel} (h:Ok k) (c:Call) (he:bK c.env 0 2=true):Ok (cO k c).1:=by
 unfold Kx.cO;split
 ·exact h
 exact h.qm c he
theorem Ok.step {s:Kernel×List Int} (h:Ok s.1) (c:Call):Ok (uK s c).1:=by
 unfold uK;split
 ·rename_i he;exact h.cO c he
 exact h
theorem Ok.XT:∀ (cs:List Call) {s:Kernel×List Int},Ok s.1->Ok (cs.foldl uK s).1
 | [],_,h=>h
 | c :: cs,_,h=>Ok.XT cs (h.step c)
end Kx
namespace Kx
def bJ (k:Kernel) (kind a b c:Int):Out:=cO k ⟨kind,0,a,b,c,sA⟩
def jc (s:List (List Int)):Option Nat:=s.findIdx? fun ws=>ws.isEmpty
def xO (s:List (List Int)) (ws:List Int):List (List Int)×Int×Bool:=
 if !jE s||!dQ ws then ([],0,false) else match jc s with
  | none=>([],0,false)
  | some i=>(s.set i ws,i,true)
def a_ (l:List dV) (n:Nat) (x:dV):List dV:=l.set n x
def pass (p:aH):aH:={ p with hand:=(p.hand+1) % 16 }
def dV.mark (x:dV) (u:Bool):dV:=⟨x.wh,x.at_,u⟩
def jV (p:aH):aH:={ p with hand:=(p.hand+1) % 16,pages:=a_ p.pages p.hand.toNat ((aA p.pages p.hand.toNat).mark false) }
def eP:Nat->aH->aH×Int
 | 0,p=>(p,-1)
 | i+1,p =>
  if (aA p.pages p.hand.toNat).wh=1/\(aA p.pages p.hand.toNat).used=false then (pass p,p.hand)
  else eP i (jV p)
def J_ (p:aH) (n:Nat):Kernel:=
 (bJ (bJ p.k 6 (p.low.getD (n / 4) 0) ((n % 4:Nat):Int) 0).1 2 (aA p.pages n).at_ 0 0).1
def sJ (p:aH) (n:Nat):aH:=
 let s:=xO p.swap (row p.k.mem (aA p.pages n).at_.toNat)
 { p with swap:=s.1,k:=J_ p n,pages:=a_ p.pages n ⟨2,s.2.1,false⟩ }
def A7 (k:Kernel) (f:Int) (ws:List Int):Nat->Kernel
 | 0=>k
 | i+1=>(bJ (A7 k f ws i) 3 f i (ws.getD i 0)).1
def DC (p:aH) (n:Nat):aH×Bool:=
 let r:=bJ p.k 1 0 0 0
 if r.2.2≠0 then (p,false)
 else
  let x:=aA p.pages n
  let k1:=if x.wh=2 then A7 r.1 r.2.1 (row p.swap x.at_.toNat) 4 else r.1
  ({ p with
    swap:=if x.wh=2 then p.swap.set x.at_.toNat [] else p.swap
    k:=(bJ k1 6 (p.low.getD (n / 4) 0) ((n % 4:Nat):Int) (put r.2.1.toNat true)).1
    pages:=a_ p.pages n ⟨1,r.2.1,true⟩ },true)
def ny (p:aH):Bool:=decide (p.limit<=(countP p 1:Int))||oH p.k.ag==0
def touch (p:aH) (n:Nat):aH×Bool:=
 if (aA p.pages n).wh=1 then ({ p with pages:=a_ p.pages n ((aA p.pages n).mark true) },true)
 else if ny p then
  if (eP 32 p).2<0 then (p,false) else DC (sJ (eP 32 p).1 (eP 32 p).2.toNat) n
 else DC p n
def gq (p:aH) (n:Int):aH×Bool:=
 if !bI p||!bK n 0 15 then (aH.zero,false) else if (touch p n.toNat).2 then touch p n.toNat else (p,false)
def iM (p:aH) (ad w:Int):aH×Bool:=
 if !bI p||!bK ad 0 63||!bK w 0 9999 then (aH.zero,false)
 else let r:=gq p (ad / 4)
  if !r.2 then r else ({ r.1 with k:=(bJ r.1.k 11 ad w 0).1 },true)
def jd (aB:List (List Str)):Kernel:=⟨A6 12 [0,0,0,0],A6 12 aG.zero,aB.map fun r=>⟨r,-1⟩,[]⟩
def sB:Str:=⟨#[98]⟩
def sC:Str:=⟨#[99]⟩
def iO:Nat->Kernel×List Int->Kernel×List Int
 | 0,s=>s
 | i+1,s =>
  let t:=iO i s
  let r:=bJ t.1 1 0 0 0
  ((bJ (bJ r.1 4 r.2.1 2 0).1 6 0 (i:Int) (put r.2.1.toNat true)).1,t.2 ++ [r.2.1])
def ig:Kernel×List Int:=
 let r:=bJ (jd [[sA],[sB],[sC]]) 1 0 0 0
 ((bJ (bJ r.1 4 r.2.1 3 0).1 7 r.2.1 0 0).1,[])
def lS (limit:Int):aH×Bool:=
 if !bK limit 1 6 then (aH.zero,false)
 else ({ k:=(iO 4 ig).1,swap:=A6 16 [],low:=(iO 4 ig).2,pages:=A6 16 dV.zero,hand:=0,limit:=limit },true)
theorem Gw:(bJ (jd [[sA],[sB],[sC]]) 1 0 0 0).2.1=0:=by decide +kernel
theorem FN (limit:Int) (h:bK limit 1 6=true):bI (lS limit).1=true:=by
 have h1:bI (lS 6).1=true:=by decide +kernel
 have h2:=ay.1 h;unfold lS at h1 ⊢;rw [h];simp only [show bK 6 1 6=true from rfl,Bool.not_true,Bool.false_eq_true,if_false] at h1 ⊢;unfold bI at h1 ⊢;simp only [Ax,decide_eq_true_eq] at h1 ⊢;refine ⟨⟨⟨h1.1.1.1,h1.1.1.2⟩,h⟩,?_⟩;show ((0:Nat):Int)<=limit;omega
end Kx
namespace Kx
section
variable {k:Kernel} (h:Ok k) {c:Call} {g:Nat} (he:bK c.env 0 2=true) (hk:(inf k.ag g).kind≠0) (hm:jQ k c.env (inf k.ag g).guard=false)
theorem uS {k:Kernel} (h:Ok k) {c:Call} (he:bK c.env 0 2=true):(access k c).1=k\/∃ ca,(access k c).1={ k with cache:=ca } \/
  ∃ f a w,f<12/\(inf k.ag f).kind=1/\f ∈ reach k.mem (au k.ah c.env.toNat).root/\(access k c).1={ k with cache:=ca,mem:=bG k.mem f a w }:=by
 unfold Kx.access;split
 ·exact .inl rfl
 rename_i h1
 simp only [Ay,AF,not_or,AE,decide_eq_true_eq,Ax,beq_iff_eq,not_and] at h1;have hp:=h.place (env:=c.env) h1.1.1;split;rename_i f w code hpl;rw [hpl] at hp;split
 ·exact .inl rfl
 rename_i hc
 split
 ·exact .inl rfl
 simp only [ne_eq,Classical.not_not] at hc;subst hc;have ha:=ay.1 h1.1.1;have he':=ay.1 he;obtain ⟨fr,hf1,hf2,dG,hfk,hfr⟩:=h.walked (e:=c.env.toNat) (by omega) (by omega) hp.1.symm;have hfw:=hp.2 rfl;simp only [Prod.mk.injEq] at hfw;right;refine ⟨je k c f w,?_⟩;split
 ·right
  have:f.toNat=fr:=by rw [hfw.1,hf1];rfl
  exact ⟨fr,(c.a % 4).toNat,c.b,dG,hfk,hfr,by rw [this]⟩
 exact .inl rfl
end
end Kx
namespace Kx
structure Low (k:Kernel) (low:List Int):Prop where
 ok:Ok k
 me:may (au k.ah 0).aB sA=true
 CU:∀ e,1<=e->e<3->may (au k.ah e).aB sA=false
 r0:0<=(au k.ah 0).root
 rg:(inf k.ag (au k.ah 0).root.toNat).guard=sA
 r1:(inf k.ag (au k.ah 0).root.toNat).refs=1
 l4:low.length=4
 lr:∀ i,i<4->0<=low.getD i 0/\low.getD i 0<=11
 lw:∀ i,i<4->word k.mem (au k.ah 0).root.toNat i=put (low.getD i 0).toNat true
 lg:∀ i,i<4->(inf k.ag (low.getD i 0).toNat).guard=sA
 l1:∀ i,i<4->(inf k.ag (low.getD i 0).toNat).refs=1
def pw (k:Kernel) (low:List Int) (n:Nat):Int:=word k.mem (low.getD (n / 4) 0).toNat (n % 4)
def At (k:Kernel) (low:List Int) (swap:List (List Int)) (n:Nat) (x:dV):Prop:=
 (x.wh=0/\x=dV.zero/\pw k low n=0) \/
 (x.wh=1/\0<=x.at_/\x.at_<=11/\pw k low n=put x.at_.toNat true/\(inf k.ag x.at_.toNat).guard=sA/\(inf k.ag x.at_.toNat).refs=1) \/
 (x.wh=2/\0<=x.at_/\x.at_<=15/\(row swap x.at_.toNat).isEmpty=false/\x.used=false/\pw k low n=0)
structure rZ (p:aH):Prop where
 low:Low p.k p.low
 swap:jE p.swap=true
 p16:p.pages.length=16
 slot:∀ i,i<16->qf p i=if (row p.swap i).isEmpty then 0 else 1
 page:∀ n,n<16->At p.k p.low p.swap n (aA p.pages n)
 hand:0<=p.hand/\p.hand<=15
 lim:1<=p.limit/\p.limit<=6
 cnt:(countP p 1:Int)<=p.limit
theorem QO {p:aH} {n:Nat}:dC p n=true↔At p.k p.low p.swap n (aA p.pages n):=by
 unfold dC At pw;simp only;generalize aA p.pages n=x
 by_cases h0:x.wh=0
 ·rw [if_pos h0];simp only [h0,Ax,beq_iff_eq,true_and];constructor
  ·exact fun h=>.inl h
  rintro (h | ⟨h,_⟩ | ⟨h,_⟩)
  ·exact h
  ·omega
  omega
 rw [if_neg h0]
 by_cases h1:x.wh=1
 ·rw [if_pos h1];simp only [h1,Ax,beq_iff_eq,true_and,ay,decide_eq_true_eq];constructor
  ·rintro ⟨⟨⟨h1,h2⟩,h3⟩,h4⟩;exact .inr (.inl ⟨h1.1,h1.2,h2,h3,h4⟩)
  rintro (⟨h,_⟩ | ⟨h1,h2,h3,h4,h5⟩ | ⟨h,_⟩)
  ·omega
  ·exact ⟨⟨⟨⟨h1,h2⟩,h3⟩,h4⟩,h5⟩
  omega
 rw [if_neg h1]
 by_cases h2:x.wh=2
 ·rw [if_pos h2];simp only [h2,Ax,beq_iff_eq,true_and,ay,Ay];constructor
  ·rintro ⟨⟨⟨h1,h2⟩,h3⟩,h4⟩;exact .inr (.inr ⟨h1.1,h1.2,h2,h3,h4⟩)
  rintro (⟨h,_⟩ | ⟨h,_⟩ | ⟨h1,h2,h3,h4,h5⟩)
  ·omega
  ·omega
  exact ⟨⟨⟨⟨h1,h2⟩,h3⟩,h4⟩,h5⟩
 rw [if_neg h2];simp [h0,h1,h2]
theorem gy {s:List (List Int)}:jE s=true↔s.length=16/\∀ i,i<16->(row s i).isEmpty=true\/dQ (row s i)=true:=by
 unfold jE;simp only [Ax,A5,AF,beq_iff_eq];constructor
 ·rintro ⟨h,hl⟩;exact ⟨hl,fun i hi=>h _ (row_mem (by omega))⟩
 rintro ⟨hl,h⟩;refine ⟨fun x hx=>?_,hl⟩
 obtain ⟨i,hi,rfl⟩:=mem_row hx;exact h i (by omega)
theorem iD {p:aH}:bI p=true↔rZ p:=by
 unfold bI mV iC oN alone;simp only [Ax,A5,beq_iff_eq,List.mem_range,decide_eq_true_eq,Ay,decide_eq_false_iff_not,ay,QO,nN];constructor
 ·rintro ⟨⟨⟨⟨⟨⟨⟨⟨⟨h1,h2⟩,h3,h4⟩,⟨⟨⟨h5,h6⟩,h7⟩,h8⟩,h9⟩,h10⟩,h11⟩,h12⟩,h13⟩,XU⟩,h15⟩;have hs:=(gy.1 h2).1;refine ⟨⟨h1,h4,fun e he1 he2=>?_,by omega,h7,h8,h6,fun i hi=>(h9 i hi).1.1.1,fun i hi=>(h9 i hi).1.1.2,fun i hi=>(h9 i hi).1.2,fun i hi=>(h9 i hi).2⟩,h2,h10,fun i hi=>h11 i (by omega),h12,h13,XU,h15⟩
  refine h3 _ ?_;have he3:=h1.e3;have:au p.k.ah e=(p.k.ah.drop 1)[e - 1]'(by simp;omega):=by
   simp only [List.getElem_drop,au,A9];rw [A' (by omega)];simp only [Option.getD_some];congr 1;omega
  rw [this];exact A4 _
 rintro ⟨hl,h2,h10,h11,h12,h13,XU,h15⟩;have hs:=(gy.1 h2).1;refine ⟨⟨⟨⟨⟨⟨⟨⟨⟨hl.ok,h2⟩,fun x hx=>?_,hl.me⟩,⟨⟨⟨by have:=hl.r0;omega,hl.l4⟩,hl.rg⟩,hl.r1⟩,fun i hi=>⟨⟨⟨hl.lr i hi,hl.lw i hi⟩,hl.lg i hi⟩,hl.l1 i hi⟩⟩,h10⟩,fun i hi=>h11 i (by omega)⟩,h12⟩,h13⟩,XU⟩,h15⟩
 obtain ⟨i,hi,rfl⟩:=A3 hx;have he3:=hl.ok.e3;have hi':i<2:=by simp at hi;omega
 have:(p.k.ah.drop 1)[i]=au p.k.ah (i+1):=by
  simp only [List.getElem_drop,au,A9];rw [A' (by omega)];simp only [Option.getD_some];congr 1;omega
 rw [this];exact hl.CU _ (by omega) (by omega)
theorem Ok.once {k:Kernel} (h:Ok k) {t t' i j g:Nat} {b b':Bool} (ht:t<12) (hk:aX (inf k.ag t).kind=true) (ht':t'<12) (hk':aX (inf k.ag t').kind=true) (hi:i<4)
  (hw:entry (word k.mem t i)=some (g,b)) (hw':entry (word k.mem t' j)=some (g,b')) (h1:(inf k.ag g).refs=1):t=t'/\i=j:=by
 by_cases heq:t=t'/\i=j
 ·exact heq
 exfalso
 have hs:=h.set (a:=t) (b:=i) (c:=0) ht hi hk (.inl rfl) (fun u _ f hf=>by
  obtain ⟨f',b,h1,_⟩:=tK.1 hf;rw [g_] at h1;cases h1)
 obtain ⟨l',hl'⟩:∃ l',l'=aP (aP k.ag (word k.mem t i) (-1)) 0 1:=⟨_,rfl⟩;rw [<-hl'] at hs;have hin:∀ x,inf l' x={ inf k.ag x with refs:=(inf k.ag x).refs+-1*(nm (word k.mem t i) x:Int)+1*(nm 0 x:Int) }:=fun x=>by
  rw [hl',iI (by rw [fH,h.i12]),iI h.i12]
 have hn1:nm (word k.mem t i) g=1:=nY.2 ⟨b,hw⟩;have hn0:nm 0 g=0:=rfl;have hp:1<=(inf l' g).refs:=hs.iG (t:=t') (g:=g) ht' (by show aX (inf l' t').kind=true;rw [hin];exact hk') (by
  refine iP (i:=j) (b:=b') ?_;show entry (word (bG k.mem t i 0) t' j)=_;unfold word;rw [iH (by rw [h.m12];exact ht)];split
  ·rename_i q
   subst q;have hij:j≠i:=fun e=>heq ⟨rfl,e.symm⟩
   rw [Em (by rw [h.m4 _ ht];exact hi),if_neg hij];exact hw'
  exact hw')
 rw [hin,hn1,hn0,h1] at hp;simp at hp
/-! ### the tables of a pager -/
section
variable {k:Kernel} {low:List Int} (h:Low k low)
include h
theorem Low.top:(inf k.ag (au k.ah 0).root.toNat).kind=3/\(au k.ah 0).root.toNat<12:=h.ok.top (e:=0) (by omega) h.r0
theorem Low.named {i:Nat} (hi:i<4):(low.getD i 0).toNat ∈ ax (row k.mem (au k.ah 0).root.toNat):=by
 have hw:=h.lw i hi;have hr:=h.lr i hi;exact iP (i:=i) (b:=true) (by rw [hw];exact jf (by omega) true)
theorem Low.kind {i:Nat} (hi:i<4):(inf k.ag (low.getD i 0).toNat).kind=2/\(low.getD i 0).toNat<12:=by
 have:=h.ok.names h.top.2 (dF.2 (.inr h.top.1)) (h.named hi)
 have:=h.top.1
 exact ⟨by omega,by omega⟩
theorem Low.inj {i j:Nat} (hi:i<4) (hj:j<4) (e:(low.getD i 0).toNat=(low.getD j 0).toNat):i=j:=
 (Ok.once h.ok h.top.2 (dF.2 (.inr h.top.1)) h.top.2 (dF.2 (.inr h.top.1)) hi (by rw [h.lw i hi];exact jf (h.kind hi).2 true)
  (by rw [h.lw j hj,<-e];exact jf (h.kind hi).2 true) (h.l1 i hi)).2
theorem Low.EE {n v:Nat} (hn:n<16) (hv:v<16) (e1:(low.getD (n / 4) 0).toNat=(low.getD (v / 4) 0).toNat) (e2:n % 4=v % 4):n=v:=by
 have:=h.inj (i:=n / 4) (j:=v / 4) (by omega) (by omega) e1
 omega
theorem Low.rF {n:Nat} (hn:n<16):aX (inf k.ag (low.getD (n / 4) 0).toNat).kind=true/\(low.getD (n / 4) 0).toNat<12:=by
 have:=h.kind (i:=n / 4) (by omega)
 exact ⟨dF.2 (.inl this.1),this.2⟩
theorem Low.data {n f:Nat} {b:Bool} (hn:n<16) (hw:entry (pw k low n)=some (f,b)):(inf k.ag f).kind=1/\f<12/\1<=(inf k.ag f).refs:=by
 have ht:=h.rF hn;have hk:=h.kind (i:=n / 4) (by omega);have h1:=h.ok.names ht.2 ht.1 (iP hw);exact ⟨by omega,h1.1,h.ok.iG ht.2 ht.1 (iP hw)⟩
theorem Low.keep {k':Kernel} (hk:Ok k') (hrt:(au k'.ah 0).root=(au k.ah 0).root) (hme:may (au k'.ah 0).aB sA=true) (hna:∀ e,1<=e->e<3->may (au k'.ah e).aB sA=false)
  (hs:∀ g,(g=(au k.ah 0).root.toNat\/∃ i,i<4/\g=(low.getD i 0).toNat)->(inf k'.ag g).guard=(inf k.ag g).guard/\((inf k'.ag g).refs=(inf k.ag g).refs))
  (hr:row k'.mem (au k.ah 0).root.toNat=row k.mem (au k.ah 0).root.toNat):Low k' low:=by
 have h0:=hs _ (.inl rfl);have hi:∀ i,i<4->_:=fun i hi=>hs _ (.inr ⟨i,hi,rfl⟩)
 refine ⟨hk,hme,hna,by rw [hrt];exact h.r0,by rw [hrt,h0.1];exact h.rg,by rw [hrt,h0.2];exact h.r1,h.l4,h.lr,fun i q=>?_,fun i q=>by rw [(hi i q).1];exact h.lg i q,fun i q=>by rw [(hi i q).2];exact h.l1 i q⟩
 rw [hrt];unfold word;rw [hr];exact h.lw i q
end
/-! ### calls of others -/
end Kx
namespace Kx
theorem tV {l:List dV} {f g:Nat} {x:dV} (hf:f<l.length):aA (a_ l f x) g=if g=f then x else aA l g:=by
 unfold aA a_
 by_cases h:g=f
 ·subst h;simp [hf]
 simp [h,List.getElem?_set_ne (Ne.symm h)]
theorem jL {l:List dV} {f:Nat} {x:dV}:(a_ l f x).length=l.length:=by simp [a_]
theorem lV {l:List dV} {n:Nat} {x:dV} (p:dV->Bool) (hn:n<l.length):(a_ l n x).countP p+(if p (aA l n) then 1 else 0)=l.countP p+if p x then 1 else 0:=
 countP_set p x dV.zero l n hn
theorem zx {l:List dV} {f:Nat} (h:f<l.length):aA l f ∈ l:=by
 unfold aA;rw [A9,A' h];exact A4 h
/-! ### the hand -/
structure MH (p q:aH):Prop where
 ok:rZ q
 k:q.k=p.k
 low:q.low=p.low
 swap:q.swap=p.swap
 cnt:countP q 1=countP p 1
 lim:q.limit=p.limit
 wh:∀ n,(aA q.pages n).wh=(aA p.pages n).wh
theorem MH.refl {p:aH} (h:rZ p):MH p p:=⟨h,rfl,rfl,rfl,rfl,rfl,fun _=>rfl⟩
theorem MH.trans {p q r:aH} (h:MH p q) (h':MH q r):MH p r:=
 ⟨h'.ok,h'.k.trans h.k,h'.low.trans h.low,h'.swap.trans h.swap,h'.cnt.trans h.cnt,h'.lim.trans h.lim,fun n=>(h'.wh n).trans (h.wh n)⟩
theorem Bi (h:Int) (_h0:0<=h/\h<=15):0<=(h+1) % 16/\(h+1) % 16<=15:=by omega
theorem Lt {p:aH} (h:rZ p):MH p (pass p):=⟨⟨h.low,h.swap,h.p16,h.slot,h.page,Bi _ h.hand,h.lim,h.cnt⟩,rfl,rfl,rfl,rfl,rfl,fun _=>rfl⟩
theorem GM {p:aH} (h:rZ p) {n:Nat} (hn:n<16) {u:Bool} (hu:u=false\/(aA p.pages n).wh=1) {hd:Int} (hh:0<=hd/\hd<=15) :
  MH p { p with hand:=hd,pages:=a_ p.pages n ((aA p.pages n).mark u) }:=by
 have hl:n<p.pages.length:=by rw [h.p16];exact hn
 have hat:∀ m,aA (a_ p.pages n ((aA p.pages n).mark u)) m=if m=n then ((aA p.pages n).mark u) else aA p.pages m:=fun m=>tV hl
 have hc:∀ f:dV->Bool,(∀ x:dV,∀ b,f (x.mark b)=f x)->(a_ p.pages n ((aA p.pages n).mark u)).countP f=p.pages.countP f:=fun f hf=>by
  have:=lV (x:=((aA p.pages n).mark u)) f hl
  rw [hf] at this;omega
 refine ⟨⟨h.low,h.swap,by rw [jL];exact h.p16,fun i hi=>?_,fun m hm=>?_,hh,h.lim,?_⟩,rfl,rfl,rfl,?_,rfl,fun m=>?_⟩
 ·show (a_ p.pages n _).countP _=_
  rw [hc _ (fun _ _=>rfl)];exact h.slot i hi
 ·show At p.k p.low p.swap m (aA (a_ p.pages n _) m)
  rw [hat m];split
  ·rename_i q;subst q
   rcases h.page m hm with ⟨h1,h2,h3⟩ | ⟨h1,h2⟩ | ⟨h1,h2,h3,h4,h5,h6⟩
   ·rcases hu with rfl | hu
    ·rw [h2] at *;exact .inl ⟨rfl,rfl,h3⟩
    omega
   ·exact .inr (.inl ⟨h1,h2⟩)
   rcases hu with rfl | hu
   ·exact .inr (.inr ⟨h1,h2,h3,h4,rfl,h6⟩)
   omega
  exact h.page m hm
 ·show (((a_ p.pages n _).countP _:Nat):Int)<=_
  rw [hc _ (fun _ _=>rfl)];exact h.cnt
 ·show (a_ p.pages n _).countP _=_
  rw [hc _ (fun _ _=>rfl)];rfl
 show (aA (a_ p.pages n _) m).wh=_
 rw [hat m];split
 ·rename_i q;rw [q];rfl
 rfl
theorem pz:∀ (i:Nat) {p:aH},rZ p->MH p (eP i p).1/\(0<=(eP i p).2->(eP i p).2.toNat<16/\(aA (eP i p).1.pages (eP i p).2.toNat).wh=1)
 | 0,p,h=>⟨MH.refl h,fun h=>by simp [eP] at h⟩
 | i+1,p,h=>by
  have hh:=h.hand;unfold eP;split
  ·rename_i hw
   exact ⟨Lt h,fun _=>⟨by simp only;omega,hw.1⟩⟩
  have h1:=GM h (n:=p.hand.toNat) (by omega) (u:=false) (.inl rfl) (Bi _ hh);have h2:=pz i h1.ok;exact ⟨h1.trans h2.1,h2.2⟩
/-! ### entries of the pager's tables -/
theorem I_ {k:Kernel} {a b c:Int} (h1:aO k ⟨6,0,a,b,c,sA⟩ 0=0) (h2:qJ k ⟨6,0,a,b,c,sA⟩=false)
  (h3:((kw k a).all fun e=>allowed k.ag (behind k c) (au k.ah e).aB)=true) (h4:lJ k ⟨6,0,a,b,c,sA⟩=false) :
  bJ k 6 a b c=({ k with
   ag:=aP (aP k.ag (word k.mem a.toNat b.toNat) (-1)) c 1
   mem:=bG k.mem a.toNat b.toNat c
   cache:=(kw k a).foldl (fun (ca:List Cached) (e:Nat)=>fP ca (e:Int)) k.cache },0,0):=by
 have hd:qm k ⟨6,0,a,b,c,sA⟩=lQ k ⟨6,0,a,b,c,sA⟩:=by unfold qm;simp
 have hs:lQ k ⟨6,0,a,b,c,sA⟩=({ k with
   ag:=aP (aP k.ag (word k.mem a.toNat b.toNat) (-1)) c 1
   mem:=bG k.mem a.toNat b.toNat c
   cache:=(kw k a).foldl (fun (ca:List Cached) (e:Nat)=>fP ca (e:Int)) k.cache },0,0):=by
  unfold lQ;rw [h1,h2,h4];simp only [h3];simp
 unfold bJ cO;rw [hd,hs];simp
structure XV (k k':Kernel) (t j:Nat) (c:Int):Prop where
 ok:Ok k'
 ah:k'.ah=k.ah
 row:∀ g,row k'.mem g=if g=t then (row k.mem t).set j c else row k.mem g
 inf:∀ g,inf k'.ag g={ inf k.ag g with refs:=(inf k.ag g).refs+-1*(nm (word k.mem t j) g:Int)+1*(nm c g:Int) }
section
variable {k:Kernel} {low:List Int} (h:Low k low)
include h
theorem Low.entry {i j:Nat} (hi:i<4) (hj:j<4) {c:Int} (hc:c=0\/∃ f,Kx.entry c=some (f,true)/\(inf k.ag f).kind=1/\(inf k.ag f).guard=sA) :
  XV k (bJ k 6 (low.getD i 0) (j:Int) c).1 (low.getD i 0).toNat j c:=by
 have hk:=h.kind hi;have hr:=h.lr i hi;have hm:∀ g,(inf k.ag g).guard=sA->jQ k 0 (inf k.ag g).guard=true:=fun g hg=>by rw [hg];exact h.me
 have h1:aO k ⟨6,0,low.getD i 0,j,c,sA⟩ 0=0:=by
  unfold aO;simp only [hm _ (h.lg i hi),hk.1,ay.2 (show 0<=low.getD i 0/\low.getD i 0<=11 from hr)];simp [aX]
 have h2:qJ k ⟨6,0,low.getD i 0,j,c,sA⟩=false:=by
  unfold qJ;have hb:bK (j:Int) 0 3=true:=ay.2 (by omega);have he:(dY c==2)=false:=rX.2 (by
   rcases hc with h | ⟨f,h,_⟩
   ·exact .inl h
   exact .inr ⟨f,true,h⟩)
  simp only [hb,he];rcases hc with rfl | ⟨f,hf,hf1,_⟩
  ·rfl
  rw [hf];simp only [hf1,hk.1];rfl
 have h4:lJ k ⟨6,0,low.getD i 0,j,c,sA⟩=false:=by
  unfold lJ;rcases hc with rfl | ⟨f,hf,_,hf2⟩
  ·rfl
  simp only [hf];rw [hm f hf2];rfl
 have h3:((kw k (low.getD i 0)).all fun e=>allowed k.ag (behind k c) (au k.ah e).aB)=true:=by
  rw [A5];intro e he;obtain ⟨he3,hu⟩:=wF.1 he;rw [h.ok.e3] at he3;unfold allowed;rw [A5];intro f hf;obtain ⟨f',b,hfe,Rz⟩:=tK.1 hf;rcases hc with rfl | ⟨f'',hc1,hc2,hc3⟩
  ·rw [g_] at hfe;cases hfe
  rw [hc1] at hfe;simp only [AG,Prod.mk.injEq] at hfe;obtain ⟨rfl,rfl⟩:=hfe;have XW:f=f'':=by
   rcases Rz with Rz | ⟨Rz,_⟩
   ·exact Rz
   omega
  rw [XW,hc3]
  by_cases he0:e=0
  ·subst he0;exact h.me
  exfalso
  have hna:=h.CU e (by omega) he3;have hti:low.getD i 0=(((low.getD i 0).toNat:Nat):Int):=by omega
  rw [hti] at hu;have hin:(low.getD i 0).toNat ∈ Kx.reach k.mem (au k.ah e).root:=by
   rcases nX.1 hu with hu | ⟨hu0,hu⟩
   ·refine iY.2 ⟨by omega,hk.2,.inl ?_⟩;omega
   exact iY.2 ⟨hu0,hk.2,.inr (.inl hu)⟩
  have:=h.ok.all e he3 _ hin
  rw [h.lg i hi,hna] at this;cases this
 have hmk:=I_ (k:=k) (a:=low.getD i 0) (b:=(j:Int)) (c:=c) h1 h2 h3 h4;have hok:Ok (bJ k 6 (low.getD i 0) (j:Int) c).1:=h.ok.cO _ rfl;rw [hmk] at hok ⊢;refine ⟨hok,rfl,fun g=>?_,fun g=>?_⟩
 ·show Kx.row (bG _ _ _ _) g=_
  rw [iH (by rw [h.ok.m12];exact hk.2)];rfl
 show Kx.inf (aP (aP _ _ _) _ _) g=_
 rw [iI (by rw [fH,h.ok.i12]),iI h.ok.i12];rfl
theorem Low.Zr {k':Kernel} {i j:Nat} (hi:i<4) (_hj:j<4) {c:Int} (he:XV k k' (low.getD i 0).toNat j c) (hc:∀ g,nm c g=1->(Kx.inf k.ag g).kind=1):Low k' low:=by
 have hold:∀ g,nm (word k.mem (low.getD i 0).toNat j) g=1->(Kx.inf k.ag g).kind=1:=fun g hg=>by
  obtain ⟨b,hb⟩:=nY.1 hg;have:=h.ok.names (h.kind hi).2 (dF.2 (.inl (h.kind hi).1)) (iP hb);have:=(h.kind hi).1;omega
 have Ur:∀ w g,(nm w g=1->(Kx.inf k.ag g).kind=1)->(Kx.inf k.ag g).kind≠1->nm w g=0:=fun w g h1 h2=>by
  unfold nm at h1 ⊢;split
  ·rename_i q;simp only [q,if_true] at h1;exact absurd (h1 trivial) h2
  rfl
 refine h.keep he.ok (by rw [he.ah]) (by rw [he.ah];exact h.me) (by rw [he.ah];exact h.CU) (fun g hg=>?_) ?_
 ·have hk:(Kx.inf k.ag g).kind≠1:=by
   rcases hg with rfl | ⟨i,hi,rfl⟩
   ·rw [h.top.1];omega
   rw [(h.kind hi).1];omega
  rw [he.inf g,Ur _ g (hold g) hk,Ur _ g (hc g) hk];simp
 rw [he.row,if_neg];intro e;have h1:=h.top.1;rw [e,(h.kind hi).1] at h1;omega
theorem Low.Lu {k':Kernel} {n m:Nat} (hn:n<16) (hm:m<16) {c:Int} (he:XV k k' (low.getD (n / 4) 0).toNat (n % 4) c):pw k' low m=if m=n then c else pw k low m:=by
 unfold pw word;rw [he.row];split
 ·rename_i e
  rw [Em (by rw [h.ok.m4 _ (h.rF hn).2];omega)]
  by_cases hmn:m=n
  ·subst hmn;simp
  rw [if_neg hmn,if_neg (fun e2=>hmn (h.EE hm hn e e2)),<-e]
 rename_i e
 rw [if_neg (fun q=>e (by rw [q]))]
end
/-! ### a page goes out -/
theorem Gi (k:Kernel) (f:Int) (h:Ok k):Ok (bJ k 2 f 0 0).1/\((bJ k 2 f 0 0).1=k\/(0<=f/\f.toNat<12/\(inf k.ag f.toNat).kind=1/\(inf k.ag f.toNat).refs=0/\(bJ k 2 f 0 0).1={ k with ag:=k.ag.set f.toNat aG.zero })):=by
 refine ⟨h.cO _ rfl,?_⟩;have hd:qm k ⟨2,0,f,0,0,sA⟩=give k ⟨2,0,f,0,0,sA⟩:=by unfold qm;simp
 unfold bJ cO;rw [hd];split
 ·exact .inl rfl
 unfold give;split
 ·exact .inl rfl
 rename_i hc
 split
 ·exact .inl rfl
 rename_i hr
 right
 obtain ⟨h0,h12,hk0,_,hk1,_⟩:=fQ (Classical.not_not.1 hc);have h1:0<=(inf k.ag f.toNat).refs:=(qR (h.I8 _ h12)).1;have hr':¬ (inf k.ag f.toNat).refs > 0:=hr;exact ⟨h0,h12,hk1 (by omega),by omega,rfl⟩
theorem Low.give {k:Kernel} {low:List Int} (h:Low k low) (f:Int) :
  Low (bJ k 2 f 0 0).1 low/\(∀ g,row (bJ k 2 f 0 0).1.mem g=row k.mem g)/\∀ g,1<=(inf k.ag g).refs->inf (bJ k 2 f 0 0).1.ag g=inf k.ag g:=by
 obtain ⟨hok,e | ⟨h0,h12,hk1,hr0,e⟩⟩:=Gi k f h.ok
 ·rw [e];exact ⟨h,fun _=>rfl,fun _ _=>rfl⟩
 rw [e] at hok ⊢;have hin:∀ g,g≠f.toNat->inf (k.ag.set f.toNat aG.zero) g=inf k.ag g:=fun g hg=>by rw [nJ (by rw [h.ok.i12];exact h12),if_neg hg]
 have hne:∀ g,1<=(inf k.ag g).refs->g≠f.toNat:=fun g hg e=>by subst e;omega
 refine ⟨h.keep hok rfl h.me h.CU (fun g hg=>?_) rfl,fun _=>rfl,fun g hg=>hin g (hne g hg)⟩
 have h1:1<=(inf k.ag g).refs:=by
  rcases hg with rfl | ⟨i,hi,rfl⟩
  ·rw [h.r1];omega
  rw [h.l1 i hi];omega
 show (inf (k.ag.set f.toNat aG.zero) g).guard=_/\(inf (k.ag.set f.toNat aG.zero) g).refs=_
 rw [hin g (hne g h1)];exact ⟨rfl,rfl⟩
theorem sum_add (F G:Nat->Nat):∀ n,((Ao n).map fun i=>F i+G i).sum=((Ao n).map F).sum+((Ao n).map G).sum
 | 0=>rfl
 | n+1=>by
  rw [List.range_succ,List.map_append,List.map_append,List.map_append,List.sum_append,List.sum_append,List.sum_append,sum_add F G n];simp;omega
theorem GN (x:Int) (b:Bool):∀ n:Nat,((Ao n).map fun (i:Nat)=>if b&&x==(i:Int) then 1 else 0).sum<=(if b then 1 else 0)/\((n:Int)<=x->((Ao n).map fun (i:Nat)=>if b&&x==(i:Int) then 1 else 0).sum=0)
 | 0=>by simp
 | n+1=>by
  obtain ⟨h1,h2⟩:=GN x b n;rw [List.range_succ,List.map_append,List.sum_append];simp only [List.map_cons,List.map_nil,List.sum_cons,List.sum_nil,Av]
  cases b
  ·simp at h1 ⊢
   exact ⟨h1,fun _=>h1⟩
  by_cases hx:x=(n:Int)
  ·subst hx;rw [h2 (Int.le_refl _)];simp;omega
  have:(x==(n:Int))=false:=by simpa using hx
  simp only [this,Bool.and_false,Bool.false_eq_true,if_false,Av];exact ⟨h1,fun h=>h2 (by omega)⟩
theorem EF:∀ (l:List dV),((Ao 16).map fun (i:Nat)=>l.countP fun x=>x.wh==2&&x.at_==(i:Int)).sum<=l.countP fun x=>x.wh==2
 | []=>by decide
 | x :: l=>by
  have h1:=EF l;have h2:=(GN x.at_ (x.wh==2) 16).1;simp only [List.countP_cons];rw [sum_add (fun (i:Nat)=>l.countP fun x=>x.wh==2&&x.at_==(i:Int)) (fun (i:Nat)=>if x.wh==2&&x.at_==(i:Int) then 1 else 0)]
  omega
theorem xx {α:Type} (p q:α->Bool) (h:∀ x,p x=true->q x=false):∀ (l:List α),l.countP p+l.countP q<=l.length
 | []=>by simp
 | a :: l=>by
  have:=xx p q h l
  rw [List.countP_cons,List.countP_cons,List.length_cons]
  cases hp:p a
  ·cases hq:q a <;> simp <;> omega
  rw [h a hp];simp;omega
theorem rZ.room {p:aH} (h:rZ p) {v:Nat} (hv:v<16) (hw:(aA p.pages v).wh=1):∃ i,jc p.swap=some i/\i<16/\(row p.swap i).isEmpty=true:=by
 have hs:=(gy.1 h.swap).1
 cases hf:jc p.swap with
 | some i =>
  unfold jc at hf;obtain ⟨hi,hp,_⟩:=List.findIdx?_eq_some_iff_getElem.1 hf;refine ⟨i,rfl,by omega,?_⟩;have:row p.swap i=p.swap[i]:=by simp [row,hi]
  rw [this];exact hp
 | none =>
  exfalso
  unfold jc at hf;rw [List.findIdx?_eq_none_iff] at hf;have h1:∀ i,i<16->qf p i=1:=fun i hi=>by
   rw [h.slot i hi,hf _ (row_mem (by omega))];rfl
  have h2:=EF p.pages;have h3:((Ao 16).map fun (i:Nat)=>p.pages.countP fun x=>x.wh==2&&x.at_==(i:Int)).sum=((Ao 16).map fun _=>1).sum:=uM fun i hi=>h1 i hi
  rw [h3] at h2;have h4:=xx (fun x:dV=>x.wh==2) (fun x:dV=>x.wh==1) (fun x hx=>by
   have h5:x.wh=2:=by simpa using hx
   rw [h5];rfl) p.pages
  have h5:0<p.pages.countP fun x:dV=>x.wh==1:=nV (x:=aA p.pages v) (zx (by rw [h.p16];exact hv)) (by simp [hw])
  have h6:((Ao 16).map fun _=>1).sum=16:=by decide
  rw [h.p16] at h4;omega
theorem rZ.o {p:aH} (h:rZ p) {v:Nat} (hv:v<16) (hw:(aA p.pages v).wh=1) :
  rZ (sJ p v)/\countP (sJ p v) 1+1=countP p 1/\(sJ p v).limit=p.limit/\∀ n,n≠v->aA (sJ p v).pages n=aA p.pages n:=by
 have hl:=h.low;have hvl:v<p.pages.length:=by rw [h.p16];exact hv
 rcases h.page v hv with ⟨h1,_⟩ | ⟨_,hf0,hf1,hf2,hf3,hf4⟩ | ⟨h1,_⟩
 ·omega
 rotate_left
 ·omega
 obtain ⟨fr,hfr⟩:∃ fr:Nat,fr=(aA p.pages v).at_.toNat:=⟨_,rfl⟩;rw [<-hfr] at hf2 hf3 hf4;have hen:entry (pw p.k p.low v)=some (fr,true):=by rw [hf2];exact jf (by omega) true
 have hfd:=hl.data hv hen;obtain ⟨i,hi,Qd,hie⟩:=h.room hv hw;have hwo:dQ (row p.k.mem fr)=true:=by
  unfold dQ CG;simp only [Ax,A5,ay,beq_iff_eq];exact ⟨hl.ok.mw fr hfd.2.1,hl.ok.m4 fr hfd.2.1⟩
 have hput:xO p.swap (row p.k.mem fr)=(p.swap.set i (row p.k.mem fr),(i:Int),true):=by
  unfold xO;rw [h.swap,hwo,hi];rfl
 -- the entry is struck
 have hE:=hl.entry (i:=v / 4) (j:=v % 4) (c:=0) (by omega) (by omega) (.inl rfl);have hL:=hl.Zr (by omega) (by omega) hE (fun g hg=>by simp [nm,g_] at hg);obtain ⟨k1,hk1⟩:∃ k1,k1=(bJ p.k 6 (p.low.getD (v / 4) 0) ((v % 4:Nat):Int) 0).1:=⟨_,rfl⟩;rw [<-hk1] at hE hL;have hG:=hL.give (aA p.pages v).at_;obtain ⟨k2,hk2⟩:∃ k2,k2=(bJ k1 2 (aA p.pages v).at_ 0 0).1:=⟨_,rfl⟩;rw [<-hk2] at hG;have hout:sJ p v={ p with swap:=p.swap.set i (row p.k.mem fr),k:=k2,pages:=a_ p.pages v ⟨2,i,false⟩ }:=by
  unfold sJ J_;rw [<-hfr,hput,<-hk1,<-hk2]
 rw [hout];have hpw:∀ m,m<16->pw k2 p.low m=if m=v then 0 else pw p.k p.low m:=fun m hm=>by
  have:pw k2 p.low m=pw k1 p.low m:=by unfold pw word;rw [hG.2.1]
  rw [this];exact hl.Lu hv hm hE
 have hat:∀ m,aA (a_ p.pages v ⟨2,i,false⟩) m=if m=v then ⟨2,i,false⟩ else aA p.pages m:=fun m=>tV hvl
 have hrow:∀ j,row (p.swap.set i (row p.k.mem fr)) j=if j=i then row p.k.mem fr else row p.swap j:=fun j=>rC (by rw [(gy.1 h.swap).1];exact Qd)
 have hne:(row p.k.mem fr).isEmpty=false:=by
  have:=hl.ok.m4 fr hfd.2.1
  cases hr:row p.k.mem fr with
  | nil=>rw [hr] at this;simp at this
  | cons a l=>rfl
 have hc1:=lV (x:=⟨2,i,false⟩) (fun x:dV=>x.wh==1) hvl;simp only [hw] at hc1;have hcnt:(a_ p.pages v ⟨2,i,false⟩).countP (fun x:dV=>x.wh==1)+1=countP p 1:=by
  unfold countP;simpa using hc1
 refine ⟨⟨hG.1,?_,by rw [jL];exact h.p16,fun j hj=>?_,fun m hm=>?_,h.hand,h.lim,?_⟩,hcnt,rfl,fun n hn=>?_⟩
 ·refine gy.2 ⟨by rw [Al];exact (gy.1 h.swap).1,fun j hj=>?_⟩
  rw [hrow j];split
  ·exact .inr hwo
  exact (gy.1 h.swap).2 j hj
 ·show (a_ p.pages v ⟨2,i,false⟩).countP _=if (row (p.swap.set i _) j).isEmpty then 0 else 1
  have hc:=lV (x:=⟨2,i,false⟩) (fun x:dV=>x.wh==2&&x.at_==(j:Int)) hvl
  have hs:=h.slot j hj;unfold qf at hs;rw [hs] at hc;simp only [hw] at hc;rw [hrow j]
  by_cases hji:j=i
  ·subst hji;rw [hie] at hc;simp at hc;rw [if_pos rfl,hne];simpa using hc
  have:((i:Int)==(j:Int))=false:=by simp;omega
  rw [this] at hc;rw [if_neg hji];simpa using hc
 ·show At k2 p.low (p.swap.set i _) m (aA (a_ p.pages v _) m)
  rw [hat m]
  by_cases hmv:m=v
  ·rw [if_pos hmv];refine .inr (.inr ⟨rfl,by simp,by simp;omega,?_,rfl,by rw [hpw m hm,if_pos hmv]⟩);show (row (p.swap.set i (row p.k.mem fr)) i).isEmpty=false;rw [hrow,if_pos rfl];exact hne
  rw [if_neg hmv];have NP:=hpw m hm;rw [if_neg hmv] at NP;rcases h.page m hm with ⟨h1,h2,h3⟩ | ⟨h1,h2,h3,h4,h5,h6⟩ | ⟨h1,h2,h3,h4,h5,h6⟩
  ·exact .inl ⟨h1,h2,by rw [NP];exact h3⟩
  ·have LG:entry (pw p.k p.low m)=some ((aA p.pages m).at_.toNat,true):=by rw [h4];exact jf (by omega) true
   have hdm:=hl.data hm LG;have NQ:(aA p.pages m).at_.toNat≠fr:=fun e=>by
    rw [e] at LG;have ho:=hl.ok.once (t:=(p.low.getD (m / 4) 0).toNat) (t':=(p.low.getD (v / 4) 0).toNat) (i:=m % 4) (j:=v % 4) (hl.rF hm).2 (hl.rF hm).1 (hl.rF hv).2 (hl.rF hv).1 (by omega) LG hen hf4;exact hmv (hl.EE hm hv ho.1 ho.2)
   have hin1:inf k1.ag (aA p.pages m).at_.toNat=inf p.k.ag (aA p.pages m).at_.toNat:=by
    rw [hE.inf];have n1:nm (word p.k.mem (p.low.getD (v / 4) 0).toNat (v % 4)) (aA p.pages m).at_.toNat=0:=by
     show nm (pw p.k p.low v) _=0
     unfold nm;rw [hen];simp only [Option.map_some,AG];rw [if_neg (Ne.symm NQ)]
    rw [n1];simp [nm,g_]
   have hin2:inf k2.ag (aA p.pages m).at_.toNat=inf p.k.ag (aA p.pages m).at_.toNat:=by
    rw [hG.2.2 _ (by rw [hin1,h6];omega),hin1]
   exact .inr (.inl ⟨h1,h2,h3,by rw [NP];exact h4,by rw [hin2];exact h5,by rw [hin2];exact h6⟩)
  refine .inr (.inr ⟨h1,h2,h3,?_,h5,by rw [NP];exact h6⟩);rw [hrow];split
  ·exact hne
  exact h4
 ·show (((a_ p.pages v ⟨2,i,false⟩).countP fun x:dV=>x.wh==1:Nat):Int)<=p.limit
  have:=h.cnt;omega
 show aA (a_ p.pages v _) n=_
 rw [hat n,if_neg hn]
end Kx
namespace Kx
structure Fr (k k':Kernel) (f:Nat):Prop where
 ok:Ok k'
 ag:k'.ag=k.ag
 ah:k'.ah=k.ah
 row:∀ g,g≠f->row k'.mem g=row k.mem g
theorem NR {k:Kernel} (h:Ok k) (f i w:Int):Fr k (bJ k 3 f i w).1 f.toNat:=by
 have hok:Ok (bJ k 3 f i w).1:=h.cO _ rfl;have hd:qm k ⟨3,0,f,i,w,sA⟩=oP k ⟨3,0,f,i,w,sA⟩:=by unfold qm;simp
 refine ⟨hok,?_,?_,?_⟩
 all_goals
  unfold bJ cO;rw [hd];split
 ·rfl
 ·unfold oP;repeat' split
  all_goals rfl
 ·rfl
 ·unfold oP;repeat' split
  all_goals rfl
 ·exact fun _ _=>rfl
 unfold oP;split
 ·exact fun _ _=>rfl
 rename_i hc
 split
 ·exact fun _ _=>rfl
 obtain ⟨_,h12,_⟩:=fQ (Classical.not_not.1 hc);intro g hg;show Kx.row (bG k.mem f.toNat _ _) g=_;rw [iH (by rw [h.m12];exact h12),if_neg hg]
theorem EG {k:Kernel} (h:Ok k) (f:Int) (ws:List Int):∀ n,Fr k (A7 k f ws n) f.toNat
 | 0=>⟨h,rfl,rfl,fun _ _=>rfl⟩
 | n+1=>by
  have h1:=EG h f ws n;have h2:=NR h1.ok f n (ws.getD n 0);exact ⟨h2.ok,h2.ag.trans h1.ag,h2.ah.trans h1.ah,fun g hg=>(h2.row g hg).trans (h1.row g hg)⟩
theorem yV {k:Kernel} {low:List Int} (h:Low k low):(bJ k 1 0 0 0).2.2≠0\/∃ f,free k.ag=some f/\f<12/\(inf k.ag f).kind=0/\bJ k 1 0 0 0=({ k with ag:=k.ag.set f ⟨1,sA,0⟩,mem:=k.mem.set f [0,0,0,0] },(f:Int),0):=by
 have hd:qm k ⟨1,0,0,0,0,sA⟩=take k ⟨1,0,0,0,0,sA⟩:=by unfold qm;simp
 have hr:bT sA=true:=by decide +kernel
 have hm:jQ k 0 sA=true:=h.me;have ht:take k ⟨1,0,0,0,0,sA⟩=match free k.ag with
  | none=>(k,0,4)
  | some f=>({ k with ag:=k.ag.set f ⟨1,sA,0⟩,mem:=k.mem.set f [0,0,0,0] },(f:Int),0):=by
  unfold take;simp only [hr,hm];rfl
 unfold bJ cO;rw [hd,ht]
 cases hf:free k.ag with
 | none=>left;simp
 | some f =>
  obtain ⟨h1,h2⟩:=wE hf;right;exact ⟨f,rfl,by rw [<-h.ok.i12];exact h1,h2,by simp⟩
theorem rZ.Zt {p:aH} (h:rZ p) {n:Nat} (hn:n<16) (hw:(aA p.pages n).wh≠1) (hc:(countP p 1:Int)<p.limit):rZ (DC p n).1:=by
 have hl:=h.low;have hnl:n<p.pages.length:=by rw [h.p16];exact hn
 rcases yV hl with hf | ⟨f,_,dG,hk0,htk⟩
 ·unfold DC;simp only [if_pos hf];exact h
 have hz:=uN hl.ok dG hk0;obtain ⟨k0,hk0'⟩:∃ k0:Kernel,k0={ p.k with ag:=p.k.ag.set f ⟨1,sA,0⟩,mem:=p.k.mem.set f [0,0,0,0] }:=⟨_,rfl⟩;rw [<-hk0'] at htk;have hok0:Ok k0:=by
  have:Ok (bJ p.k 1 0 0 0).1:=hl.ok.cO _ rfl
  rwa [htk] at this
 have hin0:∀ g,inf k0.ag g=if g=f then ⟨1,sA,0⟩ else inf p.k.ag g:=fun g=>by rw [hk0'];exact nJ (by rw [hl.ok.i12];exact dG)
 have hrow0:∀ g,g≠f->row k0.mem g=row p.k.mem g:=fun g hg=>by rw [hk0'];show row (p.k.mem.set f _) g=_;rw [rC (by rw [hl.ok.m12];exact dG),if_neg hg]
 have LH:k0.ah=p.k.ah:=by rw [hk0']
 have Gj:∀ g,1<=(inf p.k.ag g).kind->g≠f:=fun g hg e=>by subst e;omega
 have hL0:Low k0 p.low:=by
  have hkd:∀ g,(g=(au p.k.ah 0).root.toNat\/∃ i,i<4/\g=(p.low.getD i 0).toNat)->g≠f:=fun g hg=>Gj g (by
   rcases hg with rfl | ⟨i,hi,rfl⟩
   ·rw [hl.top.1];omega
   rw [(hl.kind hi).1];omega)
  refine hl.keep hok0 (by rw [LH]) (by rw [LH];exact hl.me) (by rw [LH];exact hl.CU) (fun g hg=>?_) (hrow0 _ (hkd _ (.inl rfl)));rw [hin0,if_neg (hkd g hg)];exact ⟨rfl,rfl⟩
 -- the words of the swap are put
 obtain ⟨k1,hk1⟩:∃ k1,k1=(if (aA p.pages n).wh=2 then A7 k0 (f:Int) (row p.swap (aA p.pages n).at_.toNat) 4 else k0):=⟨_,rfl⟩;have hF:Fr k0 k1 f:=by
  rw [hk1];split
  ·exact EG hok0 (f:Int) _ 4
  exact ⟨hok0,rfl,rfl,fun _ _=>rfl⟩
 have hL1:Low k1 p.low:=by
  have htf:(au k0.ah 0).root.toNat≠f:=fun e=>by
   have h1:=hL0.top.1;rw [e,hin0,if_pos rfl] at h1;simp at h1
  exact hL0.keep hF.ok (by rw [hF.ah]) (by rw [hF.ah];exact hL0.me) (by rw [hF.ah];exact hL0.CU) (fun g hg=>by rw [hF.ag];exact ⟨rfl,rfl⟩) (hF.row _ htf)
 have hin1:∀ g,inf k1.ag g=if g=f then ⟨1,sA,0⟩ else inf p.k.ag g:=fun g=>by rw [hF.ag];exact hin0 g
 have LJ:∀ m,m<16->(p.low.getD (m / 4) 0).toNat≠f:=fun m hm=>Gj _ (by rw [(hl.kind (i:=m / 4) (by omega)).1];omega)
 have Us:∀ m,m<16->pw k1 p.low m=pw p.k p.low m:=fun m hm=>by
  unfold pw word;rw [hF.row _ (LJ m hm),hrow0 _ (LJ m hm)]
 -- the entry is set
 have hE:=hL1.entry (i:=n / 4) (j:=n % 4) (c:=put f true) (by omega) (by omega) (.inr ⟨f,jf dG true,by rw [hin1,if_pos rfl],by rw [hin1,if_pos rfl]⟩);have hL:=hL1.Zr (by omega) (by omega) hE (fun g hg=>by
  obtain ⟨b,hb⟩:=nY.1 hg;rw [jf dG true] at hb;simp only [AG,Prod.mk.injEq] at hb;rw [<-hb.1,hin1,if_pos rfl])
 obtain ⟨k2,hk2⟩:∃ k2,k2=(bJ k1 6 (p.low.getD (n / 4) 0) ((n % 4:Nat):Int) (put f true)).1:=⟨_,rfl⟩;rw [<-hk2] at hE hL;have hres:(DC p n).1={ p with swap:=if (aA p.pages n).wh=2 then p.swap.set (aA p.pages n).at_.toNat [] else p.swap,k:=k2,pages:=a_ p.pages n ⟨1,f,true⟩ }:=by
  unfold DC;rw [htk];simp only [ne_eq,not_true_eq_false,if_false,Int.toNat_natCast];rw [hk2,hk1]
 rw [hres];have Pm:=h.page n hn;have hpn:pw p.k p.low n=0:=by
  rcases Pm with ⟨_,_,h3⟩ | ⟨h1,_⟩ | ⟨_,_,_,_,_,h6⟩
  ·exact h3
  ·exact absurd h1 hw
  exact h6
 have hpw:∀ m,m<16->pw k2 p.low m=if m=n then put f true else pw p.k p.low m:=fun m hm=>by
  rw [hL1.Lu hn hm hE];split
  ·rfl
  exact Us m hm
 have Pn:∀ g,nm (word k1.mem (p.low.getD (n / 4) 0).toNat (n % 4)) g=0:=fun g=>by
  show nm (pw k1 p.low n) g=0
  rw [Us n hn,hpn];rfl
 have hat:∀ m,aA (a_ p.pages n ⟨1,f,true⟩) m=if m=n then ⟨1,f,true⟩ else aA p.pages m:=fun m=>tV hnl
 have hc1:=lV (x:=⟨1,f,true⟩) (fun x:dV=>x.wh==1) hnl;have hw':((aA p.pages n).wh==1)=false:=by simpa using hw
 simp only [hw'] at hc1;have Po:∀ j:Nat,j<16->(a_ p.pages n ⟨1,f,true⟩).countP (fun x:dV=>x.wh==2&&x.at_==(j:Int))+(if (aA p.pages n).wh=2/\(aA p.pages n).at_=(j:Int) then 1 else 0)=if (row p.swap j).isEmpty then 0 else 1:=fun j hj=>by
  have hcj:=lV (x:=⟨1,f,true⟩) (fun x:dV=>x.wh==2&&x.at_==(j:Int)) hnl
  have hs:=h.slot j hj;unfold qf at hs;rw [hs] at hcj;simpa using hcj
 have hsl:=gy.1 h.swap;have hrow:∀ j:Nat,j<16->row (if (aA p.pages n).wh=2 then p.swap.set (aA p.pages n).at_.toNat [] else p.swap) j=if (aA p.pages n).wh=2/\(aA p.pages n).at_=(j:Int) then [] else row p.swap j:=fun j hj=>by
  rcases Pm with ⟨h1,_⟩ | ⟨h1,_⟩ | ⟨h1,h2,h3,_⟩
  ·have:¬ (aA p.pages n).wh=2:=by omega
   rw [if_neg this,if_neg (fun q=>this q.1)]
  ·exact absurd h1 hw
  rw [if_pos h1,rC (by rw [hsl.1];omega)]
  by_cases hj':(aA p.pages n).at_=(j:Int)
  ·rw [if_pos (show j=(aA p.pages n).at_.toNat by omega),if_pos ⟨h1,hj'⟩]
  rw [if_neg (show ¬ j=(aA p.pages n).at_.toNat by omega),if_neg (fun q=>hj' q.2)]
 refine ⟨hL,?_,by rw [jL];exact h.p16,fun j hj=>?_,fun m hm=>?_,h.hand,h.lim,?_⟩
 ·refine gy.2 ⟨by split <;> simp [hsl.1],fun j hj=>?_⟩
  rw [hrow j hj];split
  ·exact .inl rfl
  exact hsl.2 j hj
 ·show (a_ p.pages n ⟨1,f,true⟩).countP _=if (row _ j).isEmpty then 0 else 1
  have:=Po j hj
  rw [hrow j hj];split
  ·rename_i q
   rw [if_pos q] at this;have hle:(if (row p.swap j).isEmpty then 0 else 1)<=1:=by split <;> omega
   simp only [List.isEmpty_nil,if_true];omega
  rename_i q
  rw [if_neg q] at this;exact this
 ·show At k2 p.low _ m (aA (a_ p.pages n _) m)
  rw [hat m]
  by_cases hmn:m=n
  ·rw [if_pos hmn];refine .inr (.inl ⟨rfl,by simp,by simp;omega,by rw [hpw m hm,if_pos hmn];rfl,?_,?_⟩)
   ·show (inf k2.ag f).guard=sA
    rw [hE.inf,hin1,if_pos rfl]
   show (inf k2.ag f).refs=1
   have:nm (put f true) f=1:=nY.2 ⟨true,jf dG true⟩
   rw [hE.inf,Pn,this,hin1,if_pos rfl];rfl
  rw [if_neg hmn];have NS:=hpw m hm;rw [if_neg hmn] at NS;rcases h.page m hm with ⟨h1,h2,h3⟩ | ⟨h1,h2,h3,h4,h5,h6⟩ | ⟨h1,h2,h3,h4,h5,h6⟩
  ·exact .inl ⟨h1,h2,by rw [NS];exact h3⟩
  ·have LG:entry (pw p.k p.low m)=some ((aA p.pages m).at_.toNat,true):=by rw [h4];exact jf (by omega) true
   have hdm:=hl.data hm LG;have NQ:=Gj (aA p.pages m).at_.toNat (by omega);have hin2:inf k2.ag (aA p.pages m).at_.toNat=inf p.k.ag (aA p.pages m).at_.toNat:=by
    have n1:nm (put f true) (aA p.pages m).at_.toNat=0:=by
     unfold nm;rw [jf dG true];simp only [Option.map_some,AG];rw [if_neg (Ne.symm NQ)]
    rw [hE.inf,Pn,n1,hin1,if_neg NQ];simp
   exact .inr (.inl ⟨h1,h2,h3,by rw [NS];exact h4,by rw [hin2];exact h5,by rw [hin2];exact h6⟩)
  refine .inr (.inr ⟨h1,h2,h3,?_,h5,by rw [NS];exact h6⟩);have hrw:=hrow (aA p.pages m).at_.toNat (by omega);rw [hrw];split
  ·rename_i q
   exfalso
   have hsm:=Po (aA p.pages m).at_.toNat (by omega);rw [if_pos q,h4] at hsm;have hpos:0<(a_ p.pages n ⟨1,f,true⟩).countP (fun x:dV=>x.wh==2&&x.at_==((aA p.pages m).at_.toNat:Int)):=
    nV (x:=aA (a_ p.pages n ⟨1,f,true⟩) m) (zx (by rw [jL,h.p16];exact hm)) (by rw [hat m,if_neg hmn];simp [h1];omega)
   simp only [Bool.false_eq_true,if_false] at hsm;omega
  exact h4
 show (((a_ p.pages n ⟨1,f,true⟩).countP fun x:dV=>x.wh==1:Nat):Int)<=p.limit
 have h1:p.pages.countP (fun x:dV=>x.wh==1)=countP p 1:=rfl;rw [h1] at hc1;simp at hc1;omega
theorem rZ.touch {p:aH} (h:rZ p) {n:Nat} (hn:n<16):rZ (touch p n).1:=by
 unfold Kx.touch;split
 ·rename_i hw
  exact (GM h hn (u:=true) (.inr hw) h.hand).ok
 rename_i hw
 split
 ·have hv:=pz 32 h;split
  ·exact h
  rename_i hv0
  obtain ⟨hv1,hv2⟩:=hv.2 (by omega);have ho:=hv.1.ok.o hv1 hv2;have hnv:n≠(eP 32 p).2.toNat:=fun e=>by
   have:=hv.1.wh n
   rw [e] at this hw;omega
  refine ho.1.Zt hn ?_ ?_
  ·rw [ho.2.2.2 n hnv,hv.1.wh n];exact hw
  have h1:=hv.1.ok.cnt;rw [ho.2.2.1];omega
 rename_i hno
 refine h.Zt hn hw ?_;unfold ny at hno;simp only [AF,not_or,decide_eq_true_eq] at hno;omega
theorem rZ.acc {p:aH} (h:rZ p) {c:Call} (hk:c.kind=10\/c.kind=11) (he:c.env=0):rZ { p with k:=(cO p.k c).1 }:=by
 have hl:=h.low;have he2:bK c.env 0 2=true:=by rw [he];rfl
 have hok:=hl.ok.cO c he2;have hd:qm p.k c=access p.k c:=by
  unfold qm;rw [if_neg (by omega),if_neg (by omega),if_neg (by omega),if_neg (by omega),if_neg (by omega),if_neg (by omega),if_neg (by omega),if_pos hk]
 have hca:(cO p.k c).1=p.k\/(cO p.k c).1=(access p.k c).1:=by
  unfold cO;rw [hd];split
  ·exact .inl rfl
  exact .inr rfl
 have key:∃ f,(cO p.k c).1.ag=p.k.ag/\(cO p.k c).1.ah=p.k.ah/\((∀ g,row (cO p.k c).1.mem g=row p.k.mem g)\/((inf p.k.ag f).kind=1/\∀ g,g≠f->row (cO p.k c).1.mem g=row p.k.mem g)):=by
  rcases hca with e | e <;> rw [e]
  ·exact ⟨0,rfl,rfl,.inl fun _=>rfl⟩
  rcases uS hl.ok he2 with e | ⟨ca,e | ⟨f,a,w,hf,hf1,hr,e⟩⟩ <;> rw [e]
  ·exact ⟨0,rfl,rfl,.inl fun _=>rfl⟩
  ·exact ⟨0,rfl,rfl,.inl fun _=>rfl⟩
  refine ⟨f,rfl,rfl,.inr ⟨hf1,fun g hg=>?_⟩⟩
  show row (bG _ _ _ _) g=_
  rw [iH (by rw [hl.ok.m12];exact hf),if_neg hg]
 obtain ⟨f,hi,hev,hrw⟩:=key;have hrow:∀ g,(inf p.k.ag g).kind≠1->row (cO p.k c).1.mem g=row p.k.mem g:=fun g hg=>by
  rcases hrw with hrw | ⟨hf1,hrw⟩
  ·exact hrw g
  exact hrw g (fun e=>hg (e ▸ hf1))
 have hlow':Low (cO p.k c).1 p.low:=hl.keep hok (by rw [hev]) (by rw [hev];exact hl.me) (by rw [hev];exact hl.CU) (fun g _=>by rw [hi];exact ⟨rfl,rfl⟩) (hrow _ (by rw [hl.top.1];omega));refine ⟨hlow',h.swap,h.p16,h.slot,fun n hn=>?_,h.hand,h.lim,h.cnt⟩
 have hpw:pw (cO p.k c).1 p.low n=pw p.k p.low n:=by
  unfold pw word;rw [hrow _ (by rw [(hl.kind (i:=n / 4) (by omega)).1];omega)]
 have:=h.page n hn
 unfold At at this ⊢;simp only [hpw,hi];exact this
theorem rZ.touched {p:aH} (h:rZ p) {n:Int} (hn:bK n 0 15=true):rZ (gq p n).1:=by
 unfold gq;rw [iD.2 h,hn];simp only [Bool.not_true,Bool.or_self,Bool.false_eq_true,if_false];rw [ay] at hn;split
 ·exact h.touch (by omega)
 exact h
theorem rZ.store {p:aH} (h:rZ p) {ad w:Int} (ha:bK ad 0 63=true) (hw:bK w 0 9999=true):rZ (iM p ad w).1:=by
 have ht:=h.touched (n:=ad / 4) (by rw [ay] at ha ⊢;omega);unfold iM;rw [iD.2 h,ha,hw];simp only [Bool.not_true,Bool.or_self,Bool.false_eq_true,if_false];split
 ·exact ht
 exact ht.acc (.inr rfl) rfl
end Kx
