/- Kern, KernA, KernB, KernC, KernD, KernE, KernP, KernQ, KernR, KernS, KernT, joined. -/
import GoSem.Op.String
import Derived.Test.YtenebmeaoidnoaaGreatDoorKY
import Derived.Laws.Strings
namespace Kx
abbrev Str:=ByteArray
/-- b begins with a -/
def pre (a b:Str):Bool:=a.data.toList.isPrefixOf b.data.toList
/-- a comes before b -/
def lt (a b:Str):Bool:=Go.Op.bytesLess a.toList b.toList
structure Info where
  kind:Int
  guard:Str
  refs:Int
deriving DecidableEq
structure Env where
  rights:List Str
  root:Int
deriving DecidableEq
structure Cached where
  env:Int
  page:Int
  frame:Int
  write:Bool
deriving DecidableEq
structure Kernel where
  mem:List (List Int)
  infos:List Info
  envs:List Env
  cache:List Cached
deriving DecidableEq
structure Call where
  kind:Int
  env:Int
  a:Int
  b:Int
  c:Int
  name:Str
deriving DecidableEq
structure Page where
  wh:Int
  at_:Int
  used:Bool
deriving DecidableEq
structure Pager where
  k:Kernel
  swap:List (List Int)
  low:List Int
  pages:List Page
  hand:Int
  limit:Int
deriving DecidableEq
/-- lo ≤ n ≤ hi -/
def inR (n lo hi:Int):Bool:=decide (lo≤n)&&decide (n≤hi)
theorem inR_true {n lo hi:Int}:inR n lo hi=true↔lo≤n∧n≤hi:=by simp [inR]
theorem inR_false {n lo hi:Int}:inR n lo hi=false↔n<lo∨hi<n:=by
  simp only [inR,Bool.and_eq_false_iff,decide_eq_false_iff_not];omega
def Info.zero:Info:=⟨0,ByteArray.empty,0⟩
def Env.zero:Env:=⟨[],0⟩
def Cached.zero:Cached:=⟨0,0,0,false⟩
def Page.zero:Page:=⟨0,0,false⟩
def Kernel.zero:Kernel:=⟨[],[],[],[]⟩
def Pager.zero:Pager:=⟨Kernel.zero,[],[],[],0,0⟩
def row (m:List (List Int)) (f:Nat):List Int:=m.getD f []
def word (m:List (List Int)) (f a:Nat):Int:=(row m f).getD a 0
def inf (l:List Info) (f:Nat):Info:=l.getD f Info.zero
def envAt (l:List Env) (e:Nat):Env:=l.getD e Env.zero
def pageAt (l:List Page) (n:Nat):Page:=l.getD n Page.zero
/-! entries -/
def put (f:Nat) (write:Bool):Int:=4*(f:Int)+if write then 3 else 1
def entry (w:Int):Option (Nat×Bool):=if 0<w∧w % 2=1∧w<48 then some ((w / 4).toNat,w % 4==3) else none
def entryKind (w:Int):Int:=if w=0 then 0 else if (entry w).isSome then 1 else 2
/-! memory -/
def wordOk (n:Int):Bool:=inR n 0 9999
def wordsOk (ws:List Int):Bool:=ws.all wordOk&&ws.length==4
def memOk (m:List (List Int)):Bool:=m.all wordsOk&&m.length==12
def setWord (m:List (List Int)) (f a:Nat) (x:Int):List (List Int):=m.set f ((row m f).set a x)
/-! walks -/
def walk (m:List (List Int)) (root ad:Nat):(Int×Int×Bool)×Int:=
  match entry (word m root (ad / 16)) with
  | none=>((0,0,false),1)
  | some (t,a)=>match entry (word m t (ad / 4 % 4)) with
    | none=>((0,0,false),2)
    | some (f,b)=>(((f:Int),((ad % 4:Nat):Int),a&&b),0)
def namedW (ws:List Int):List Nat:=ws.filterMap fun w=>(entry w).map (·.1)
def sortedF (l:List Nat):List Nat:=(List.range 12).filter fun f=>l.contains f
def tables (m:List (List Int)) (r:Nat):List Nat:=sortedF (namedW (row m r))
def framesR (m:List (List Int)) (r:Nat):List Nat:=sortedF ((tables m r).flatMap fun t=>namedW (row m t))
def reach (m:List (List Int)) (root:Int):List Nat:=
  if root<0 then [] else sortedF (root.toNat :: (tables m root.toNat ++ framesR m root.toNat))
/-! the cache -/
def cachedOk (x:Cached):Bool:=inR x.env 0 2&&inR x.page 0 15&&inR x.frame 0 11
def cfind (c:List Cached) (env page:Int):Option Nat:=c.findIdx? fun x=>x.env==env&&x.page==page
def cacheOk (c:List Cached):Bool:=
  ((List.range c.length).all fun i=>let x:=c.getD i Cached.zero;cachedOk x&&!(match cfind c x.env x.page with | some j=>decide (j<i) | none=>false))&&decide (c.length≤4)
def cput (c:List Cached) (x:Cached):List Cached:=
  let o:=c.filter fun y=>y.env != x.env||y.page != x.page
  (if 4≤o.length then o.drop 1 else o) ++ [x]
def cdrop (c:List Cached) (env:Int):List Cached:=c.filter fun y=>y.env != env
/-! rights -/
def rightOk (s:Str):Bool:=s.data.toList.all (fun b=>97≤b&&b≤99)&&decide (s.size≤4)
def ascends:List Str→Bool
  | []=>true
  | [_]=>true
  | a :: b :: l=>lt a b&&ascends (b :: l)
def rightsOk (l:List Str):Bool:=l.all rightOk&&ascends l&&decide (l.length≤6)
def may (l:List Str) (g:Str):Bool:=l.any fun s=>pre s g
/-- where s is, or would be, in rights -/
def rplace (l:List Str) (s:Str):Nat:=(l.takeWhile fun x=>lt x s).length
def radd (l:List Str) (s:Str):List Str×Bool:=
  if l[rplace l s]?=some s then (l,true)
  else if 6≤l.length then (l,false)
  else (l.take (rplace l s) ++ s :: l.drop (rplace l s),true)
def rdrop (l:List Str) (s:Str):List Str:=l.filter fun r=>!pre s r
def allowed (l:List Info) (fs:List Nat) (rights:List Str):Bool:=fs.all fun f=>may rights (inf l f).guard
/-! frames -/
def infoOk (x:Info):Bool:=if x.kind=0 then x==Info.zero else inR x.kind 1 3&&rightOk x.guard&&inR x.refs 0 50
def infosOk (l:List Info):Bool:=l.all infoOk&&l.length==12
def free (l:List Info):Option Nat:=l.findIdx? fun x=>x.kind==0
def freeN (l:List Info):Nat:=l.countP fun x=>x.kind==0
def setRefs (l:List Info) (f:Nat) (d:Int):List Info:=l.set f { inf l f with refs:=(inf l f).refs+d }
def setKind (l:List Info) (f:Nat) (kind:Int):List Info:=l.set f { inf l f with kind:=kind }
/-! tables -/
def isTab (kind:Int):Bool:=kind==2||kind==3
def needs (kind:Int):Int:=if isTab kind then kind - 1 else 0
def entryOk (l:List Info) (t:Nat) (w kind:Int) (rights:List Str):Bool:=
  match entry w with
  | none=>w==0
  | some (g,_)=>g != t&&(inf l g).kind==kind - 1&&may rights (inf l g).guard
def rowOk (m:List (List Int)) (l:List Info) (f:Nat) (kind:Int) (rights:List Str):Bool:=
  (row m f).all fun w=>entryOk l f w kind rights
def countT (m:List (List Int)) (l:List Info) (g:Nat):Nat:=
  ((List.range 12).map fun f=>if isTab (inf l f).kind then (namedW (row m f)).count g else 0).sum
def counts (m:List (List Int)) (l:List Info):List Int:=(List.range 12).map fun g=>(countT m l g:Int)
def addRefs (l:List Info) (fs:List Nat) (d:Int):List Info:=fs.foldl (fun l f=>setRefs l f d) l
def tableOk (m:List (List Int)) (l:List Info) (f kind:Int) (rights:List Str):Bool:=
  memOk m&&inR f 0 11&&infosOk l&&isTab kind&&rightsOk rights&&rowOk m l f.toNat kind rights
def pin (m:List (List Int)) (l:List Info) (f kind:Int) (rights:List Str):List Info×Int:=
  if !(memOk m&&inR f 0 11&&infosOk l&&isTab kind&&rightsOk rights) then ([],3)
  else if (inf l f.toNat).kind≠1∨(inf l f.toNat).refs > 0 then (l,1)
  else if !rowOk m l f.toNat kind rights then (l,2)
  else if infosOk (addRefs (setKind l f.toNat kind) (namedW (row m f.toNat)) 1) then (addRefs (setKind l f.toNat kind) (namedW (row m f.toNat)) 1,0)
  else (l,1)
def unpin (m:List (List Int)) (l:List Info) (f:Int):List Info×Int:=
  if !(memOk m&&inR f 0 11&&infosOk l) then ([],3)
  else if isTab (inf l f.toNat).kind=false∨(inf l f.toNat).refs > 0 then (l,1)
  else if infosOk (addRefs (setKind l f.toNat 1) (namedW (row m f.toNat)) (-1)) then (addRefs (setKind l f.toNat 1) (namedW (row m f.toNat)) (-1),0)
  else (l,2)
/-! the kernel -/
def rootsN (envs:List Env) (g:Nat):Nat:=envs.countP fun e=>e.root==(g:Int)
def refsOk (k:Kernel):Bool:=(List.range 12).all fun g=>(inf k.infos g).refs==((countT k.mem k.infos g+rootsN k.envs g:Nat):Int)
def envOk (k:Kernel) (e:Env):Bool:=
  rightsOk e.rights&&inR e.root (-1) 11&&(decide (e.root<0)||(inf k.infos e.root.toNat).kind==3)&&allowed k.infos (reach k.mem e.root) e.rights
def envsOk (k:Kernel):Bool:=k.envs.all (envOk k)&&k.envs.length==3
def tabsOk (k:Kernel):Bool:=(List.range 12).all fun f=>!isTab (inf k.infos f).kind||rowOk k.mem k.infos f (inf k.infos f).kind [ByteArray.empty]
def cachedTrue (k:Kernel) (x:Cached):Bool:=
  let root:=(envAt k.envs x.env.toNat).root
  !decide (root<0)&&(let r:=walk k.mem root.toNat (4*x.page.toNat);r.2==0&&r.1.1==x.frame&&r.1.2.2==x.write)
def cacheTrue (k:Kernel):Bool:=k.cache.all (cachedTrue k)
def kernelOk (k:Kernel):Bool:=memOk k.mem&&infosOk k.infos&&cacheOk k.cache&&envsOk k&&tabsOk k&&refsOk k&&cacheTrue k
def sees (k:Kernel) (env ad:Int):Int×Bool:=
  if !kernelOk k||!inR env 0 2||!inR ad 0 63||decide ((envAt k.envs env.toNat).root<0) then (0,false)
  else match walk k.mem (envAt k.envs env.toNat).root.toNat ad.toNat with
    | ((f,a,_),c)=>if c=0 then (word k.mem f.toNat a.toNat,true) else (0,false)
/-! calls -/
abbrev Out:=Kernel×Int×Int
def mayE (k:Kernel) (env:Int) (g:Str):Bool:=may (envAt k.envs env.toNat).rights g
def take (k:Kernel) (c:Call):Out:=
  if !rightOk c.name then (k,0,3) else if !mayE k c.env c.name then (k,0,1)
  else match free k.infos with
    | none=>(k,0,4)
    | some f=>({ k with infos:=k.infos.set f ⟨1,c.name,0⟩,mem:=k.mem.set f [0,0,0,0] },f,0)
/-- a frame that must be of a kind; 0: a table -/
def frameCode (k:Kernel) (c:Call) (kind:Int):Int:=
  if !inR c.a 0 11||(inf k.infos c.a.toNat).kind==0 then 3
  else if !mayE k c.env (inf k.infos c.a.toNat).guard then 1
  else if 0<kind∧(inf k.infos c.a.toNat).kind≠kind∨kind=0∧isTab (inf k.infos c.a.toNat).kind=false then 3
  else 0
def give (k:Kernel) (c:Call):Out:=
  if frameCode k c 1≠0 then (k,0,frameCode k c 1)
  else if (inf k.infos c.a.toNat).refs > 0 then (k,0,2)
  else ({ k with infos:=k.infos.set c.a.toNat Info.zero },0,0)
def poke (k:Kernel) (c:Call):Out:=
  if frameCode k c 1≠0 then (k,0,frameCode k c 1)
  else if !inR c.b 0 3||!inR c.c 0 9999 then (k,0,3)
  else ({ k with mem:=setWord k.mem c.a.toNat c.b.toNat c.c },0,0)
def pinned (k:Kernel) (c:Call):List Info×Int:=
  if c.kind=4 then pin k.mem k.infos c.a c.b (envAt k.envs c.env.toNat).rights else unpin k.mem k.infos c.a
def pinK (k:Kernel) (c:Call):Out:=
  if !inR c.a 0 11||(inf k.infos c.a.toNat).kind==0||(c.kind==4&&!isTab c.b) then (k,0,3)
  else if !mayE k c.env (inf k.infos c.a.toNat).guard then (k,0,1)
  else if (pinned k c).2=1 then (k,0,2) else if (pinned k c).2=2 then (k,0,3)
  else ({ k with infos:=(pinned k c).1 },0,0)
def usesTable (m:List (List Int)) (e:Env) (t:Int):Bool:=e.root==t||(!decide (e.root<0)&&(tables m e.root.toNat).contains t.toNat)
def users (k:Kernel) (t:Int):List Nat:=(List.range k.envs.length).filter fun i=>usesTable k.mem (envAt k.envs i) t
def behind (k:Kernel) (w:Int):List Nat:=
  match entry w with
  | none=>[]
  | some (f,_)=>if (inf k.infos f).kind≠2 then [f] else f :: namedW (row k.mem f)
def setRefsO (l:List Info) (w d:Int):List Info:=match entry w with | none=>l | some (f,_)=>setRefs l f d
def setBad (k:Kernel) (c:Call):Bool:=
  !inR c.b 0 3||entryKind c.c==2||(match entry c.c with | none=>false | some (f,_)=>(inf k.infos f).kind != (inf k.infos c.a.toNat).kind - 1)
def setDeny (k:Kernel) (c:Call):Bool:=match entry c.c with | none=>false | some (f,_)=>!mayE k c.env (inf k.infos f).guard
def setK (k:Kernel) (c:Call):Out:=
  if frameCode k c 0≠0 then (k,0,frameCode k c 0)
  else if setBad k c then (k,0,3)
  else if !((users k c.a).all fun e=>allowed k.infos (behind k c.c) (envAt k.envs e).rights) then (k,0,1)
  else if setDeny k c then (k,0,1)
  else ({ k with
      infos:=setRefsO (setRefsO k.infos (word k.mem c.a.toNat c.b.toNat) (-1)) c.c 1
      mem:=setWord k.mem c.a.toNat c.b.toNat c.c
      cache:=(users k c.a).foldl (fun (ca:List Cached) (e:Nat)=>cdrop ca (e:Int)) k.cache },0,0)
def setRoot (l:List Env) (e:Nat) (r:Int):List Env:=l.set e { envAt l e with root:=r }
def setRights (l:List Env) (e:Nat) (r:List Str):List Env:=l.set e { envAt l e with rights:=r }
def rootK (k:Kernel) (c:Call):Out:=
  if c.a≠-1∧(!inR c.a 0 11||(inf k.infos c.a.toNat).kind != 3) then (k,0,3)
  else if !allowed k.infos (reach k.mem c.a) (envAt k.envs c.env.toNat).rights then (k,0,1)
  else
    let old:=(envAt k.envs c.env.toNat).root
    let l1:=if 0≤old then setRefs k.infos old.toNat (-1) else k.infos
    let l2:=if 0≤c.a then setRefs l1 c.a.toNat 1 else l1
    ({ k with infos:=l2,envs:=setRoot k.envs c.env.toNat c.a,cache:=cdrop k.cache c.env },0,0)
def rightsK (k:Kernel) (c:Call):Out:=
  if !inR c.a 0 2||!rightOk c.name||(c.kind==9&&c.a==c.env) then (k,0,3)
  else if !mayE k c.env c.name then (k,0,1)
  else if c.kind=8 then
    if (radd (envAt k.envs c.a.toNat).rights c.name).2 then ({ k with envs:=setRights k.envs c.a.toNat (radd (envAt k.envs c.a.toNat).rights c.name).1 },0,0) else (k,0,4)
  else if !allowed k.infos (reach k.mem (envAt k.envs c.a.toNat).root) (rdrop (envAt k.envs c.a.toNat).rights c.name) then (k,0,2)
  else ({ k with envs:=setRights k.envs c.a.toNat (rdrop (envAt k.envs c.a.toNat).rights c.name) },0,0)
/-- the place that an address of an environment has by the cache or by the tables -/
def placeOf (k:Kernel) (env ad:Int):(Int×Bool)×Int:=
  match cfind k.cache env (ad / 4) with
  | some i=>(((k.cache.getD i Cached.zero).frame,(k.cache.getD i Cached.zero).write),0)
  | none=>match walk k.mem (envAt k.envs env.toNat).root.toNat ad.toNat with | ((f,_,w),c)=>((f,w),c)
def accCache (k:Kernel) (c:Call) (f:Int) (w:Bool):List Cached:=match cfind k.cache c.env (c.a / 4) with | some _=>k.cache | none=>cput k.cache ⟨c.env,c.a / 4,f,w⟩
def access (k:Kernel) (c:Call):Out:=
  if !inR c.a 0 63||decide ((envAt k.envs c.env.toNat).root<0)||(c.kind==11&&!inR c.b 0 9999) then (k,0,3)
  else match placeOf k c.env c.a with
    | ((f,w),code) =>
      if code≠0 then (k,0,3)
      else if c.kind=11∧w=false then (k,0,1)
      else if c.kind=11 then ({ k with cache:=accCache k c f w,mem:=setWord k.mem f.toNat (c.a % 4).toNat c.b },0,0)
      else ({ k with cache:=accCache k c f w },word k.mem f.toNat (c.a % 4).toNat,0)
def doK (k:Kernel) (c:Call):Out:=
  if c.kind=1 then take k c else if c.kind=2 then give k c else if c.kind=3 then poke k c
  else if c.kind=4∨c.kind=5 then pinK k c else if c.kind=6 then setK k c else if c.kind=7 then rootK k c
  else if c.kind=8∨c.kind=9 then rightsK k c else if c.kind=10∨c.kind=11 then access k c
  else (k,0,3)
def callK (k:Kernel) (c:Call):Out:=if (doK k c).2.2≠0 then (k,0,(doK k c).2.2) else doK k c
def kernelCall (k:Kernel) (c:Call):Out:=if !kernelOk k||!inR c.env 0 2 then (Kernel.zero,0,5) else callK k c
def playStep (s:Kernel×List Int) (c:Call):Kernel×List Int:=
  if inR c.env 0 2 then ((callK s.1 c).1,s.2 ++ [(callK s.1 c).2.2]) else (s.1,s.2 ++ [5])
def kernelPlay (k:Kernel) (cs:List Call):Kernel×List Int:=if !kernelOk k then (Kernel.zero,[]) else cs.foldl playStep (k,[])
/-! the pager -/
def sA:Str:=⟨#[97]⟩
def swapOk (s:List (List Int)):Bool:=s.all (fun ws=>ws.isEmpty||wordsOk ws)&&s.length==16
def pageOk (p:Pager) (n:Nat):Bool:=
  let x:=pageAt p.pages n
  let w:=word p.k.mem ((p.low.getD (n / 4) 0).toNat) (n % 4)
  if x.wh=0 then x==Page.zero&&w==0
  else if x.wh=1 then inR x.at_ 0 11&&w==put x.at_.toNat true&&decide ((inf p.k.infos x.at_.toNat).guard=sA)&&(inf p.k.infos x.at_.toNat).refs==1
  else if x.wh=2 then inR x.at_ 0 15&&!(row p.swap x.at_.toNat).isEmpty&&!x.used&&w==0
  else false
def lowOk (p:Pager) (root i:Nat):Bool:=
  let f:=p.low.getD i 0
  inR f 0 11&&word p.k.mem root i==put f.toNat true&&decide ((inf p.k.infos f.toNat).guard=sA)&&(inf p.k.infos f.toNat).refs==1
def tablesP (p:Pager):Bool:=
  let root:=(envAt p.k.envs 0).root
  !decide (root<0)&&p.low.length==4&&decide ((inf p.k.infos root.toNat).guard=sA)&&(inf p.k.infos root.toNat).refs==1&&(List.range 4).all (lowOk p root.toNat)
def alone (k:Kernel):Bool:=(k.envs.drop 1).all (fun e=>!may e.rights sA)&&may (envAt k.envs 0).rights sA
def countP (p:Pager) (wh:Int):Nat:=p.pages.countP fun x=>x.wh==wh
def slotN (p:Pager) (i:Nat):Nat:=p.pages.countP fun x=>x.wh==2&&x.at_==(i:Int)
def slotsOk (p:Pager):Bool:=(List.range p.swap.length).all fun i=>slotN p i==if (row p.swap i).isEmpty then 0 else 1
def pagerOk (p:Pager):Bool:=
  kernelOk p.k&&swapOk p.swap&&alone p.k&&tablesP p&&p.pages.length==16&&slotsOk p&&(List.range 16).all (pageOk p) &&
    inR p.hand 0 15&&inR p.limit 1 6&&decide ((countP p 1:Int)≤p.limit)
def wordP (p:Pager) (ad:Nat):Int:=
  let x:=pageAt p.pages (ad / 4)
  if x.wh=1 then word p.k.mem x.at_.toNat (ad % 4) else if x.wh=2 then word p.swap x.at_.toNat (ad % 4) else 0
def pagerWord (p:Pager) (ad:Int):Int:=if !pagerOk p||!inR ad 0 63 then -1 else wordP p ad.toNat
end Kx
namespace Kx
/-! ### entries -/
theorem entry_some {w:Int} {g:Nat} {b:Bool}:entry w=some (g,b)↔g<12∧w=put g b:=by
  unfold entry put
  by_cases h:0<w∧w % 2=1∧w<48
  · rw [if_pos h];simp only [Option.some.injEq,Prod.mk.injEq];constructor
    · rintro ⟨rfl,rfl⟩;refine ⟨by omega,?_⟩
      by_cases h3:w % 4=3
      · simp [h3];omega
      · simp [h3];omega
    · rintro ⟨hg,hw⟩
      cases b
      · simp at hw;refine ⟨by omega,?_⟩;simp;omega
      · simp at hw;refine ⟨by omega,?_⟩;simp;omega
  · rw [if_neg h];constructor
    · intro h';cases h'
    · rintro ⟨hg,hw⟩
      cases b <;> simp at hw <;> omega
theorem entry_put {g:Nat} (h:g<12) (b:Bool):entry (put g b)=some (g,b):=entry_some.2 ⟨h,rfl⟩
theorem entry_zero:entry 0=none:=rfl
theorem entry_lt {w:Int} {g:Nat} {b:Bool} (h:entry w=some (g,b)):g<12:=(entry_some.1 h).1
/-! ### lists -/
theorem row_set {m:List (List Int)} {f g:Nat} {x:List Int} (hf:f<m.length):row (m.set f x) g=if g=f then x else row m g:=by
  unfold row
  by_cases h:g=f
  · subst h;simp [hf]
  · simp [h,List.getElem?_set_ne (Ne.symm h)]
theorem inf_set {l:List Info} {f g:Nat} {x:Info} (hf:f<l.length):inf (l.set f x) g=if g=f then x else inf l g:=by
  unfold inf
  by_cases h:g=f
  · subst h;simp [hf]
  · simp [h,List.getElem?_set_ne (Ne.symm h)]
theorem envAt_set {l:List Env} {f g:Nat} {x:Env} (hf:f<l.length):envAt (l.set f x) g=if g=f then x else envAt l g:=by
  unfold envAt
  by_cases h:g=f
  · subst h;simp [hf]
  · simp [h,List.getElem?_set_ne (Ne.symm h)]
theorem getD_set {l:List Int} {f g:Nat} {x:Int} (hf:f<l.length):(l.set f x).getD g 0=if g=f then x else l.getD g 0:=by
  by_cases h:g=f
  · subst h;simp [hf]
  · simp [h,List.getElem?_set_ne (Ne.symm h)]
theorem row_mem {m:List (List Int)} {f:Nat} (h:f<m.length):row m f ∈ m:=by
  unfold row;rw [List.getD_eq_getElem?_getD,List.getElem?_eq_getElem h];exact List.getElem_mem h
theorem inf_mem {l:List Info} {f:Nat} (h:f<l.length):inf l f ∈ l:=by
  unfold inf;rw [List.getD_eq_getElem?_getD,List.getElem?_eq_getElem h];exact List.getElem_mem h
theorem envAt_mem {l:List Env} {f:Nat} (h:f<l.length):envAt l f ∈ l:=by
  unfold envAt;rw [List.getD_eq_getElem?_getD,List.getElem?_eq_getElem h];exact List.getElem_mem h
theorem mem_inf {l:List Info} {x:Info} (h:x ∈ l):∃ f,f<l.length∧inf l f=x:=by
  obtain ⟨f,hf,rfl⟩:=List.getElem_of_mem h;exact ⟨f,hf,by simp [inf,hf]⟩
theorem mem_envAt {l:List Env} {x:Env} (h:x ∈ l):∃ f,f<l.length∧envAt l f=x:=by
  obtain ⟨f,hf,rfl⟩:=List.getElem_of_mem h;exact ⟨f,hf,by simp [envAt,hf]⟩
theorem mem_row {m:List (List Int)} {x:List Int} (h:x ∈ m):∃ f,f<m.length∧row m f=x:=by
  obtain ⟨f,hf,rfl⟩:=List.getElem_of_mem h;exact ⟨f,hf,by simp [row,hf]⟩
theorem getD_mem {l:List Int} {f:Nat} (h:f<l.length):l.getD f 0 ∈ l:=by
  rw [List.getD_eq_getElem?_getD,List.getElem?_eq_getElem h];exact List.getElem_mem h
theorem mem_getD {l:List Int} {x:Int} (h:x ∈ l):∃ f,f<l.length∧l.getD f 0=x:=by
  obtain ⟨f,hf,rfl⟩:=List.getElem_of_mem h;exact ⟨f,hf,by simp [hf]⟩
theorem mem_namedW {ws:List Int} {g:Nat}:g ∈ namedW ws↔∃ w ∈ ws,∃ b,entry w=some (g,b):=by
  unfold namedW;rw [List.mem_filterMap];constructor
  · rintro ⟨w,hw,h⟩;rcases he:entry w with _ | ⟨g',b⟩
    · simp [he] at h
    · simp [he] at h;subst h;exact ⟨w,hw,b,he⟩
  · rintro ⟨w,hw,b,he⟩;exact ⟨w,hw,by simp [he]⟩
theorem namedW_lt {ws:List Int} {g:Nat} (h:g ∈ namedW ws):g<12:=by
  obtain ⟨w,_,b,he⟩:=mem_namedW.1 h;exact entry_lt he
theorem mem_sortedF {l:List Nat} {g:Nat}:g ∈ sortedF l↔g<12∧g ∈ l:=by simp [sortedF]
theorem mem_tables {m:List (List Int)} {r g:Nat}:g ∈ tables m r↔g ∈ namedW (row m r):=by
  unfold tables;rw [mem_sortedF];exact ⟨fun h=>h.2,fun h=>⟨namedW_lt h,h⟩⟩
theorem mem_framesR {m:List (List Int)} {r g:Nat}:g ∈ framesR m r↔∃ t,t ∈ namedW (row m r)∧g ∈ namedW (row m t):=by
  unfold framesR;rw [mem_sortedF,List.mem_flatMap];constructor
  · rintro ⟨_,t,ht,hg⟩;exact ⟨t,mem_tables.1 ht,hg⟩
  · rintro ⟨t,ht,hg⟩;exact ⟨namedW_lt hg,t,mem_tables.2 ht,hg⟩
theorem mem_reach {m:List (List Int)} {root:Int} {g:Nat} :
    g ∈ reach m root↔0≤root∧g<12∧(g=root.toNat∨g ∈ namedW (row m root.toNat)∨∃ t,t ∈ namedW (row m root.toNat)∧g ∈ namedW (row m t)):=by
  unfold reach
  by_cases h:root<0
  · rw [if_pos h];simp;omega
  · rw [if_neg h,mem_sortedF];simp only [List.mem_cons,List.mem_append,mem_tables,mem_framesR];constructor
    · rintro ⟨h1,h2⟩;exact ⟨by omega,h1,h2⟩
    · rintro ⟨_,h1,h2⟩;exact ⟨h1,h2⟩
theorem sortedF_congr {l l':List Nat} (h:∀ g,g<12→(g ∈ l↔g ∈ l')):sortedF l=sortedF l':=by
  unfold sortedF;refine List.filter_congr fun g hg=>?_
  have:=h g (by simpa using hg)
  by_cases hl:g ∈ l
  · simp [hl,this.1 hl]
  · have hl':¬ g ∈ l':=fun h'=>hl (this.2 h')
    simp [hl,hl']
theorem tables_congr {m m':List (List Int)} {r:Nat} (h:row m r=row m' r):tables m r=tables m' r:=by unfold tables;rw [h]
theorem reach_congr {m m':List (List Int)} {root:Int} (h:0≤root→row m root.toNat=row m' root.toNat)
    (ht:0≤root→∀ t,t ∈ namedW (row m root.toNat)→row m t=row m' t):reach m root=reach m' root:=by
  unfold reach
  by_cases hr:root<0
  · rw [if_pos hr,if_pos hr]
  · rw [if_neg hr,if_neg hr];have h1:=h (by omega);have e1:tables m root.toNat=tables m' root.toNat:=tables_congr h1;have e2:framesR m root.toNat=framesR m' root.toNat:=by
      unfold framesR;rw [←e1];congr 1;have:∀ l:List Nat,(∀ t ∈ l,t ∈ namedW (row m root.toNat))→l.flatMap (fun t=>namedW (row m t))=l.flatMap (fun t=>namedW (row m' t)):=by
        intro l
        induction l with
        | nil=>intro _;rfl
        | cons a l ih =>
          intro hl;rw [List.flatMap_cons,List.flatMap_cons,ih (fun t ht'=>hl t (by simp [ht'])),ht (by omega) a (hl a (by simp))]
      exact this _ (fun t ht'=>mem_tables.1 ht')
    rw [e1,e2]
/-! ### shapes -/
theorem memOk_iff {m:List (List Int)}:memOk m=true↔m.length=12∧∀ f,f<12→(row m f).length=4∧∀ w ∈ row m f,0≤w∧w≤9999:=by
  unfold memOk wordsOk wordOk;simp only [Bool.and_eq_true,List.all_eq_true,beq_iff_eq,inR_true];constructor
  · rintro ⟨h,hl⟩;refine ⟨hl,fun f hf=>?_⟩
    have:=h _ (row_mem (m:=m) (f:=f) (by omega))
    exact ⟨this.2,this.1⟩
  · rintro ⟨hl,h⟩;refine ⟨fun x hx=>?_,hl⟩
    obtain ⟨f,hf,rfl⟩:=mem_row hx;exact ⟨(h f (by omega)).2,(h f (by omega)).1⟩
theorem infosOk_iff {l:List Info}:infosOk l=true↔l.length=12∧∀ f,f<12→infoOk (inf l f)=true:=by
  unfold infosOk;simp only [Bool.and_eq_true,List.all_eq_true,beq_iff_eq];constructor
  · rintro ⟨h,hl⟩;exact ⟨hl,fun f hf=>h _ (inf_mem (by omega))⟩
  · rintro ⟨hl,h⟩;refine ⟨fun x hx=>?_,hl⟩
    obtain ⟨f,hf,rfl⟩:=mem_inf hx;exact h f (by omega)
theorem infoOk_iff {x:Info}:infoOk x=true↔x=Info.zero∨(1≤x.kind∧x.kind≤3∧rightOk x.guard=true∧0≤x.refs∧x.refs≤50):=by
  unfold infoOk
  by_cases h:x.kind=0
  · rw [if_pos h];simp only [beq_iff_eq];constructor
    · exact .inl
    · rintro (h' | h')
      · exact h'
      · omega
  · rw [if_neg h];simp only [Bool.and_eq_true,inR_true];constructor
    · rintro ⟨⟨h1,h2⟩,h3⟩;exact .inr ⟨h1.1,h1.2,h2,h3.1,h3.2⟩
    · rintro (h' | ⟨h1,h2,h3,h4,h5⟩)
      · subst h';exact absurd rfl h
      · exact ⟨⟨⟨h1,h2⟩,h3⟩,h4,h5⟩
theorem isTab_iff {k:Int}:isTab k=true↔k=2∨k=3:=by simp [isTab]
theorem may_empty (s:Str):may [ByteArray.empty] s=true:=by
  have h:pre ByteArray.empty s=true:=by unfold pre;rfl
  simp [may,h]
end Kx
namespace Kx
/-! ### counting -/
theorem sum_one {F F':Nat→Nat} {f:Nat}:∀ {n:Nat},f<n→(∀ i,i<n→i≠f→F' i=F i)→((List.range n).map F').sum+F f=((List.range n).map F).sum+F' f
  | 0,h,_=>absurd h (by omega)
  | n+1,hf,h=>by
    rw [List.range_succ,List.map_append,List.map_append,List.sum_append,List.sum_append];simp only [List.map_cons,List.map_nil,List.sum_cons,List.sum_nil,Nat.add_zero]
    by_cases hn:f=n
    · subst hn;have e:(List.range f).map F'=(List.range f).map F:=List.map_congr_left fun i hi=>h i (by simp at hi;omega) (by simp at hi;omega)
      rw [e];omega
    · have:=sum_one (n:=n) (by omega) (fun i hi=>h i (by omega))
      rw [h n (by omega) (Ne.symm hn)];omega
theorem sum_same {F F':Nat→Nat} {n:Nat} (h:∀ i,i<n→F' i=F i):((List.range n).map F').sum=((List.range n).map F).sum:=by
  rw [List.map_congr_left fun i hi=>h i (by simpa using hi)]
theorem sum_le {F:Nat→Nat} {b:Nat}:∀ {n:Nat},(∀ i,i<n→F i≤b)→((List.range n).map F).sum≤n*b
  | 0,_=>by simp
  | n+1,h=>by
    rw [List.range_succ,List.map_append,List.sum_append,Nat.succ_mul];have:=sum_le (n:=n) (fun i hi=>h i (by omega))
    have:=h n (by omega)
    simp;omega
theorem le_sum {F:Nat→Nat} {f:Nat}:∀ {n:Nat},f<n→F f≤((List.range n).map F).sum
  | 0,h=>absurd h (by omega)
  | n+1,h=>by
    rw [List.range_succ,List.map_append,List.sum_append];simp only [List.map_cons,List.map_nil,List.sum_cons,List.sum_nil,Nat.add_zero]
    by_cases hn:f=n
    · subst hn;omega
    · have:=le_sum (F:=F) (n:=n) (f:=f) (by omega);omega
/-- 1 if the word names g -/
def nm (w:Int) (g:Nat):Nat:=if (entry w).map (·.1)=some g then 1 else 0
theorem namedW_cons (w:Int) (ws:List Int) (g:Nat):(namedW (w :: ws)).count g=nm w g+(namedW ws).count g:=by
  unfold nm namedW;rw [List.filterMap_cons];rcases entry w with _ | ⟨f,b⟩
  · simp
  · simp only [Option.map_some,List.count_cons,Option.some.injEq]
    by_cases h:f=g <;> simp [h];omega
theorem count_set (g:Nat) (c:Int):∀ (ws:List Int) (b:Nat),b<ws.length→(namedW (ws.set b c)).count g+nm (ws.getD b 0) g=(namedW ws).count g+nm c g
  | [],b,h=>by simp at h
  | w :: ws,0,_=>by simp only [List.set_cons_zero,namedW_cons,List.getD_cons_zero];omega
  | w :: ws,b+1,h=>by
    have:=count_set g c ws b (by simpa using h)
    simp only [List.set_cons_succ,namedW_cons,List.getD_cons_succ];omega
theorem count_le (ws:List Int) (g:Nat):(namedW ws).count g≤ws.length:=
  Nat.le_trans List.count_le_length (by unfold namedW;exact List.length_filterMap_le _ _)
theorem countP_set {α:Type} (p:α→Bool) (x d:α):∀ (l:List α) (e:Nat),e<l.length→(l.set e x).countP p+(if p (l.getD e d) then 1 else 0)=l.countP p+if p x then 1 else 0
  | [],_,h=>by simp at h
  | a :: l,0,_=>by simp only [List.set_cons_zero,List.countP_cons,List.getD_cons_zero];omega
  | a :: l,e+1,h=>by
    have:=countP_set p x d l e (by simpa using h)
    simp only [List.set_cons_succ,List.countP_cons,List.getD_cons_succ];omega
theorem countP_pos_of {α:Type} {p:α→Bool} {l:List α} {x:α} (hx:x ∈ l) (hp:p x=true):0<l.countP p:=List.countP_pos_iff.2 ⟨x,hx,hp⟩
/-- how often a table names g -/
def ctr (m:List (List Int)) (l:List Info) (g f:Nat):Nat:=if isTab (inf l f).kind then (namedW (row m f)).count g else 0
theorem countT_eq (m:List (List Int)) (l:List Info) (g:Nat):countT m l g=((List.range 12).map (ctr m l g)).sum:=rfl
theorem setRefs_inf {l:List Info} {f g:Nat} {d:Int} (hf:f<l.length):inf (setRefs l f d) g=if g=f then { inf l f with refs:=(inf l f).refs+d } else inf l g:=inf_set hf
theorem setRefs_length {l:List Info} {f:Nat} {d:Int}:(setRefs l f d).length=l.length:=by simp [setRefs]
theorem addRefs_length {d:Int}:∀ (fs:List Nat) (l:List Info),(addRefs l fs d).length=l.length
  | [],_=>rfl
  | f :: fs,l=>by show (addRefs (setRefs l f d) fs d).length=_;rw [addRefs_length fs,setRefs_length]
theorem addRefs_inf {d:Int}:∀ (fs:List Nat) (l:List Info) (g:Nat),(∀ f ∈ fs,f<l.length) →
    inf (addRefs l fs d) g={ inf l g with refs:=(inf l g).refs+d*(fs.count g:Int) }
  | [],l,g,_=>by show inf l g=_;simp
  | f :: fs,l,g,h=>by
    show inf (addRefs (setRefs l f d) fs d) g=_
    rw [addRefs_inf fs _ g (fun x hx=>by rw [setRefs_length];exact h x (by simp [hx])),setRefs_inf (h f (by simp))]
    by_cases hg:g=f
    · subst hg;simp only [if_true,List.count_cons_self];congr 1;have:((fs.count g+1:Nat):Int)=(fs.count g:Int)+1:=by omega
      rw [this,Int.mul_add];omega
    · simp only [if_neg hg];rw [List.count_cons_of_ne (Ne.symm hg)]
/-! ### validity -/
structure Ok (k:Kernel):Prop where
  m12:k.mem.length=12
  m4:∀ f,f<12→(row k.mem f).length=4
  mw:∀ f,f<12→∀ w ∈ row k.mem f,0≤w∧w≤9999
  i12:k.infos.length=12
  iok:∀ f,f<12→infoOk (inf k.infos f)=true
  cok:cacheOk k.cache=true
  e3:k.envs.length=3
  rok:∀ e,e<3→rightsOk (envAt k.envs e).rights=true
  root:∀ e,e<3→(envAt k.envs e).root=-1∨(0≤(envAt k.envs e).root∧(envAt k.envs e).root≤11∧(inf k.infos (envAt k.envs e).root.toNat).kind=3)
  all:∀ e,e<3→∀ f,f ∈ reach k.mem (envAt k.envs e).root→may (envAt k.envs e).rights (inf k.infos f).guard=true
  tab:∀ f,f<12→isTab (inf k.infos f).kind=true→∀ w ∈ row k.mem f,w=0∨∃ g b,entry w=some (g,b)∧g≠f∧(inf k.infos g).kind=(inf k.infos f).kind - 1
  refs:∀ g,g<12→(inf k.infos g).refs=((countT k.mem k.infos g+rootsN k.envs g:Nat):Int)
  ct:∀ x ∈ k.cache,cachedTrue k x=true
theorem envOk_iff {k:Kernel} {e:Env}:envOk k e=true↔rightsOk e.rights=true∧(e.root=-1∨(0≤e.root∧e.root≤11∧(inf k.infos e.root.toNat).kind=3))∧∀ f ∈ reach k.mem e.root,may e.rights (inf k.infos f).guard=true:=by
  unfold envOk allowed;simp only [Bool.and_eq_true,inR_true,Bool.or_eq_true,decide_eq_true_eq,beq_iff_eq,List.all_eq_true];constructor
  · rintro ⟨⟨⟨h1,h2⟩,h3⟩,h4⟩;refine ⟨h1,?_,h4⟩;rcases h3 with h3 | h3
    · exact .inl (by omega)
    · by_cases h:e.root<0
      · exact .inl (by omega)
      · exact .inr ⟨by omega,by omega,h3⟩
  · rintro ⟨h1,h2,h4⟩;refine ⟨⟨⟨h1,?_⟩,?_⟩,h4⟩
    · rcases h2 with h2 | h2 <;> omega
    · rcases h2 with h2 | h2
      · exact .inl (by omega)
      · exact .inr h2.2.2
theorem rowOk_iff {m:List (List Int)} {l:List Info} {f:Nat} {kind:Int} {rights:List Str} :
    rowOk m l f kind rights=true↔∀ w ∈ row m f,w=0∨∃ g b,entry w=some (g,b)∧g≠f∧(inf l g).kind=kind - 1∧may rights (inf l g).guard=true:=by
  unfold rowOk;rw [List.all_eq_true];refine forall_congr' fun w=>forall_congr' fun _=>?_
  unfold entryOk;rcases h:entry w with _ | ⟨g,b⟩
  · simp
  · simp only [Bool.and_eq_true,bne_iff_ne,beq_iff_eq];constructor
    · rintro ⟨⟨h1,h2⟩,h3⟩;exact .inr ⟨g,b,rfl,h1,h2,h3⟩
    · rintro (h0 | ⟨g',b',he,h1,h2,h3⟩)
      · subst h0;rw [entry_zero] at h;cases h
      · simp only [Option.some.injEq,Prod.mk.injEq] at he;obtain ⟨rfl,rfl⟩:=he;exact ⟨⟨h1,h2⟩,h3⟩
theorem ok_iff {k:Kernel}:kernelOk k=true↔Ok k:=by
  unfold kernelOk envsOk tabsOk refsOk cacheTrue;simp only [Bool.and_eq_true,List.all_eq_true,beq_iff_eq,memOk_iff,infosOk_iff,List.mem_range,Bool.or_eq_true,Bool.not_eq_true',rowOk_iff];constructor
  · rintro ⟨⟨⟨⟨⟨⟨⟨h1,h2⟩,h3,h4⟩,h5⟩,h6,h7⟩,h8⟩,h9⟩,h10⟩;have he:∀ e,e<3→envOk k (envAt k.envs e)=true:=fun e he=>h6 _ (envAt_mem (by omega))
    refine ⟨h1,fun f hf=>(h2 f hf).1,fun f hf=>(h2 f hf).2,h3,h4,h5,h7,fun e h=>(envOk_iff.1 (he e h)).1,fun e h=>(envOk_iff.1 (he e h)).2.1,fun e h=>(envOk_iff.1 (he e h)).2.2,?_,h9,h10⟩
    intro f hf ht w hw;rcases h8 f hf with h | h
    · rw [ht] at h;cases h
    · rcases h w hw with h | ⟨g,b,h1,h2,h3,_⟩
      · exact .inl h
      · exact .inr ⟨g,b,h1,h2,h3⟩
  · intro h;refine ⟨⟨⟨⟨⟨⟨⟨h.m12,fun f hf=>⟨h.m4 f hf,h.mw f hf⟩⟩,h.i12,h.iok⟩,h.cok⟩,fun e he=>?_,h.e3⟩,fun f hf=>?_⟩,h.refs⟩,h.ct⟩
    · obtain ⟨i,hi,rfl⟩:=mem_envAt he;exact envOk_iff.2 ⟨h.rok i (by rw [←h.e3];exact hi),h.root i (by rw [←h.e3];exact hi),h.all i (by rw [←h.e3];exact hi)⟩
    · cases ht:isTab (inf k.infos f).kind
      · exact .inl rfl
      · right
        intro w hw;rcases h.tab f hf ht w hw with h | ⟨g,b,h1,h2,h3⟩
        · exact .inl h
        · exact .inr ⟨g,b,h1,h2,h3,may_empty _⟩
section
variable {k:Kernel} (h:Ok k)
include h
/-- what a table names -/
theorem Ok.names {t g:Nat} (ht:t<12) (hk:isTab (inf k.infos t).kind=true) (hg:g ∈ namedW (row k.mem t)):g<12∧g≠t∧(inf k.infos g).kind=(inf k.infos t).kind - 1:=by
  obtain ⟨w,hw,b,he⟩:=mem_namedW.1 hg;rcases h.tab t ht hk w hw with h0 | ⟨g',b',he',h1,h2⟩
  · subst h0;rw [entry_zero] at he;cases he
  · rw [he] at he';simp only [Option.some.injEq,Prod.mk.injEq] at he';obtain ⟨rfl,rfl⟩:=he';exact ⟨entry_lt he,h1,h2⟩
theorem Ok.pos_of_named {t g:Nat} (ht:t<12) (hk:isTab (inf k.infos t).kind=true) (hg:g ∈ namedW (row k.mem t)):1≤(inf k.infos g).refs:=by
  have hg12:=namedW_lt hg;have h1:ctr k.mem k.infos g t≤countT k.mem k.infos g:=by rw [countT_eq];exact le_sum (F:=ctr k.mem k.infos g) ht
  have h2:1≤ctr k.mem k.infos g t:=by
    unfold ctr;rw [if_pos hk];exact List.count_pos_iff.2 hg
  rw [h.refs g hg12];omega
theorem Ok.pos_of_root {e:Nat} (he:e<3) (hr:0≤(envAt k.envs e).root):1≤(inf k.infos (envAt k.envs e).root.toNat).refs:=by
  have hr11:(envAt k.envs e).root≤11:=by rcases h.root e he with h1 | h1 <;> omega
  have h1:0<rootsN k.envs (envAt k.envs e).root.toNat:=countP_pos_of (x:=envAt k.envs e) (envAt_mem (by rw [h.e3];exact he)) (by simp;omega);rw [h.refs _ (by omega)];omega
theorem Ok.top {e:Nat} (he:e<3) (hr:0≤(envAt k.envs e).root):(inf k.infos (envAt k.envs e).root.toNat).kind=3∧(envAt k.envs e).root.toNat<12:=by
  rcases h.root e he with h1 | h1
  · omega
  · exact ⟨h1.2.2,by omega⟩
/-- what lies two tables deep -/
theorem Ok.deep {r t g:Nat} (hr:r<12) (hk:(inf k.infos r).kind=3) (ht:t ∈ namedW (row k.mem r)) (hg:g ∈ namedW (row k.mem t)):(inf k.infos t).kind=2∧(inf k.infos g).kind=1∧t<12∧g<12:=by
  have h1:=h.names hr (isTab_iff.2 (.inr hk)) ht;have h2:=h.names h1.1 (isTab_iff.2 (.inl (by omega))) hg;exact ⟨by omega,by omega,h1.1,h2.1⟩
/-- what is reached is a table's own or used by one -/
theorem Ok.reached {e f:Nat} (he:e<3) (hf:f ∈ reach k.mem (envAt k.envs e).root):f<12∧1≤(inf k.infos f).refs∧1≤(inf k.infos f).kind:=by
  obtain ⟨h0,h1,h2⟩:=mem_reach.1 hf;have ht:=h.top he h0;rcases h2 with rfl | h2 | ⟨t,h2,h3⟩
  · exact ⟨ht.2,h.pos_of_root he h0,by omega⟩
  · have hn:=h.names ht.2 (isTab_iff.2 (.inr ht.1)) h2;exact ⟨hn.1,h.pos_of_named ht.2 (isTab_iff.2 (.inr ht.1)) h2,by omega⟩
  · have hd:=h.deep ht.2 ht.1 h2 h3;exact ⟨hd.2.2.2,h.pos_of_named hd.2.2.1 (isTab_iff.2 (.inl hd.1)) h3,by omega⟩
end
/-- uses are few -/
theorem uses_le {m:List (List Int)} {l:List Info} {envs:List Env} (hm:∀ f,f<12→(row m f).length=4) (he:envs.length=3)
    (ht:∀ f,f<12→isTab (inf l f).kind=true→∀ g,g ∈ namedW (row m f)→g≠f∧(inf l g).kind=(inf l f).kind - 1)
    (hr:∀ e ∈ envs,e.root=-1∨(0≤e.root∧e.root≤11∧(inf l e.root.toNat).kind=3)) (g:Nat) (hg:g<12):countT m l g+rootsN envs g≤50:=by
  have hc:∀ f,f<12→ctr m l g f≤4:=fun f hf=>by
    unfold ctr;split
    · exact Nat.le_trans (count_le _ _) (by rw [hm f hf];omega)
    · omega
  have hctr0:∀ f,f<12→(f=g∨(inf l g).kind=3)→ctr m l g f=0:=fun f hf hfg=>by
    unfold ctr;split
    · rename_i hk
      refine List.count_eq_zero.2 fun hm=>?_
      have:=ht f hf hk g hm
      have:=isTab_iff.1 hk
      omega
    · rfl
  have hroots:rootsN envs g≤3:=by unfold rootsN;rw [←he];exact List.countP_le_length
  by_cases h3:(inf l g).kind=3
  · have:countT m l g=0:=by
      have hs:((List.range 12).map (ctr m l g)).sum=((List.range 12).map fun _=>0).sum:=sum_same fun f hf=>hctr0 f hf (.inr h3)
      rw [countT_eq,hs];decide
    omega
  · have h0:rootsN envs g=0:=by
      unfold rootsN;refine List.countP_eq_zero.2 fun e hm=>?_
      rcases hr e hm with h | h
      · simp;omega
      · simp only [beq_iff_eq];intro heq;rw [heq] at h;simp at h;omega
    have h1:=sum_one (n:=12) (f:=g) (F:=fun f=>if f=g then 4 else ctr m l g f) (F':=ctr m l g) hg (fun i _ hi=>by simp [hi]);have h2:((List.range 12).map fun f=>if f=g then 4 else ctr m l g f).sum≤12*4:=sum_le fun f hf=>by
      split
      · omega
      · exact hc f hf
    have h3:=hctr0 g hg (.inl rfl);simp only [if_pos] at h1;rw [countT_eq];omega
/-! ### the cache -/
def key (x y:Cached):Prop:=¬ (x.env=y.env∧x.page=y.page)
theorem cacheOk_iff {c:List Cached}:cacheOk c=true↔(∀ x ∈ c,cachedOk x=true)∧c.Pairwise key∧c.length≤4:=by
  unfold cacheOk;simp only [Bool.and_eq_true,List.all_eq_true,List.mem_range,decide_eq_true_eq,Bool.not_eq_true'];have hget:∀ i (hi:i<c.length),c.getD i Cached.zero=c[i]:=fun i hi=>by simp [hi]
  constructor
  · rintro ⟨h,hl⟩;refine ⟨fun x hx=>?_,?_,hl⟩
    · obtain ⟨i,hi,rfl⟩:=List.getElem_of_mem hx;have:=(h i hi).1;rwa [hget i hi] at this
    · rw [List.pairwise_iff_getElem];intro i j hi hj hij hk;have:=(h j hj).2;rw [hget j hj] at this;have hex:∃ i',i'≤i∧cfind c c[j].env c[j].page=some i':=by
        unfold cfind
        cases hf:c.findIdx? fun x=>x.env==c[j].env&&x.page==c[j].page with
        | none =>
          rw [List.findIdx?_eq_none_iff] at hf;have:=hf c[i] (List.getElem_mem hi);simp [hk.1,hk.2] at this
        | some i' =>
          refine ⟨i',?_,rfl⟩;obtain ⟨hi',_,hlt⟩:=List.findIdx?_eq_some_iff_getElem.1 hf;refine Nat.not_lt.1 fun hc=>?_
          have:=hlt i hc
          simp [hk.1,hk.2] at this
      obtain ⟨i',hle,he⟩:=hex;rw [he] at this;simp at this;omega
  · rintro ⟨h1,h2,h3⟩;refine ⟨fun i hi=>⟨?_,?_⟩,h3⟩
    · rw [hget i hi];exact h1 _ (List.getElem_mem hi)
    · rw [hget i hi]
      cases hf:cfind c c[i].env c[i].page with
      | none=>rfl
      | some j =>
        unfold cfind at hf;obtain ⟨hj,hp,_⟩:=List.findIdx?_eq_some_iff_getElem.1 hf;simp only [decide_eq_false_iff_not];intro hji;have:=List.pairwise_iff_getElem.1 h2 j i hj hi hji;simp only [Bool.and_eq_true,beq_iff_eq] at hp;exact this hp
theorem cacheOk_filter {c:List Cached} (p:Cached→Bool) (h:cacheOk c=true):cacheOk (c.filter p)=true:=by
  obtain ⟨h1,h2,h3⟩:=cacheOk_iff.1 h;exact cacheOk_iff.2 ⟨fun x hx=>h1 x (List.mem_filter.1 hx).1,h2.filter p,Nat.le_trans (List.length_filter_le _ _) h3⟩
theorem cput_eq (c:List Cached) (x:Cached):∃ o o':List Cached,o=c.filter (fun y=>y.env != x.env||y.page != x.page)∧o'=(if 4≤o.length then o.drop 1 else o)∧cput c x=o' ++ [x]:=⟨_,_,rfl,rfl,rfl⟩
theorem cacheOk_put {c:List Cached} {x:Cached} (h:cacheOk c=true) (hx:cachedOk x=true):cacheOk (cput c x)=true:=by
  obtain ⟨h1,h2,h3⟩:=cacheOk_iff.1 h;obtain ⟨o,o',ho,ho',hc⟩:=cput_eq c x;rw [hc];have ho1:∀ y ∈ o,cachedOk y=true∧key y x:=fun y hy=>by
    rw [ho] at hy;obtain ⟨hy1,hy2⟩:=List.mem_filter.1 hy;refine ⟨h1 y hy1,fun hk=>?_⟩
    simp [hk.1,hk.2] at hy2
  have ho2:o.Pairwise key:=by rw [ho];exact h2.filter _
  have ho3:o.length≤4:=by rw [ho];exact Nat.le_trans (List.length_filter_le _ _) h3
  have hs:o'.Sublist o:=by
    rw [ho'];split
    · exact List.drop_sublist _ _
    · exact List.Sublist.refl _
  have hl:o'.length≤3:=by
    rw [ho'];split
    · rw [List.length_drop];omega
    · omega
  refine cacheOk_iff.2 ⟨fun y hy=>?_,?_,by rw [List.length_append];simp;omega⟩
  · simp only [List.mem_append,List.mem_singleton] at hy;rcases hy with hy | rfl
    · exact (ho1 y (hs.subset hy)).1
    · exact hx
  · rw [List.pairwise_append];refine ⟨ho2.sublist hs,by simp,fun y hy z hz=>?_⟩
    simp only [List.mem_singleton] at hz;subst hz;exact (ho1 y (hs.subset hy)).2
theorem mem_cput {c:List Cached} {x y:Cached} (h:y ∈ cput c x):y ∈ c∨y=x:=by
  obtain ⟨o,o',ho,ho',hc⟩:=cput_eq c x;rw [hc,List.mem_append,List.mem_singleton] at h;rcases h with h | h
  · left
    have:y ∈ o:=by
      rw [ho'] at h;split at h
      · exact List.mem_of_mem_drop h
      · exact h
    rw [ho] at this;exact (List.mem_filter.1 this).1
  · exact .inr h
end Kx
namespace Kx
theorem entry_word {m:List (List Int)} {r i t:Nat} {b:Bool} (h:entry (word m r i)=some (t,b)):t ∈ namedW (row m r):=by
  unfold word at h
  by_cases hi:i<(row m r).length
  · exact mem_namedW.2 ⟨_,getD_mem hi,b,h⟩
  · rw [List.getD_eq_getElem?_getD,List.getElem?_eq_none (by omega)] at h
    cases h
theorem walk_congr {m m':List (List Int)} {root ad:Nat} (h:row m root=row m' root) (ht:∀ t,t ∈ namedW (row m root)→row m t=row m' t):walk m root ad=walk m' root ad:=by
  unfold walk;have e1:word m' root (ad / 16)=word m root (ad / 16):=by unfold word;rw [h]
  rw [e1]
  cases he:entry (word m root (ad / 16)) with
  | none=>rfl
  | some p =>
    obtain ⟨t,a⟩:=p;have e2:word m' t (ad / 4 % 4)=word m t (ad / 4 % 4):=by unfold word;rw [ht t (entry_word he)]
    simp only [e2]
/-- a walk that is done has gone through a table to what it names -/
theorem walk_done {m:List (List Int)} {root ad:Nat} {p:Int×Int×Bool} (h:walk m root ad=(p,0)) :
    ∃ t f a b,entry (word m root (ad / 16))=some (t,a)∧entry (word m t (ad / 4 % 4))=some (f,b)∧p=((f:Int),((ad % 4:Nat):Int),a&&b)∧t ∈ namedW (row m root)∧f ∈ namedW (row m t):=by
  unfold walk at h
  cases he:entry (word m root (ad / 16)) with
  | none=>rw [he] at h;simp at h
  | some q =>
    obtain ⟨t,a⟩:=q;rw [he] at h;simp only at h
    cases he':entry (word m t (ad / 4 % 4)) with
    | none=>rw [he'] at h;simp at h
    | some q =>
      obtain ⟨f,b⟩:=q;rw [he'] at h;simp only [Prod.mk.injEq,and_true] at h;exact ⟨t,f,a,b,rfl,he',h.symm,entry_word he,entry_word he'⟩
theorem cachedTrue_congr {k k':Kernel} {x:Cached} (he:(envAt k'.envs x.env.toNat).root=(envAt k.envs x.env.toNat).root)
    (h:0≤(envAt k.envs x.env.toNat).root→row k.mem (envAt k.envs x.env.toNat).root.toNat=row k'.mem (envAt k.envs x.env.toNat).root.toNat)
    (ht:0≤(envAt k.envs x.env.toNat).root→∀ t,t ∈ namedW (row k.mem (envAt k.envs x.env.toNat).root.toNat)→row k.mem t=row k'.mem t):cachedTrue k' x=cachedTrue k x:=by
  unfold cachedTrue;rw [he];generalize (envAt k.envs x.env.toNat).root=root at h ht
  by_cases hr:root<0
  · simp [hr]
  · have:=walk_congr (ad:=4*x.page.toNat) (h (by omega)) (ht (by omega))
    simp only [this]
theorem Ok.envlt {k:Kernel} (h:Ok k) {x:Cached} (hx:x ∈ k.cache):x.env.toNat<3∧0≤x.env∧0≤x.page∧x.page≤15:=by
  have:=(cacheOk_iff.1 h.cok).1 x hx
  simp only [cachedOk,Bool.and_eq_true,inR_true] at this;omega
/-- a frame that is no table takes other words, or becomes another one that nobody uses -/
theorem Ok.data {k:Kernel} (h:Ok k) {f:Nat} (hf:f<12) {x:Info} {r:List Int} {m':List (List Int)} {l':List Info} (hm:m'.length=12) (hl:l'.length=12)
    (hm':∀ g,row m' g=if g=f then r else row k.mem g) (hl':∀ g,inf l' g=if g=f then x else inf k.infos g)
    (hr4:r.length=4) (hrw:∀ w ∈ r,0≤w∧w≤9999) (hx:infoOk x=true) (ht:isTab (inf k.infos f).kind=false) (htx:isTab x.kind=false)
    (hrefs:x.refs=(inf k.infos f).refs) (hsame:x=inf k.infos f∨(inf k.infos f).refs=0):Ok { k with mem:=m',infos:=l' }:=by
  have hrow:∀ g,g≠f→row m' g=row k.mem g:=fun g hg=>by rw [hm' g,if_neg hg]
  have hinf:∀ g,g≠f→inf l' g=inf k.infos g:=fun g hg=>by rw [hl' g,if_neg hg]
  have htab:∀ g,isTab (inf l' g).kind=isTab (inf k.infos g).kind:=fun g=>by
    by_cases hg:g=f
    · subst hg;rw [hl' g,if_pos rfl,ht,htx]
    · rw [hinf g hg]
  have hpos:∀ g,1≤(inf k.infos g).refs→inf l' g=inf k.infos g:=fun g hg=>by
    by_cases hgf:g=f
    · subst hgf;rcases hsame with e | e
      · rw [hl' g,if_pos rfl,e]
      · omega
    · exact hinf g hgf
  have hne:∀ g,isTab (inf k.infos g).kind=true→g≠f:=fun g hg e=>by subst e;rw [ht] at hg;cases hg
  have hR:∀ e,e<3→0≤(envAt k.envs e).root→row k.mem (envAt k.envs e).root.toNat=row m' (envAt k.envs e).root.toNat:=fun e he h0 =>
    (hrow _ (hne _ (isTab_iff.2 (.inr (h.top he h0).1)))).symm
  have hT:∀ e,e<3→0≤(envAt k.envs e).root→∀ t,t ∈ namedW (row k.mem (envAt k.envs e).root.toNat)→row k.mem t=row m' t:=fun e he h0 t ht=>by
    have h1:=h.top he h0;have h2:=h.names h1.2 (isTab_iff.2 (.inr h1.1)) ht;exact (hrow _ (hne _ (isTab_iff.2 (.inl (by omega))))).symm
  refine ⟨hm,fun g hg=>?_,fun g hg=>?_,hl,fun g hg=>?_,h.cok,h.e3,h.rok,fun e he=>?_,fun e he g hg=>?_,fun t ht' htt w hw=>?_,fun g hg=>?_,fun c hc=>?_⟩
  · rw [hm' g];split
    · exact hr4
    · exact h.m4 g hg
  · intro w hw;simp only [hm' g] at hw;split at hw
    · exact hrw w hw
    · exact h.mw g hg w hw
  · simp only [hl' g];split
    · exact hx
    · exact h.iok g hg
  · rcases h.root e he with h1 | ⟨h1,h2,h3⟩
    · exact .inl h1
    · refine .inr ⟨h1,h2,?_⟩;show (inf l' _).kind=3;rw [hinf _ (hne _ (isTab_iff.2 (.inr h3)))];exact h3
  · have hre:reach m' (envAt k.envs e).root=reach k.mem (envAt k.envs e).root:=(reach_congr (hR e he) (hT e he)).symm;change g ∈ reach m' _ at hg;rw [hre] at hg;show may _ (inf l' g).guard=true;rw [hpos g (h.reached he hg).2.1];exact h.all e he g hg
  · change isTab (inf l' t).kind=true at htt;rw [htab t] at htt;change w ∈ row m' t at hw;rw [hrow t (hne t htt)] at hw;rcases h.tab t ht' htt w hw with h1 | ⟨g,b,h1,h2,h3⟩
    · exact .inl h1
    · refine .inr ⟨g,b,h1,h2,?_⟩;show (inf l' g).kind=(inf l' t).kind - 1;rw [hpos g (h.pos_of_named ht' htt (mem_namedW.2 ⟨w,hw,b,h1⟩)),hinf t (hne t htt)];exact h3
  · show (inf l' g).refs=((countT m' l' g+rootsN k.envs g:Nat):Int)
    have e1:(inf l' g).refs=(inf k.infos g).refs:=by
      rw [hl' g];split
      · rename_i e;subst e;exact hrefs
      · rfl
    have e2:countT m' l' g=countT k.mem k.infos g:=by
      rw [countT_eq,countT_eq];refine sum_same fun i hi=>?_
      unfold ctr;rw [htab i]
      by_cases hif:i=f
      · subst hif;rw [ht];simp
      · rw [hrow i hif]
    rw [e1,e2];exact h.refs g hg
  · have hl:=h.envlt hc;rw [←h.ct c hc];exact cachedTrue_congr (k:=k) rfl (hR _ hl.1) (hT _ hl.1)
/-- a frame that nobody uses becomes a table, or ceases to be one -/
theorem Ok.kinds {k:Kernel} (h:Ok k) {f:Nat} (hf:f<12) {kd:Int} {l':List Info} (hl:l'.length=12) (h0:(inf k.infos f).refs=0)
    (hg':∀ g,(inf l' g).guard=(inf k.infos g).guard) (hk':∀ g,g≠f→(inf l' g).kind=(inf k.infos g).kind) (hkf:(inf l' f).kind=kd)
    (hok:∀ g,g<12→infoOk (inf l' g)=true)
    (ht:isTab kd=true→∀ w ∈ row k.mem f,w=0∨∃ g b,entry w=some (g,b)∧g≠f∧(inf k.infos g).kind=kd - 1)
    (hrefs:∀ g,g<12→(inf l' g).refs+(ctr k.mem k.infos g f:Int)=(inf k.infos g).refs+((if isTab kd then (namedW (row k.mem f)).count g else 0:Nat):Int)):Ok { k with infos:=l' }:=by
  have hpos:∀ g,1≤(inf k.infos g).refs→(inf l' g).kind=(inf k.infos g).kind:=fun g hg=>hk' g (fun e=>by subst e;omega)
  refine ⟨h.m12,h.m4,h.mw,hl,hok,h.cok,h.e3,h.rok,fun e he=>?_,fun e he g hg=>?_,fun t ht' htt w hw=>?_,fun g hg=>?_,fun c hc=>?_⟩
  · rcases h.root e he with h1 | ⟨h1,h2,h3⟩
    · exact .inl h1
    · refine .inr ⟨h1,h2,?_⟩;show (inf l' _).kind=3;rw [hpos _ (h.pos_of_root he h1)];exact h3
  · show may _ (inf l' g).guard=true
    rw [hg' g];exact h.all e he g hg
  · change isTab (inf l' t).kind=true at htt;change w ∈ row k.mem t at hw;show w=0∨∃ g b,entry w=some (g,b)∧g≠t∧(inf l' g).kind=(inf l' t).kind - 1
    by_cases htf:t=f
    · subst htf;rw [hkf] at htt ⊢;rcases ht htt w hw with h1 | ⟨g,b,h1,h2,h3⟩
      · exact .inl h1
      · exact .inr ⟨g,b,h1,h2,by rw [hk' g h2];exact h3⟩
    · rw [hk' t htf] at htt ⊢;rcases h.tab t ht' htt w hw with h1 | ⟨g,b,h1,h2,h3⟩
      · exact .inl h1
      · exact .inr ⟨g,b,h1,h2,by rw [hpos g (h.pos_of_named ht' htt (mem_namedW.2 ⟨w,hw,b,h1⟩))];exact h3⟩
  · show (inf l' g).refs=((countT k.mem l' g+rootsN k.envs g:Nat):Int)
    have e:=sum_one (n:=12) (f:=f) (F:=ctr k.mem k.infos g) (F':=ctr k.mem l' g) hf (fun i _ hi=>by unfold ctr;rw [hk' i hi]);rw [←countT_eq,←countT_eq] at e;have e2:ctr k.mem l' g f=if isTab kd then (namedW (row k.mem f)).count g else 0:=by unfold ctr;rw [hkf]
    have h1:=hrefs g hg;have h2:=h.refs g hg;rw [←e2] at h1;omega
  · rw [←h.ct c hc];exact cachedTrue_congr (k:=k) rfl (fun _=>rfl) (fun _ _ _=>rfl)
theorem free_some {l:List Info} {f:Nat} (h:free l=some f):f<l.length∧(inf l f).kind=0:=by
  unfold free at h;obtain ⟨hf,hp,_⟩:=List.findIdx?_eq_some_iff_getElem.1 h;refine ⟨hf,?_⟩;have e:inf l f=l[f]:=by simp [inf,hf]
  rw [e];simpa using hp
theorem inf_of_kind0 {k:Kernel} (h:Ok k) {f:Nat} (hf:f<12) (h0:(inf k.infos f).kind=0):inf k.infos f=Info.zero:=by
  rcases infoOk_iff.1 (h.iok f hf) with h1 | h1
  · exact h1
  · omega
theorem infoOk_zero:infoOk Info.zero=true:=by rw [infoOk_iff];exact .inl rfl
theorem Ok.take {k:Kernel} (h:Ok k) (c:Call):Ok (take k c).1:=by
  unfold Kx.take;split
  · exact h
  split
  · exact h
  rename_i hn _
  split
  · exact h
  rename_i f hf
  obtain ⟨hf1,hf2⟩:=free_some hf;have hf12:f<12:=by rw [←h.i12];exact hf1
  have hz:=inf_of_kind0 h hf12 hf2;have hn':rightOk c.name=true:=by simpa using hn
  refine h.data hf12 (x:=⟨1,c.name,0⟩) (r:=[0,0,0,0]) (by simp [h.m12]) (by simp [h.i12]) (fun g=>row_set (by rw [h.m12];exact hf12)) (fun g=>inf_set hf1) rfl ?_ ?_ ?_ rfl ?_ ?_
  · intro w hw;simp at hw;omega
  · rw [infoOk_iff];right;simp [hn']
  · rw [hz];rfl
  · rw [hz];rfl
  · right;rw [hz];rfl
theorem frameCode_done {k:Kernel} {c:Call} {kind:Int} (h:frameCode k c kind=0) :
    0≤c.a∧c.a.toNat<12∧(inf k.infos c.a.toNat).kind≠0∧mayE k c.env (inf k.infos c.a.toNat).guard=true∧(0<kind→(inf k.infos c.a.toNat).kind=kind)∧(kind=0→isTab (inf k.infos c.a.toNat).kind=true):=by
  unfold frameCode at h;split at h
  · cases h
  rename_i h1
  simp only [Bool.not_eq_true',Bool.or_eq_true,not_or,Bool.not_eq_false,inR_true,beq_iff_eq] at h1;split at h
  · cases h
  rename_i h2
  split at h
  · cases h
  rename_i h3
  refine ⟨h1.1.1,by omega,h1.2,by simpa using h2,fun hk=>?_,fun hk=>?_⟩
  · refine Classical.byContradiction fun hc=>h3 (.inl ⟨hk,hc⟩)
  · cases ht:isTab (inf k.infos c.a.toNat).kind
    · exact absurd (.inr ⟨hk,ht⟩) h3
    · rfl
theorem Ok.give {k:Kernel} (h:Ok k) (c:Call):Ok (give k c).1:=by
  unfold Kx.give;split
  · exact h
  rename_i hc
  split
  · exact h
  rename_i hr
  obtain ⟨h0,h12,hk0,_,hk1,_⟩:=frameCode_done (Classical.not_not.1 hc);have hk:=hk1 (by omega);have hr0:(inf k.infos c.a.toNat).refs=0:=by
    rcases infoOk_iff.1 (h.iok _ h12) with h1 | h1
    · rw [h1];rfl
    · omega
  refine h.data h12 (x:=Info.zero) (r:=row k.mem c.a.toNat) h.m12 (by simp [h.i12]) (fun g=>?_) (fun g=>inf_set (by rw [h.i12];exact h12)) (h.m4 _ h12) (h.mw _ h12) infoOk_zero ?_ rfl hr0.symm (.inr hr0)
  · split
    · rename_i e;rw [e]
    · rfl
  · rw [hk];rfl
theorem setWord_row {m:List (List Int)} {f a g:Nat} {x:Int} (hf:f<m.length):row (setWord m f a x) g=if g=f then (row m f).set a x else row m g:=row_set hf
theorem setWord_length {m:List (List Int)} {f a:Nat} {x:Int}:(setWord m f a x).length=m.length:=by simp [setWord]
theorem Ok.write {k:Kernel} (h:Ok k) {f:Nat} (hf:f<12) (hk:(inf k.infos f).kind=1) (a:Nat) {x:Int} (hx:0≤x∧x≤9999):Ok { k with mem:=setWord k.mem f a x }:=by
  refine h.data hf (x:=inf k.infos f) (r:=(row k.mem f).set a x) (by rw [setWord_length];exact h.m12) h.i12 (fun g=>setWord_row (by rw [h.m12];exact hf)) (fun g=>?_) (by rw [List.length_set];exact h.m4 f hf) ?_ (h.iok f hf) ?_ ?_ rfl (.inl rfl)
  · split
    · rename_i e;rw [e]
    · rfl
  · intro w hw;rcases List.mem_or_eq_of_mem_set hw with hw | rfl
    · exact h.mw f hf w hw
    · exact hx
  · rw [hk];rfl
  · rw [hk];rfl
theorem Ok.poke {k:Kernel} (h:Ok k) (c:Call):Ok (poke k c).1:=by
  unfold Kx.poke;split
  · exact h
  rename_i hc
  split
  · exact h
  rename_i hr
  simp only [Bool.not_eq_true',Bool.or_eq_true,not_or,Bool.not_eq_false,inR_true] at hr;obtain ⟨h0,h12,hk0,_,hk1,_⟩:=frameCode_done (Classical.not_not.1 hc);exact h.write h12 (hk1 (by omega)) _ hr.2
theorem pin_done {m:List (List Int)} {l l':List Info} {f kind:Int} {rights:List Str} (h:pin m l f kind rights=(l',0)) :
    0≤f∧f.toNat<12∧memOk m=true∧infosOk l=true∧isTab kind=true∧(inf l f.toNat).kind=1∧(inf l f.toNat).refs≤0∧rowOk m l f.toNat kind rights=true∧infosOk l'=true ∧
      l'=addRefs (setKind l f.toNat kind) (namedW (row m f.toNat)) 1:=by
  unfold pin at h;split at h
  · simp at h
  rename_i h1
  simp only [Bool.not_eq_true',Bool.and_eq_true,Bool.not_eq_false,inR_true] at h1;split at h
  · simp at h
  rename_i h2
  simp only [not_or,Classical.not_not] at h2;split at h
  · simp at h
  rename_i h3
  split at h
  · rename_i h4
    simp only [Prod.mk.injEq,and_true] at h;exact ⟨h1.1.1.1.2.1,by omega,h1.1.1.1.1,h1.1.1.2,h1.1.2,h2.1,by omega,by simpa using h3,by rw [←h];exact h4,h.symm⟩
  · simp at h
theorem unpin_done {m:List (List Int)} {l l':List Info} {f:Int} (h:unpin m l f=(l',0)) :
    0≤f∧f.toNat<12∧isTab (inf l f.toNat).kind=true∧(inf l f.toNat).refs≤0∧infosOk l'=true∧l'=addRefs (setKind l f.toNat 1) (namedW (row m f.toNat)) (-1):=by
  unfold unpin at h;split at h
  · simp at h
  rename_i h1
  simp only [Bool.not_eq_true',Bool.and_eq_true,Bool.not_eq_false,inR_true] at h1;split at h
  · simp at h
  rename_i h2
  simp only [not_or,Bool.not_eq_false] at h2;split at h
  · rename_i h4
    simp only [Prod.mk.injEq,and_true] at h;exact ⟨h1.1.2.1,by omega,h2.1,by omega,by rw [←h];exact h4,h.symm⟩
  · simp at h
theorem infoOk_refs {x:Info} (h:infoOk x=true):0≤x.refs∧x.refs≤50:=by
  rcases infoOk_iff.1 h with h1 | h1
  · rw [h1];simp [Info.zero]
  · omega
theorem pinned_inf {l:List Info} {f g:Nat} {kd d:Int} {fs:List Nat} (hl:l.length=12) (hf:f<12) (hfs:∀ x ∈ fs,x<12) :
    inf (addRefs (setKind l f kd) fs d) g={ inf l g with kind:=(if g=f then kd else (inf l g).kind),refs:=(inf l g).refs+d*(fs.count g:Int) }:=by
  have hlen:(setKind l f kd).length=12:=by simp [setKind,hl]
  have hs:inf (setKind l f kd) g={ inf l g with kind:=if g=f then kd else (inf l g).kind }:=by
    unfold setKind;rw [inf_set (by rw [hl];exact hf)];split
    · rename_i e;rw [e]
    · rfl
  rw [addRefs_inf fs _ g (fun x hx=>by rw [hlen];exact hfs x hx),hs]
theorem Ok.pinned {k:Kernel} (h:Ok k) (c:Call) (hd:(pinned k c).2=0):Ok { k with infos:=(pinned k c).1 }:=by
  obtain ⟨l',hp⟩:∃ l',Kx.pinned k c=(l',0):=⟨_,Prod.ext rfl hd⟩;rw [hp];unfold Kx.pinned at hp;have hfs:∀ f:Nat,∀ x ∈ namedW (row k.mem f),x<12:=fun f x hx=>namedW_lt hx
  split at hp
  · obtain ⟨h0,h12,_,_,hkd,hk1,hr0,hro,hok,rfl⟩:=pin_done hp;have hr:=infoOk_refs (h.iok _ h12);have hin:=fun g=>pinned_inf (g:=g) (kd:=c.b) (d:=1) h.i12 h12 (hfs c.a.toNat)
    refine h.kinds h12 (kd:=c.b) (by rw [addRefs_length];simp [setKind,h.i12]) (by omega) (fun g=>by rw [hin g]) (fun g hg=>by rw [hin g];simp [hg]) (by rw [hin _];simp) (fun g hg=>(infosOk_iff.1 hok).2 g hg) ?_ ?_
    · intro _ w hw;rcases rowOk_iff.1 hro w hw with h1 | ⟨g,b,h1,h2,h3,_⟩
      · exact .inl h1
      · exact .inr ⟨g,b,h1,h2,h3⟩
    · intro g hg;have hc:ctr k.mem k.infos g c.a.toNat=0:=by unfold ctr;rw [hk1];rfl
      rw [hin g,hc,hkd];simp
  · obtain ⟨h0,h12,hkd,hr0,hok,rfl⟩:=unpin_done hp;have hr:=infoOk_refs (h.iok _ h12);have hin:=fun g=>pinned_inf (g:=g) (kd:=1) (d:=-1) h.i12 h12 (hfs c.a.toNat)
    refine h.kinds h12 (kd:=1) (by rw [addRefs_length];simp [setKind,h.i12]) (by omega) (fun g=>by rw [hin g]) (fun g hg=>by rw [hin g];simp [hg]) (by rw [hin _];simp) (fun g hg=>(infosOk_iff.1 hok).2 g hg) ?_ ?_
    · intro hc;cases hc
    · intro g hg;have hc:ctr k.mem k.infos g c.a.toNat=(namedW (row k.mem c.a.toNat)).count g:=by unfold ctr;rw [hkd];rfl
      have h1:isTab 1=false:=rfl;rw [hin g,hc,h1];simp;omega
theorem pinned_codes {k:Kernel} (h:Ok k) (c:Call) (ha:inR c.a 0 11=true) (he:inR c.env 0 2=true) (hb:c.kind=4→isTab c.b=true):(pinned k c).2=0∨(pinned k c).2=1∨(pinned k c).2=2:=by
  have hm:memOk k.mem=true:=memOk_iff.2 ⟨h.m12,fun f hf=>⟨h.m4 f hf,h.mw f hf⟩⟩
  have hi:infosOk k.infos=true:=infosOk_iff.2 ⟨h.i12,h.iok⟩;rw [inR_true] at he;unfold Kx.pinned;split
  · rename_i h4
    unfold pin;have hr:=h.rok c.env.toNat (by omega);rw [hm,hi,ha,hb h4,hr];simp only [Bool.and_self,Bool.not_true,Bool.false_eq_true,if_false];split
    · simp
    split
    · simp
    split <;> simp
  · unfold unpin;rw [hm,hi,ha];simp only [Bool.and_self,Bool.not_true,Bool.false_eq_true,if_false];split
    · simp
    split <;> simp
theorem Ok.pinK {k:Kernel} (h:Ok k) (c:Call) (he:inR c.env 0 2=true):Ok (pinK k c).1:=by
  unfold Kx.pinK;split
  · exact h
  rename_i h1
  split
  · exact h
  split
  · exact h
  rename_i h3
  split
  · exact h
  rename_i h4
  simp only [Bool.not_eq_true',Bool.or_eq_true,not_or,Bool.not_eq_false,Bool.and_eq_true,not_and,beq_iff_eq] at h1;exact h.pinned c (by rcases pinned_codes h c h1.1.1 he h1.2 with h5 | h5 | h5 <;> simp_all)
end Kx
namespace Kx
theorem setRefsO_inf {l:List Info} {w d:Int} {g:Nat} (hl:l.length=12):inf (setRefsO l w d) g={ inf l g with refs:=(inf l g).refs+d*(nm w g:Int) }:=by
  unfold setRefsO nm;rcases he:entry w with _ | ⟨f,b⟩
  · simp
  · have hf:=entry_lt he;rw [setRefs_inf (by omega)]
    by_cases hg:g=f
    · subst hg;simp
    · simp [hg,Ne.symm hg]
theorem setRefsO_length {l:List Info} {w d:Int}:(setRefsO l w d).length=l.length:=by
  unfold setRefsO;split
  · rfl
  · exact setRefs_length
theorem mem_foldl_cdrop {x:Cached}:∀ (us:List Nat) (c:List Cached),x ∈ us.foldl (fun (ca:List Cached) (e:Nat)=>cdrop ca (e:Int)) c↔x ∈ c∧∀ u ∈ us,x.env≠(u:Int)
  | [],c=>by simp
  | u :: us,c=>by
    rw [List.foldl_cons,mem_foldl_cdrop us];simp only [cdrop,List.mem_filter,bne_iff_ne,List.mem_cons,forall_eq_or_imp];constructor
    · rintro ⟨⟨h1,h2⟩,h3⟩;exact ⟨h1,h2,h3⟩
    · rintro ⟨h1,h2,h3⟩;exact ⟨⟨h1,h2⟩,h3⟩
theorem cacheOk_foldl:∀ (us:List Nat) (c:List Cached),cacheOk c=true→cacheOk (us.foldl (fun (ca:List Cached) (e:Nat)=>cdrop ca (e:Int)) c)=true
  | [],_,h=>h
  | u :: us,c,h=>by rw [List.foldl_cons];exact cacheOk_foldl us _ (cacheOk_filter _ h)
theorem mem_users {k:Kernel} {t:Int} {u:Nat}:u ∈ users k t↔u<k.envs.length∧usesTable k.mem (envAt k.envs u) t=true:=by simp [users]
theorem usesTable_iff {m:List (List Int)} {e:Env} {t:Nat}:usesTable m e t=true↔e.root=t∨(0≤e.root∧t ∈ namedW (row m e.root.toNat)):=by
  unfold usesTable;simp only [Bool.or_eq_true,beq_iff_eq,Bool.and_eq_true,Bool.not_eq_true',decide_eq_false_iff_not,List.contains_iff_mem,Int.toNat_natCast,mem_tables];constructor
  · rintro (h | ⟨h,h2⟩)
    · exact .inl h
    · exact .inr ⟨by omega,h2⟩
  · rintro (h | ⟨h,h2⟩)
    · exact .inl h
    · exact .inr ⟨by omega,h2⟩
theorem namedW_set {ws:List Int} {b:Nat} {c:Int} {g:Nat} (h:g ∈ namedW (ws.set b c)):g ∈ namedW ws∨nm c g=1:=by
  obtain ⟨w,hw,b',he⟩:=mem_namedW.1 h;rcases List.mem_or_eq_of_mem_set hw with hw | rfl
  · exact .inl (mem_namedW.2 ⟨w,hw,b',he⟩)
  · right;unfold nm;rw [he];simp
theorem nm_one {w:Int} {g:Nat}:nm w g=1↔∃ b,entry w=some (g,b):=by
  unfold nm;rcases entry w with _ | ⟨f,b⟩
  · simp
  · simp
theorem mem_behind {k:Kernel} {w:Int} {g:Nat}:g ∈ behind k w↔∃ f b,entry w=some (f,b)∧(g=f∨((inf k.infos f).kind=2∧g ∈ namedW (row k.mem f))):=by
  unfold behind;rcases entry w with _ | ⟨f,b⟩
  · simp
  · simp only [Option.some.injEq,Prod.mk.injEq];split
    · rename_i hk
      constructor
      · intro h;exact ⟨f,b,⟨rfl,rfl⟩,.inl (by simpa using h)⟩
      · rintro ⟨_,_,⟨rfl,rfl⟩,h | ⟨h,_⟩⟩
        · simp [h]
        · exact absurd h hk
    · rename_i hk
      simp only [ne_eq,Classical.not_not] at hk;rw [List.mem_cons];constructor
      · intro h;exact ⟨f,b,⟨rfl,rfl⟩,h.imp id (fun h=>⟨hk,h⟩)⟩
      · rintro ⟨_,_,⟨rfl,rfl⟩,h⟩;exact h.imp id (·.2)
/-- an entry of a table is changed -/
theorem Ok.set {k:Kernel} (h:Ok k) {a b:Nat} {c:Int} (ha:a<12) (hb:b<4) (hk:isTab (inf k.infos a).kind=true)
    (hc:c=0∨∃ f w,entry c=some (f,w)∧(inf k.infos f).kind=(inf k.infos a).kind - 1)
    (hal:∀ u,u ∈ users k (a:Int)→∀ f ∈ behind k c,may (envAt k.envs u).rights (inf k.infos f).guard=true) :
    Ok { k with
      infos:=setRefsO (setRefsO k.infos (word k.mem a b) (-1)) c 1
      mem:=setWord k.mem a b c
      cache:=(users k (a:Int)).foldl (fun (ca:List Cached) (e:Nat)=>cdrop ca (e:Int)) k.cache }:=by
  obtain ⟨l',hl'⟩:∃ l',l'=setRefsO (setRefsO k.infos (word k.mem a b) (-1)) c 1:=⟨_,rfl⟩;obtain ⟨m',hm'⟩:∃ m',m'=setWord k.mem a b c:=⟨_,rfl⟩;rw [←hl',←hm'];have hi12:=h.i12;have hlen:l'.length=12:=by rw [hl',setRefsO_length,setRefsO_length,hi12]
  have hin:∀ g,inf l' g={ inf k.infos g with refs:=(inf k.infos g).refs+-1*(nm (word k.mem a b) g:Int)+1*(nm c g:Int) }:=fun g=>by
    rw [hl',setRefsO_inf (by rw [setRefsO_length,hi12]),setRefsO_inf hi12]
  have hkind:∀ g,(inf l' g).kind=(inf k.infos g).kind:=fun g=>by rw [hin g]
  have hguard:∀ g,(inf l' g).guard=(inf k.infos g).guard:=fun g=>by rw [hin g]
  have hrow:∀ g,row m' g=if g=a then (row k.mem a).set b c else row k.mem g:=fun g=>by rw [hm'];exact setWord_row (by rw [h.m12];exact ha)
  have hrowne:∀ g,g≠a→row m' g=row k.mem g:=fun g hg=>by rw [hrow g,if_neg hg]
  have hc9:0≤c∧c≤9999:=by
    rcases hc with rfl | ⟨f,w,he,_⟩
    · omega
    · have:=entry_some.1 he
      unfold put at this
      cases w <;> simp at this <;> omega
  have hm4:∀ f,f<12→(row m' f).length=4:=fun f hf=>by
    rw [hrow f];split
    · rw [List.length_set];exact h.m4 a ha
    · exact h.m4 f hf
  have htab:∀ f,f<12→isTab (inf l' f).kind=true→∀ w ∈ row m' f,w=0∨∃ g b,entry w=some (g,b)∧g≠f∧(inf l' g).kind=(inf l' f).kind - 1:=by
    intro f hf hft w hw;rw [hkind f] at hft ⊢;rw [hrow f] at hw;have old:w ∈ row k.mem f→w=0∨∃ g b,entry w=some (g,b)∧g≠f∧(inf l' g).kind=(inf k.infos f).kind - 1:=fun hw=>by
      rcases h.tab f hf hft w hw with h1 | ⟨g,b,h1,h2,h3⟩
      · exact .inl h1
      · exact .inr ⟨g,b,h1,h2,by rw [hkind g];exact h3⟩
    split at hw
    · rename_i e;subst e
      rcases List.mem_or_eq_of_mem_set hw with hw | rfl
      · exact old hw
      · rcases hc with h1 | ⟨g,b',h1,h3⟩
        · exact .inl h1
        · exact .inr ⟨g,b',h1,fun e=>by subst e;omega,by rw [hkind g];exact h3⟩
    · exact old hw
  have hnames':∀ f,f<12→isTab (inf l' f).kind=true→∀ g,g ∈ namedW (row m' f)→g≠f∧(inf l' g).kind=(inf l' f).kind - 1:=fun f hf hft g hg=>by
    obtain ⟨w,hw,b',he⟩:=mem_namedW.1 hg;rcases htab f hf hft w hw with h0 | ⟨g',b'',he',h1,h2⟩
    · subst h0;rw [entry_zero] at he;cases he
    · rw [he] at he';simp only [Option.some.injEq,Prod.mk.injEq] at he';obtain ⟨rfl,rfl⟩:=he';exact ⟨h1,h2⟩
  have hroot:∀ e,e<3→(envAt k.envs e).root=-1∨(0≤(envAt k.envs e).root∧(envAt k.envs e).root≤11∧(inf l' (envAt k.envs e).root.toNat).kind=3):=fun e he=>by
    rw [hkind];exact h.root e he
  have hrefs:∀ g,g<12→(inf l' g).refs=((countT m' l' g+rootsN k.envs g:Nat):Int):=fun g hg=>by
    have e:=sum_one (n:=12) (f:=a) (F:=ctr k.mem k.infos g) (F':=ctr m' l' g) ha (fun i _ hi=>by unfold ctr;rw [hkind i,hrowne i hi]);rw [←countT_eq,←countT_eq] at e;have e1:ctr k.mem k.infos g a=(namedW (row k.mem a)).count g:=by unfold ctr;rw [hk];rfl
    have e2:ctr m' l' g a=(namedW ((row k.mem a).set b c)).count g:=by unfold ctr;rw [hkind a,hk,hrow a];simp
    have e3:=count_set g c (row k.mem a) b (by rw [h.m4 a ha];exact hb);have e4:=h.refs g hg;rw [hin g];unfold word;simp only;omega
  have hreachT:∀ e,e<3→0≤(envAt k.envs e).root→usesTable k.mem (envAt k.envs e) (a:Int)=false →
      row k.mem (envAt k.envs e).root.toNat=row m' (envAt k.envs e).root.toNat∧∀ t,t ∈ namedW (row k.mem (envAt k.envs e).root.toNat)→row k.mem t=row m' t:=fun e he h0 hu=>by
    have h1:(envAt k.envs e).root≠(a:Int)∧¬ a ∈ namedW (row k.mem (envAt k.envs e).root.toNat):=by
      refine ⟨fun e'=>?_,fun e'=>?_⟩
      · rw [usesTable_iff.2 (.inl e')] at hu;cases hu
      · rw [usesTable_iff.2 (.inr ⟨h0,e'⟩)] at hu;cases hu
    exact ⟨(hrowne _ (by omega)).symm,fun t ht=>(hrowne _ (fun e=>h1.2 (e ▸ ht))).symm⟩
  refine ⟨by rw [hm',setWord_length,h.m12],hm4,fun f hf w hw=>?_,hlen,fun g hg=>?_,cacheOk_foldl _ _ h.cok,h.e3,h.rok,hroot,fun e he g hg=>?_,htab,hrefs,fun x hx=>?_⟩
  · simp only [hrow f] at hw;split at hw
    · rcases List.mem_or_eq_of_mem_set hw with hw | rfl
      · exact h.mw a ha w hw
      · exact hc9
    · exact h.mw f hf w hw
  · have hle:=uses_le (m:=m') (l:=l') (envs:=k.envs) hm4 h.e3 hnames' (fun e he=>by obtain ⟨i,hi,rfl⟩:=mem_envAt he;exact hroot i (by rw [←h.e3];exact hi)) g hg
    have hr:=hrefs g hg;show infoOk (inf l' g)=true;rcases infoOk_iff.1 (h.iok g hg) with h1 | h1
    · have n1:nm (word k.mem a b) g=0:=by
        rcases Nat.eq_zero_or_pos (nm (word k.mem a b) g) with h0 | h0
        · exact h0
        · have h2:nm (word k.mem a b) g=1:=by unfold nm at h0 ⊢;split at h0 <;> simp_all
          obtain ⟨b',he⟩:=nm_one.1 h2;have h3:=h.names ha hk (entry_word he);have h4:(inf k.infos g).kind=0:=by rw [h1];rfl
          have h5:=isTab_iff.1 hk;omega
      have n2:nm c g=0:=by
        rcases Nat.eq_zero_or_pos (nm c g) with h0 | h0
        · exact h0
        · have h2:nm c g=1:=by unfold nm at h0 ⊢;split at h0 <;> simp_all
          obtain ⟨b',he⟩:=nm_one.1 h2;have h4:(inf k.infos g).kind=0:=by rw [h1];rfl
          have h5:=isTab_iff.1 hk;rcases hc with h6 | ⟨f,w,h6,h7⟩
          · rw [h6,entry_zero] at he;cases he
          · rw [he] at h6;simp only [Option.some.injEq,Prod.mk.injEq] at h6;obtain ⟨rfl,rfl⟩:=h6;omega
      have:inf l' g=Info.zero:=by rw [hin g,n1,n2,h1];rfl
      rw [this];exact infoOk_zero
    · rw [infoOk_iff,hkind g,hguard g];exact .inr ⟨h1.1,h1.2.1,h1.2.2.1,by omega,by omega⟩
  · show may _ (inf l' g).guard=true
    rw [hguard g]
    cases hu:usesTable k.mem (envAt k.envs e) (a:Int)
    · have hre:reach m' (envAt k.envs e).root=reach k.mem (envAt k.envs e).root:=(reach_congr (fun h0=>(hreachT e he h0 hu).1) (fun h0=>(hreachT e he h0 hu).2)).symm
      change g ∈ reach m' _ at hg;rw [hre] at hg;exact h.all e he g hg
    · have hue:e ∈ users k (a:Int):=mem_users.2 ⟨by rw [h.e3];exact he,hu⟩;change g ∈ reach m' _ at hg;obtain ⟨h0,hg12,hg'⟩:=mem_reach.1 hg;have htop:=h.top he h0;generalize hR:(envAt k.envs e).root.toNat=R at hg' htop;have hRt:isTab (inf k.infos R).kind=true:=isTab_iff.2 (.inr htop.1);have inR1:∀ x,x<12→x ∈ namedW (row k.mem R)→x ∈ reach k.mem (envAt k.envs e).root:=fun x hx hm=>mem_reach.2 ⟨h0,hx,.inr (.inl (by rw [hR];exact hm))⟩
      have inR2:∀ x t,x<12→t ∈ namedW (row k.mem R)→x ∈ namedW (row k.mem t)→x ∈ reach k.mem (envAt k.envs e).root:=fun x t hx ht hm=>mem_reach.2 ⟨h0,hx,.inr (.inr ⟨t,by rw [hR];exact ht,hm⟩)⟩
      have viaC:∀ f w,entry c=some (f,w)→g=f∨((inf k.infos f).kind=2∧g ∈ namedW (row k.mem f))→may (envAt k.envs e).rights (inf k.infos g).guard=true:=fun f w he' hf =>
        hal e hue g (mem_behind.2 ⟨f,w,he',hf⟩)
      have named':∀ x t,x ∈ namedW (row m' t)→x ∈ namedW (row k.mem t)∨(t=a∧nm c x=1):=fun x t hx=>by
        rw [hrow t] at hx;split at hx
        · rename_i e;subst e
          rcases namedW_set hx with h1 | h1
          · exact .inl h1
          · exact .inr ⟨rfl,h1⟩
        · exact .inl hx
      have kc:∀ f w,entry c=some (f,w)→(inf k.infos f).kind=(inf k.infos a).kind - 1:=fun f w he'=>by
        rcases hc with h6 | ⟨f',w',h6,h7⟩
        · rw [h6,entry_zero] at he';cases he'
        · rw [he'] at h6;simp only [Option.some.injEq,Prod.mk.injEq] at h6;obtain ⟨rfl,rfl⟩:=h6;exact h7
      rcases hg' with rfl | hg' | ⟨t,ht,hg'⟩
      · exact h.all e he g (mem_reach.2 ⟨h0,hg12,.inl hR.symm⟩)
      · rcases named' g R hg' with h1 | ⟨rfl,h1⟩
        · exact h.all e he g (inR1 g hg12 h1)
        · obtain ⟨w,he'⟩:=nm_one.1 h1;exact viaC g w he' (.inl rfl)
      · rcases named' t R ht with h1 | ⟨hRa,h1⟩
        · rcases named' g t hg' with h2 | ⟨rfl,h2⟩
          · exact h.all e he g (inR2 g t hg12 h1 h2)
          · obtain ⟨w,he'⟩:=nm_one.1 h2;exact viaC g w he' (.inl rfl)
        · obtain ⟨w,he'⟩:=nm_one.1 h1;have hkt:=kc t w he';rw [←hRa,htop.1] at hkt;rcases named' g t hg' with h2 | ⟨hta,h2⟩
          · exact viaC t w he' (.inr ⟨by omega,h2⟩)
          · rw [hta,←hRa,htop.1] at hkt;omega
  · change x ∈ List.foldl _ _ _ at hx;obtain ⟨hx1,hx2⟩:=(mem_foldl_cdrop _ _).1 hx;have hxl:=h.envlt hx1;have hu:usesTable k.mem (envAt k.envs x.env.toNat) (a:Int)=false:=by
      cases hu:usesTable k.mem (envAt k.envs x.env.toNat) (a:Int)
      · rfl
      · exact absurd (by omega) (hx2 x.env.toNat (mem_users.2 ⟨by rw [h.e3];exact hxl.1,hu⟩))
    rw [←h.ct x hx1];exact cachedTrue_congr (k:=k) rfl (fun h0=>(hreachT _ hxl.1 h0 hu).1) (fun h0=>(hreachT _ hxl.1 h0 hu).2)
theorem entryKind_iff {w:Int}:(entryKind w==2)=false↔w=0∨∃ f b,entry w=some (f,b):=by
  unfold entryKind
  by_cases h:w=0
  · simp [h]
  · rw [if_neg h];rcases entry w with _ | ⟨f,b⟩
    · simp [h]
    · simp
theorem Ok.setK {k:Kernel} (h:Ok k) (c:Call):Ok (setK k c).1:=by
  unfold Kx.setK;split
  · exact h
  rename_i hc
  split
  · exact h
  rename_i h2
  split
  · exact h
  rename_i h3
  split
  · exact h
  obtain ⟨h0,h12,hk0,_,_,hk⟩:=frameCode_done (Classical.not_not.1 hc);simp only [setBad,Bool.or_eq_true,not_or,Bool.not_eq_true',Bool.not_eq_false,Bool.not_eq_true,inR_true] at h2;simp only [Bool.not_eq_true',Bool.not_eq_false,List.all_eq_true,allowed] at h3;have ea:((c.a.toNat:Nat):Int)=c.a:=by omega
  have:=h.set (a:=c.a.toNat) (b:=c.b.toNat) (c:=c.c) h12 (by omega) (hk rfl) ?_ ?_
  · rw [ea] at this;exact this
  · rcases entryKind_iff.1 h2.1.2 with h4 | ⟨f,b,h4⟩
    · exact .inl h4
    · right
      refine ⟨f,b,h4,?_⟩;have h5:=h2.2;rw [h4] at h5;simpa using h5
  · rw [ea];exact h3
/-- an environment takes another table or none -/
theorem Ok.rootK {k:Kernel} (h:Ok k) (c:Call) (he:inR c.env 0 2=true):Ok (rootK k c).1:=by
  unfold Kx.rootK;split
  · exact h
  rename_i h1
  split
  · exact h
  rename_i h2
  rw [inR_true] at he;have he3:c.env.toNat<3:=by omega
  have ha:c.a=-1∨(0≤c.a∧c.a≤11∧(inf k.infos c.a.toNat).kind=3):=by
    by_cases h0:c.a=-1
    · exact .inl h0
    · right
      simp only [h0,ne_eq,not_false_eq_true,true_and,Bool.or_eq_true,Bool.not_eq_true',bne_iff_ne,not_or,Bool.not_eq_false,Classical.not_not,inR_true] at h1;exact ⟨h1.1.1,h1.1.2,h1.2⟩
  simp only [Bool.not_eq_true',Bool.not_eq_false,List.all_eq_true,allowed] at h2;generalize hold:(envAt k.envs c.env.toNat).root=old;have hro:old=-1∨(0≤old∧old≤11∧(inf k.infos old.toNat).kind=3):=by rw [←hold];exact h.root _ he3
  obtain ⟨l',hl'⟩:∃ l',l'=(if 0≤c.a then setRefs (if 0≤old then setRefs k.infos old.toNat (-1) else k.infos) c.a.toNat 1 else (if 0≤old then setRefs k.infos old.toNat (-1) else k.infos)):=⟨_,rfl⟩;obtain ⟨es,hes⟩:∃ es,es=setRoot k.envs c.env.toNat c.a:=⟨_,rfl⟩;simp only [←hl',←hes];have hin:∀ g,inf l' g={ inf k.infos g with refs:=(inf k.infos g).refs - (if old=(g:Int) then 1 else 0)+(if c.a=(g:Int) then 1 else 0) }:=fun g=>by
    have e1:inf (if 0≤old then setRefs k.infos old.toNat (-1) else k.infos) g={ inf k.infos g with refs:=(inf k.infos g).refs - (if old=(g:Int) then 1 else 0) }:=by
      by_cases h0:0≤old
      · rw [if_pos h0,setRefs_inf (by rw [h.i12];omega)]
        by_cases hg:g=old.toNat
        · have:old=(g:Int):=by omega
          rw [if_pos hg,if_pos this,hg];rfl
        · have:¬ old=(g:Int):=by omega
          rw [if_neg hg,if_neg this];simp
      · have:¬ old=(g:Int):=by omega
        rw [if_neg h0,if_neg this];simp
    have e2:(if 0≤old then setRefs k.infos old.toNat (-1) else k.infos).length=12:=by
      split
      · rw [setRefs_length,h.i12]
      · exact h.i12
    generalize (if 0≤old then setRefs k.infos old.toNat (-1) else k.infos)=l1 at hl' e1 e2;rw [hl']
    by_cases h0:0≤c.a
    · rw [if_pos h0,setRefs_inf (by rw [e2];omega)]
      by_cases hg:g=c.a.toNat
      · have:c.a=(g:Int):=by omega
        rw [if_pos hg,if_pos this,←hg,e1]
      · have:¬ c.a=(g:Int):=by omega
        rw [if_neg hg,if_neg this,e1];simp
    · have:¬ c.a=(g:Int):=by omega
      rw [if_neg h0,if_neg this,e1];simp
  have hlen:l'.length=12:=by
    rw [hl'];split <;> split <;> simp [setRefs_length,h.i12]
  have hkind:∀ g,(inf l' g).kind=(inf k.infos g).kind:=fun g=>by rw [hin g]
  have hguard:∀ g,(inf l' g).guard=(inf k.infos g).guard:=fun g=>by rw [hin g]
  have henv:∀ e,envAt es e=if e=c.env.toNat then { envAt k.envs c.env.toNat with root:=c.a } else envAt k.envs e:=fun e=>by rw [hes];exact envAt_set (by rw [h.e3];exact he3)
  have hes3:es.length=3:=by rw [hes];simp [setRoot,h.e3]
  have hctr:∀ g,countT k.mem l' g=countT k.mem k.infos g:=fun g=>by
    rw [countT_eq,countT_eq];exact sum_same fun i _=>by unfold ctr;rw [hkind i]
  have hroot:∀ e,e<3→(envAt es e).root=-1∨(0≤(envAt es e).root∧(envAt es e).root≤11∧(inf l' (envAt es e).root.toNat).kind=3):=fun e he=>by
    rw [hkind,henv e];split
    · exact ha
    · exact h.root e he
  have hrefs:∀ g,g<12→(inf l' g).refs=((countT k.mem l' g+rootsN es g:Nat):Int):=fun g hg=>by
    have e1:=countP_set (fun e:Env=>e.root==(g:Int)) { envAt k.envs c.env.toNat with root:=c.a } Env.zero k.envs c.env.toNat (by rw [h.e3];exact he3)
    have e2:rootsN es g=(k.envs.set c.env.toNat { envAt k.envs c.env.toNat with root:=c.a }).countP fun e:Env=>e.root==(g:Int):=by rw [hes];rfl
    have e3:k.envs.getD c.env.toNat Env.zero=envAt k.envs c.env.toNat:=rfl;rw [e3,←e2] at e1;simp only [beq_iff_eq,hold] at e1;have e4:=h.refs g hg;unfold rootsN at e4;rw [hctr g,hin g];simp only;split <;> rename_i q1 <;> split <;> rename_i q2 <;> simp only [q1,q2,if_true,if_false] at e1 <;> omega
  refine ⟨h.m12,h.m4,h.mw,hlen,fun g hg=>?_,cacheOk_filter _ h.cok,hes3,fun e he=>?_,hroot,fun e he g hg=>?_,fun f hf hft w hw=>?_,hrefs,fun x hx=>?_⟩
  · have hle:=uses_le (m:=k.mem) (l:=l') (envs:=es) h.m4 hes3 (fun f hf hft g hg=>by
      rw [hkind] at hft ⊢;rw [hkind];exact (h.names hf hft hg).2) (fun e he=>by obtain ⟨i,hi,rfl⟩:=mem_envAt he;exact hroot i (by rw [←hes3];exact hi)) g hg
    have hr:=hrefs g hg;show infoOk (inf l' g)=true;rcases infoOk_iff.1 (h.iok g hg) with h1 | h1
    · have hk0:(inf k.infos g).kind=0:=by rw [h1];rfl
      have n1 : ¬ old = (g : Int) := fun e => by rcases hro with h2 | ⟨_, _, h2⟩
                                                 · omega
                                                 · rw [e] at h2;simp at h2;omega
      have n2 : ¬ c.a = (g : Int) := fun e => by rcases ha with h2 | ⟨_, _, h2⟩
                                                 · omega
                                                 · rw [e] at h2;simp at h2;omega
      have:inf l' g=Info.zero:=by rw [hin g,if_neg n1,if_neg n2,h1];rfl
      rw [this];exact infoOk_zero
    · rw [infoOk_iff,hkind g,hguard g];exact .inr ⟨h1.1,h1.2.1,h1.2.2.1,by omega,by omega⟩
  · show rightsOk (envAt es e).rights=true
    rw [henv e];split
    · rename_i e';subst e';exact h.rok _ he
    · exact h.rok e he
  · show may (envAt es e).rights (inf l' g).guard=true
    change g ∈ reach k.mem (envAt es e).root at hg;rw [hguard g];rw [henv e] at hg ⊢;split at hg
    · rename_i e';subst e';simp only [if_true];exact h2 g hg
    · rename_i e';rw [if_neg e'];exact h.all e he g hg
  · change isTab (inf l' f).kind=true at hft;show w=0∨∃ g b,entry w=some (g,b)∧g≠f∧(inf l' g).kind=(inf l' f).kind - 1;rw [hkind] at hft ⊢;rcases h.tab f hf hft w hw with h1 | ⟨g,b,h1,h2,h3⟩
    · exact .inl h1
    · exact .inr ⟨g,b,h1,h2,by rw [hkind];exact h3⟩
  · change x ∈ cdrop k.cache c.env at hx;unfold cdrop at hx;obtain ⟨hx1,hx2⟩:=List.mem_filter.1 hx;have hxl:=h.envlt hx1;rw [←h.ct x hx1];refine cachedTrue_congr (k:=k) ?_ (fun _=>rfl) (fun _ _ _=>rfl);show (envAt es x.env.toNat).root=_;simp only [bne_iff_ne] at hx2;rw [henv,if_neg (by omega)]
end Kx
namespace Kx
/-! ### order of texts -/
theorem less_total:∀ (x y:List UInt8),Go.Op.bytesLess x y=false→x≠y→Go.Op.bytesLess y x=true
  | [],[],_,h=>absurd rfl h
  | _ :: _,[],_,_=>rfl
  | [],_ :: _,h,_=>by simp [Go.Op.bytesLess] at h
  | a :: x,b :: y,h,hne=>by
    rw [Go.Op.bytesLess] at h ⊢
    by_cases h1:a<b
    · simp [h1] at h
    · by_cases h2:a=b
      · subst h2;simp only [h1,decide_false,BEq.rfl,Bool.true_and,Bool.false_or] at h ⊢;exact less_total x y h (fun e=>hne (by rw [e]))
      · have:b<a:=by
          have h3:b≤a:=UInt8.not_lt.1 h1;exact UInt8.lt_of_le_of_ne h3 (Ne.symm h2)
        simp [this]
theorem toList_inj {a b:Str} (h:a.toList=b.toList):a=b:=by
  rw [Go.ByteArray.toList_eq,Go.ByteArray.toList_eq] at h
  cases a;cases b
  simp at h;rw [h]
theorem lt_total {a b:Str} (h:lt a b=false) (hne:a≠b):lt b a=true:=less_total _ _ h (fun e=>hne (toList_inj e))
/-- s among rights -/
theorem ascends_ins (s:Str):∀ (l:List Str),ascends l=true→l[rplace l s]?≠some s→ascends (l.take (rplace l s) ++ s :: l.drop (rplace l s))=true
  | [],_,_=>rfl
  | [a],h,hn=>by
    unfold rplace at hn ⊢
    cases hl:lt a s
    · simp [hl] at hn ⊢
      simp [ascends,lt_total hl hn]
    · simp [hl,ascends]
  | a :: b :: l,h,hn=>by
    simp only [ascends,Bool.and_eq_true] at h;unfold rplace at hn ⊢
    cases hl:lt a s
    · simp [hl] at hn ⊢
      simp [ascends,lt_total hl hn,h.1,h.2]
    · have ih:=ascends_ins s (b :: l) h.2;unfold rplace at ih;simp only [List.takeWhile_cons,hl,if_true,List.length_cons,List.getElem?_cons_succ,List.take_succ_cons,List.drop_succ_cons,List.cons_append] at hn ⊢;simp only [List.takeWhile_cons] at ih;have ih:=ih hn
      cases hb:lt b s
      · simp only [hb,Bool.false_eq_true,if_false,List.length_nil,List.take_zero,List.drop_zero,List.nil_append] at ih ⊢;simp only [ascends,Bool.and_eq_true] at ih ⊢;exact ⟨hl,ih⟩
      · simp only [hb,if_true,List.length_cons,List.take_succ_cons,List.drop_succ_cons,List.cons_append] at ih ⊢;simp only [ascends,Bool.and_eq_true];exact ⟨h.1,ih⟩
theorem ascends_tail {a:Str} {l:List Str} (h:ascends (a :: l)=true):ascends l=true:=by
  cases l with
  | nil=>rfl
  | cons b l=>simp only [ascends,Bool.and_eq_true] at h;exact h.2
theorem less_trans:∀ (x y z:List UInt8),Go.Op.bytesLess x y=true→Go.Op.bytesLess y z=true→Go.Op.bytesLess x z=true
  | _,[],_,h,_=>by cases ‹List UInt8› <;> simp [Go.Op.bytesLess] at h
  | _,_ :: _,[],_,h=>by simp [Go.Op.bytesLess] at h
  | [],_ :: _,_ :: _,_,_=>by simp [Go.Op.bytesLess]
  | a :: x,b :: y,c :: z,h1,h2=>by
    rw [Go.Op.bytesLess] at h1 h2 ⊢;simp only [Bool.or_eq_true,decide_eq_true_eq,Bool.and_eq_true,beq_iff_eq] at h1 h2 ⊢;rcases h1 with h1 | ⟨rfl,h1⟩
    · rcases h2 with h2 | ⟨rfl,h2⟩
      · exact .inl (UInt8.lt_trans h1 h2)
      · exact .inl h1
    · rcases h2 with h2 | ⟨rfl,h2⟩
      · exact .inl h2
      · exact .inr ⟨rfl,less_trans x y z h1 h2⟩
theorem lt_trans {a b c:Str} (h:lt a b=true) (h':lt b c=true):lt a c=true:=less_trans _ _ _ h h'
theorem ascends_head {a:Str}:∀ {l:List Str},ascends (a :: l)=true→∀ x ∈ l,lt a x=true
  | [],_,x,hx=>by simp at hx
  | b :: l,h,x,hx=>by
    simp only [ascends,Bool.and_eq_true] at h;rcases List.mem_cons.1 hx with rfl | hx
    · exact h.1
    · exact lt_trans h.1 (ascends_head h.2 x hx)
theorem ascends_cons {a:Str} {l:List Str} (h:ascends l=true) (ha:∀ x ∈ l,lt a x=true):ascends (a :: l)=true:=by
  cases l with
  | nil=>rfl
  | cons b l=>simp only [ascends,Bool.and_eq_true];exact ⟨ha b (by simp),h⟩
theorem ascends_filter (p:Str→Bool):∀ (l:List Str),ascends l=true→ascends (l.filter p)=true
  | [],_=>rfl
  | a :: l,h=>by
    have ih:=ascends_filter p l (ascends_tail h);rw [List.filter_cons];split
    · exact ascends_cons ih fun x hx=>ascends_head h x (List.mem_filter.1 hx).1
    · exact ih
theorem rightsOk_iff {l:List Str}:rightsOk l=true↔(∀ s ∈ l,rightOk s=true)∧ascends l=true∧l.length≤6:=by
  unfold rightsOk;simp only [Bool.and_eq_true,List.all_eq_true,decide_eq_true_eq,and_assoc]
theorem rightsOk_drop {l:List Str} (s:Str) (h:rightsOk l=true):rightsOk (rdrop l s)=true:=by
  obtain ⟨h1,h2,h3⟩:=rightsOk_iff.1 h;exact rightsOk_iff.2 ⟨fun x hx=>h1 x (List.mem_filter.1 hx).1,ascends_filter _ l h2,Nat.le_trans (List.length_filter_le _ _) h3⟩
theorem radd_cases (l:List Str) (s:Str):(radd l s=(l,true)∧s ∈ l)∨(radd l s=(l,false))∨(radd l s=(l.take (rplace l s) ++ s :: l.drop (rplace l s),true)∧l.length<6∧l[rplace l s]?≠some s):=by
  unfold radd;split
  · rename_i h;exact .inl ⟨rfl,List.mem_of_getElem? h⟩
  · split
    · exact .inr (.inl rfl)
    · rename_i h1 h2;exact .inr (.inr ⟨rfl,by omega,h1⟩)
theorem rightsOk_add {l:List Str} {s:Str} (h:rightsOk l=true) (hs:rightOk s=true):rightsOk (radd l s).1=true:=by
  obtain ⟨h1,h2,h3⟩:=rightsOk_iff.1 h;rcases radd_cases l s with ⟨e,_⟩ | e | ⟨e,hl,hn⟩
  · rw [e];exact h
  · rw [e];exact h
  · rw [e];refine rightsOk_iff.2 ⟨fun x hx=>?_,ascends_ins s l h2 hn,?_⟩
    · simp only [List.mem_append,List.mem_cons] at hx;rcases hx with hx | rfl | hx
      · exact h1 x (List.mem_of_mem_take hx)
      · exact hs
      · exact h1 x (List.mem_of_mem_drop hx)
    · simp;omega
theorem mem_radd {l:List Str} {s x:Str}:x ∈ (radd l s).1→x ∈ l∨x=s:=by
  rcases radd_cases l s with ⟨e,_⟩ | e | ⟨e,hl,hn⟩ <;> rw [e]
  · exact .inl
  · exact .inl
  · intro hx;simp only [List.mem_append,List.mem_cons] at hx;rcases hx with hx | rfl | hx
    · exact .inl (List.mem_of_mem_take hx)
    · exact .inr rfl
    · exact .inl (List.mem_of_mem_drop hx)
theorem radd_sub {l:List Str} {s x:Str} (hx:x ∈ l):x ∈ (radd l s).1:=by
  rcases radd_cases l s with ⟨e,_⟩ | e | ⟨e,hl,hn⟩ <;> rw [e]
  · exact hx
  · exact hx
  · rw [←List.take_append_drop (rplace l s) l] at hx;simp only [List.mem_append,List.mem_cons] at hx ⊢;rcases hx with hx | hx
    · exact .inl hx
    · exact .inr (.inr hx)
theorem may_sub {l l':List Str} {g:Str} (h:∀ x ∈ l,x ∈ l') (hm:may l g=true):may l' g=true:=by
  unfold may at hm ⊢;rw [List.any_eq_true] at hm ⊢;obtain ⟨x,hx,hp⟩:=hm;exact ⟨x,h x hx,hp⟩
/-- an environment takes other rights that allow what it reaches -/
theorem Ok.rights {k:Kernel} (h:Ok k) {e:Nat} (he:e<3) {r:List Str} (hr:rightsOk r=true) (hall:∀ f ∈ reach k.mem (envAt k.envs e).root,may r (inf k.infos f).guard=true):Ok { k with envs:=setRights k.envs e r }:=by
  have henv:∀ i,envAt (setRights k.envs e r) i=if i=e then { envAt k.envs e with rights:=r } else envAt k.envs i:=fun i=>envAt_set (by rw [h.e3];exact he)
  have hroot:∀ i,(envAt (setRights k.envs e r) i).root=(envAt k.envs i).root:=fun i=>by
    rw [henv i];split
    · rename_i q;rw [q]
    · rfl
  refine ⟨h.m12,h.m4,h.mw,h.i12,h.iok,h.cok,by simp [setRights,h.e3],fun i hi=>?_,fun i hi=>?_,fun i hi f hf=>?_,h.tab,fun g hg=>?_,fun x hx=>?_⟩
  · show rightsOk (envAt (setRights k.envs e r) i).rights=true
    rw [henv i];split
    · exact hr
    · exact h.rok i hi
  · show (envAt (setRights k.envs e r) i).root=-1∨_
    rw [hroot i];exact h.root i hi
  · change f ∈ reach k.mem (envAt (setRights k.envs e r) i).root at hf;show may (envAt (setRights k.envs e r) i).rights _=true;rw [hroot i] at hf;rw [henv i];split
    · rename_i q;rw [q] at hf;exact hall f hf
    · exact h.all i hi f hf
  · show _=((countT k.mem k.infos g+rootsN (setRights k.envs e r) g:Nat):Int)
    obtain ⟨x,hx⟩:∃ x:Env,x={ envAt k.envs e with rights:=r }:=⟨_,rfl⟩;have e1:=countP_set (fun e:Env=>e.root==(g:Int)) x Env.zero k.envs e (by rw [h.e3];exact he)
    have e2:rootsN (setRights k.envs e r) g=(k.envs.set e x).countP fun e:Env=>e.root==(g:Int):=by rw [hx];rfl
    have e3:(k.envs.getD e Env.zero).root=x.root:=by rw [hx];rfl
    simp only [e3] at e1;rw [e2,show (k.envs.set e x).countP (fun e:Env=>e.root==(g:Int))=rootsN k.envs g by unfold rootsN;omega]
    exact h.refs g hg
  · rw [←h.ct x hx];exact cachedTrue_congr (k:=k) (hroot _) (fun _=>rfl) (fun _ _ _=>rfl)
theorem Ok.rightsK {k:Kernel} (h:Ok k) (c:Call):Ok (rightsK k c).1:=by
  unfold Kx.rightsK;split
  · exact h
  rename_i h1
  simp only [Bool.not_eq_true',Bool.or_eq_true,not_or,Bool.not_eq_false,inR_true] at h1;split
  · exact h
  split
  · split
    · exact h.rights (by omega) (rightsOk_add (h.rok _ (by omega)) h1.1.2) (fun f hf=>may_sub (fun x hx=>radd_sub hx) (h.all _ (by omega) f hf))
    · exact h
  · split
    · exact h
    rename_i h3
    simp only [Bool.not_eq_true',Bool.not_eq_false,List.all_eq_true,allowed] at h3;exact h.rights (by omega) (rightsOk_drop _ (h.rok _ (by omega))) h3
/-! ### loads and stores -/
theorem cfind_some {c:List Cached} {e p:Int} {i:Nat} (h:cfind c e p=some i):i<c.length∧c.getD i Cached.zero ∈ c∧(c.getD i Cached.zero).env=e∧(c.getD i Cached.zero).page=p:=by
  unfold cfind at h;obtain ⟨hi,hp,_⟩:=List.findIdx?_eq_some_iff_getElem.1 h;have e1:c.getD i Cached.zero=c[i]:=by simp [hi]
  rw [e1];simp only [Bool.and_eq_true,beq_iff_eq] at hp;exact ⟨hi,List.getElem_mem hi,hp.1,hp.2⟩
theorem walk_page (m:List (List Int)) (root ad:Nat):(walk m root ad).2=(walk m root (4*(ad / 4))).2∧(walk m root ad).1.1=(walk m root (4*(ad / 4))).1.1∧(walk m root ad).1.2.2=(walk m root (4*(ad / 4))).1.2.2:=by
  unfold walk;have e1:4*(ad / 4) / 16=ad / 16:=by omega
  have e2:4*(ad / 4) / 4 % 4=ad / 4 % 4:=by omega
  rw [e1,e2];split
  · simp
  · split <;> simp
theorem cachedTrue_iff {k:Kernel} {x:Cached}:cachedTrue k x=true↔0≤(envAt k.envs x.env.toNat).root∧(walk k.mem (envAt k.envs x.env.toNat).root.toNat (4*x.page.toNat)).2=0 ∧
    (walk k.mem (envAt k.envs x.env.toNat).root.toNat (4*x.page.toNat)).1.1=x.frame∧(walk k.mem (envAt k.envs x.env.toNat).root.toNat (4*x.page.toNat)).1.2.2=x.write:=by
  unfold cachedTrue;simp only [Bool.and_eq_true,Bool.not_eq_true',decide_eq_false_iff_not,beq_iff_eq,and_assoc];constructor
  · rintro ⟨h1,h2⟩;exact ⟨by omega,h2⟩
  · rintro ⟨h1,h2⟩;exact ⟨by omega,h2⟩
/-- the cache has no influence on where an address lies -/
theorem Ok.place {k:Kernel} (h:Ok k) {env ad:Int} (ha:inR ad 0 63=true) :
    (placeOf k env ad).2=(walk k.mem (envAt k.envs env.toNat).root.toNat ad.toNat).2 ∧
    ((placeOf k env ad).2=0→(placeOf k env ad).1=((walk k.mem (envAt k.envs env.toNat).root.toNat ad.toNat).1.1,(walk k.mem (envAt k.envs env.toNat).root.toNat ad.toNat).1.2.2)):=by
  rw [inR_true] at ha;unfold placeOf;split
  · rename_i i hi
    obtain ⟨_,hm,he',hp'⟩:=cfind_some hi;have hc:=cachedTrue_iff.1 (h.ct _ hm);rw [he',hp'] at hc;have hw:=walk_page k.mem (envAt k.envs env.toNat).root.toNat ad.toNat;have e1:4*(ad / 4).toNat=4*(ad.toNat / 4):=by omega
    rw [e1] at hc;rw [hw.1,hw.2.1,hw.2.2];exact ⟨hc.2.1.symm,fun _=>by rw [hc.2.2.1,hc.2.2.2]⟩
  · exact ⟨rfl,fun _=>rfl⟩
/-- a walk that is done from an environment's table ends at a frame with data -/
theorem Ok.walked {k:Kernel} (h:Ok k) {e:Nat} (he:e<3) (hr:0≤(envAt k.envs e).root) {ad:Nat} (hw:(walk k.mem (envAt k.envs e).root.toNat ad).2=0) :
    ∃ f:Nat,(walk k.mem (envAt k.envs e).root.toNat ad).1.1=(f:Int)∧(walk k.mem (envAt k.envs e).root.toNat ad).1.2.1=((ad % 4:Nat):Int)∧f<12∧(inf k.infos f).kind=1∧f ∈ reach k.mem (envAt k.envs e).root:=by
  have ht:=h.top he hr;obtain ⟨t,f,a,b,h1,h2,h3,h4,h5⟩:=walk_done (p:=(walk k.mem (envAt k.envs e).root.toNat ad).1) (Prod.ext rfl hw);have hd:=h.deep ht.2 ht.1 h4 h5;rw [h3];exact ⟨f,rfl,rfl,hd.2.2.2,hd.2.1,mem_reach.2 ⟨hr,hd.2.2.2,.inr (.inr ⟨t,h4,h5⟩)⟩⟩
theorem Ok.cached {k:Kernel} (h:Ok k) {x:Cached} (hx:cachedOk x=true) (ht:cachedTrue k x=true):Ok { k with cache:=cput k.cache x }:=
  ⟨h.m12,h.m4,h.mw,h.i12,h.iok,cacheOk_put h.cok hx,h.e3,h.rok,h.root,h.all,h.tab,h.refs,fun y hy=>by
    show cachedTrue k y=true
    rcases mem_cput hy with hy | rfl
    · exact h.ct y hy
    · exact ht⟩
theorem Ok.access {k:Kernel} (h:Ok k) (c:Call) (he:inR c.env 0 2=true):Ok (access k c).1:=by
  unfold Kx.access;split
  · exact h
  rename_i h1
  simp only [Bool.not_eq_true',Bool.or_eq_true,not_or,Bool.not_eq_false,decide_eq_true_eq,Bool.and_eq_true,beq_iff_eq,not_and] at h1;have hp:=h.place (env:=c.env) h1.1.1;split;rename_i f w code hpl;rw [hpl] at hp;split
  · exact h
  rename_i hc
  split
  · exact h
  simp only [ne_eq,Classical.not_not] at hc;subst hc;have ha:=inR_true.1 h1.1.1;have he':=inR_true.1 he;obtain ⟨fr,hf1,hf2,hf12,hfk,_⟩:=h.walked (e:=c.env.toNat) (by omega) (by omega) hp.1.symm;have hfw:=hp.2 rfl;simp only [Prod.mk.injEq] at hfw;have hca:Ok { k with cache:=accCache k c f w }:=by
    unfold accCache;split
    · exact h
    · have hw:=walk_page k.mem (envAt k.envs c.env.toNat).root.toNat c.a.toNat;have e1:4*(c.a / 4).toNat=4*(c.a.toNat / 4):=by omega
      refine h.cached ?_ (cachedTrue_iff.2 ⟨by simp only;omega,?_,?_,?_⟩)
      · simp only [cachedOk,Bool.and_eq_true,inR_true];omega
      · simp only;rw [e1,←hw.1];exact hp.1.symm
      · simp only;rw [e1,←hw.2.1];exact hfw.1.symm
      · simp only;rw [e1,←hw.2.2];exact hfw.2.symm
  split
  · rename_i hk
    exact hca.write (f:=f.toNat) (by omega) (by show (inf k.infos f.toNat).kind=1;rw [hfw.1,hf1];exact hfk) _ (inR_true.1 (by simpa using h1.2 hk))
  · exact hca
theorem Ok.doK {k:Kernel} (h:Ok k) (c:Call) (he:inR c.env 0 2=true):Ok (doK k c).1:=by
  unfold Kx.doK;split
  · exact h.take c
  split
  · exact h.give c
  split
  · exact h.poke c
  split
  · exact h.pinK c he
  split
  · exact h.setK c
  split
  · exact h.rootK c he
  split
  · exact h.rightsK c
  split
  · exact h.access c he
  · exact h
theorem Ok.callK {k:Kernel} (h:Ok k) (c:Call) (he:inR c.env 0 2=true):Ok (callK k c).1:=by
  unfold Kx.callK;split
  · exact h
  · exact h.doK c he
theorem Ok.step {s:Kernel×List Int} (h:Ok s.1) (c:Call):Ok (playStep s c).1:=by
  unfold playStep;split
  · rename_i he;exact h.callK c he
  · exact h
theorem Ok.play:∀ (cs:List Call) {s:Kernel×List Int},Ok s.1→Ok (cs.foldl playStep s).1
  | [],_,h=>h
  | c :: cs,_,h=>Ok.play cs (h.step c)
end Kx
namespace Kx
/-- a call of the pager -/
def makeK (k:Kernel) (kind a b c:Int):Out:=callK k ⟨kind,0,a,b,c,sA⟩
def swapFree (s:List (List Int)):Option Nat:=s.findIdx? fun ws=>ws.isEmpty
def swapPut (s:List (List Int)) (ws:List Int):List (List Int)×Int×Bool:=
  if !swapOk s||!wordsOk ws then ([],0,false) else match swapFree s with
    | none=>([],0,false)
    | some i=>(s.set i ws,i,true)
def setPage (l:List Page) (n:Nat) (x:Page):List Page:=l.set n x
/-- the hand goes on -/
def pass (p:Pager):Pager:={ p with hand:=(p.hand+1) % 16 }
def Page.mark (x:Page) (u:Bool):Page:=⟨x.wh,x.at_,u⟩
def unuse (p:Pager):Pager:={ p with hand:=(p.hand+1) % 16,pages:=setPage p.pages p.hand.toNat ((pageAt p.pages p.hand.toNat).mark false) }
def victim:Nat→Pager→Pager×Int
  | 0,p=>(p,-1)
  | i+1,p =>
    if (pageAt p.pages p.hand.toNat).wh=1∧(pageAt p.pages p.hand.toNat).used=false then (pass p,p.hand)
    else victim i (unuse p)
def outK (p:Pager) (n:Nat):Kernel:=
  (makeK (makeK p.k 6 (p.low.getD (n / 4) 0) ((n % 4:Nat):Int) 0).1 2 (pageAt p.pages n).at_ 0 0).1
def outP (p:Pager) (n:Nat):Pager:=
  let s:=swapPut p.swap (row p.k.mem (pageAt p.pages n).at_.toNat)
  { p with swap:=s.1,k:=outK p n,pages:=setPage p.pages n ⟨2,s.2.1,false⟩ }
def pokes (k:Kernel) (f:Int) (ws:List Int):Nat→Kernel
  | 0=>k
  | i+1=>(makeK (pokes k f ws i) 3 f i (ws.getD i 0)).1
def inP (p:Pager) (n:Nat):Pager×Bool:=
  let r:=makeK p.k 1 0 0 0
  if r.2.2≠0 then (p,false)
  else
    let x:=pageAt p.pages n
    let k1:=if x.wh=2 then pokes r.1 r.2.1 (row p.swap x.at_.toNat) 4 else r.1
    ({ p with
        swap:=if x.wh=2 then p.swap.set x.at_.toNat [] else p.swap
        k:=(makeK k1 6 (p.low.getD (n / 4) 0) ((n % 4:Nat):Int) (put r.2.1.toNat true)).1
        pages:=setPage p.pages n ⟨1,r.2.1,true⟩ },true)
def needOut (p:Pager):Bool:=decide (p.limit≤(countP p 1:Int))||freeN p.k.infos==0
def touch (p:Pager) (n:Nat):Pager×Bool:=
  if (pageAt p.pages n).wh=1 then ({ p with pages:=setPage p.pages n ((pageAt p.pages n).mark true) },true)
  else if needOut p then
    if (victim 32 p).2<0 then (p,false) else inP (outP (victim 32 p).1 (victim 32 p).2.toNat) n
  else inP p n
def pagerTouch (p:Pager) (n:Int):Pager×Bool:=
  if !pagerOk p||!inR n 0 15 then (Pager.zero,false) else if (touch p n.toNat).2 then touch p n.toNat else (p,false)
def pagerLoad (p:Pager) (ad:Int):Pager×Int×Bool:=
  if !pagerOk p||!inR ad 0 63 then (Pager.zero,0,false)
  else let r:=pagerTouch p (ad / 4)
    if !r.2 then (r.1,0,false) else ({ r.1 with k:=(makeK r.1.k 10 ad 0 0).1 },(makeK r.1.k 10 ad 0 0).2.1,true)
def pagerStore (p:Pager) (ad w:Int):Pager×Bool:=
  if !pagerOk p||!inR ad 0 63||!inR w 0 9999 then (Pager.zero,false)
  else let r:=pagerTouch p (ad / 4)
    if !r.2 then r else ({ r.1 with k:=(makeK r.1.k 11 ad w 0).1 },true)
def otherP (p:Pager) (c:Call):Pager×Int:=({ p with k:=(callK p.k c).1 },(callK p.k c).2.2)
def kernelNew (rights:List (List Str)):Kernel:=⟨List.replicate 12 [0,0,0,0],List.replicate 12 Info.zero,rights.map fun r=>⟨r,-1⟩,[]⟩
def sB:Str:=⟨#[98]⟩
def sC:Str:=⟨#[99]⟩
def newLow:Nat→Kernel×List Int→Kernel×List Int
  | 0,s=>s
  | i+1,s =>
    let t:=newLow i s
    let r:=makeK t.1 1 0 0 0
    ((makeK (makeK r.1 4 r.2.1 2 0).1 6 0 (i:Int) (put r.2.1.toNat true)).1,t.2 ++ [r.2.1])
def newTop:Kernel×List Int:=
  let r:=makeK (kernelNew [[sA],[sB],[sC]]) 1 0 0 0
  ((makeK (makeK r.1 4 r.2.1 3 0).1 7 r.2.1 0 0).1,[])
def pagerNew (limit:Int):Pager×Bool:=
  if !inR limit 1 6 then (Pager.zero,false)
  else ({ k:=(newLow 4 newTop).1,swap:=List.replicate 16 [],low:=(newLow 4 newTop).2,pages:=List.replicate 16 Page.zero,hand:=0,limit:=limit },true)
theorem new_top:(makeK (kernelNew [[sA],[sB],[sC]]) 1 0 0 0).2.1=0:=by decide +kernel
theorem new_ok (limit:Int) (h:inR limit 1 6=true):pagerOk (pagerNew limit).1=true:=by
  have h1:pagerOk (pagerNew 6).1=true:=by decide +kernel
  have h2:=inR_true.1 h;unfold pagerNew at h1 ⊢;rw [h];simp only [show inR 6 1 6=true from rfl,Bool.not_true,Bool.false_eq_true,if_false] at h1 ⊢;unfold pagerOk at h1 ⊢;simp only [Bool.and_eq_true,decide_eq_true_eq] at h1 ⊢;refine ⟨⟨⟨h1.1.1.1,h1.1.1.2⟩,h⟩,?_⟩;show ((0:Nat):Int)≤limit;omega
end Kx
namespace Kx
/-- what a call does to a frame that its environment has no right for -/
def Spares (k k':Kernel) (g:Nat):Prop:=
  row k'.mem g=row k.mem g∧(inf k'.infos g).kind=(inf k.infos g).kind∧(inf k'.infos g).guard=(inf k.infos g).guard∧(inf k'.infos g).refs≤(inf k.infos g).refs
theorem Spares.refl (k:Kernel) (g:Nat):Spares k k g:=⟨rfl,rfl,rfl,Int.le_refl _⟩
theorem Spares.of {k k':Kernel} {g:Nat} (h1:row k'.mem g=row k.mem g) (h2:inf k'.infos g=inf k.infos g):Spares k k' g:=⟨h1,by rw [h2],by rw [h2],by rw [h2];exact Int.le_refl _⟩
theorem pinned_cases (k:Kernel) (c:Call) (h0:(pinned k c).2=0) :
    ∃ kd d,inR c.a 0 11=true∧(pinned k c).1=addRefs (setKind k.infos c.a.toNat kd) (namedW (row k.mem c.a.toNat)) d∧((c.kind=4∧kd=c.b∧d=1∧rowOk k.mem k.infos c.a.toNat c.b (envAt k.envs c.env.toNat).rights=true)∨(d=-1∧kd=1∧isTab (inf k.infos c.a.toNat).kind=true)):=by
  obtain ⟨l',hp⟩:∃ l',Kx.pinned k c=(l',0):=⟨_,Prod.ext rfl h0⟩;rw [hp];unfold Kx.pinned at hp;split at hp
  · rename_i h4
    obtain ⟨h0,h12,_,_,hkd,hk1,hr0,hro,hok,rfl⟩:=pin_done hp;exact ⟨c.b,1,inR_true.2 ⟨h0,by omega⟩,rfl,.inl ⟨h4,rfl,rfl,hro⟩⟩
  · obtain ⟨h0,h12,hkd,hr0,hok,rfl⟩:=unpin_done hp;exact ⟨1,-1,inR_true.2 ⟨h0,by omega⟩,rfl,.inr ⟨rfl,rfl,hkd⟩⟩
section
variable {k:Kernel} (h:Ok k) {c:Call} {g:Nat} (he:inR c.env 0 2=true) (hk:(inf k.infos g).kind≠0) (hm:mayE k c.env (inf k.infos g).guard=false)
include h hk in
theorem spares_take:Spares k (take k c).1 g:=by
  unfold Kx.take;split
  · exact .refl k g
  split
  · exact .refl k g
  split
  · exact .refl k g
  rename_i f hf
  obtain ⟨hf1,hf2⟩:=free_some hf;have hne:g≠f:=fun e=>hk (e ▸ hf2)
  refine .of ?_ ?_
  · show row (k.mem.set f _) g=_
    rw [row_set (by rw [h.m12,←h.i12];exact hf1),if_neg hne]
  · show inf (k.infos.set f _) g=_
    rw [inf_set hf1,if_neg hne]
include hm in
theorem ne_of_may (hma:mayE k c.env (inf k.infos c.a.toNat).guard=true):g≠c.a.toNat:=fun e=>by subst e;rw [hm] at hma;cases hma
include h hm in
theorem spares_give:Spares k (give k c).1 g:=by
  unfold Kx.give;split
  · exact .refl k g
  rename_i hc
  split
  · exact .refl k g
  obtain ⟨h0,h12,hk0,hma,hk1,_⟩:=frameCode_done (Classical.not_not.1 hc);exact .of rfl (by show inf (k.infos.set _ _) g=_;rw [inf_set (by rw [h.i12];exact h12),if_neg (ne_of_may hm hma)])
include h hm in
theorem spares_poke:Spares k (poke k c).1 g:=by
  unfold Kx.poke;split
  · exact .refl k g
  rename_i hc
  split
  · exact .refl k g
  obtain ⟨h0,h12,hk0,hma,hk1,_⟩:=frameCode_done (Classical.not_not.1 hc);exact .of (by show row (setWord _ _ _ _) g=_;rw [setWord_row (by rw [h.m12];exact h12),if_neg (ne_of_may hm hma)]) rfl
include h hm in
theorem spares_pin (he:inR c.env 0 2=true):Spares k (pinK k c).1 g:=by
  unfold Kx.pinK;split
  · exact .refl k g
  rename_i h1
  split
  · exact .refl k g
  rename_i h2
  split
  · exact .refl k g
  rename_i h3
  split
  · exact .refl k g
  rename_i h4
  simp only [Bool.not_eq_true',Bool.or_eq_true,not_or,Bool.not_eq_false,Bool.and_eq_true,not_and,beq_iff_eq] at h1;have h5:(pinned k c).2=0:=by rcases pinned_codes h c h1.1.1 he h1.2 with h5 | h5 | h5 <;> simp_all
  have hma:mayE k c.env (inf k.infos c.a.toNat).guard=true:=by simpa using h2
  obtain ⟨kd,d,ha,hl,hcase⟩:=pinned_cases k c h5;have hne:=ne_of_may hm hma;rw [inR_true] at ha;have hin:=pinned_inf (g:=g) (kd:=kd) (d:=d) (f:=c.a.toNat) (fs:=namedW (row k.mem c.a.toNat)) h.i12 (by omega) (fun x hx=>namedW_lt hx);refine ⟨rfl,?_,?_,?_⟩
  · show (inf (pinned k c).1 g).kind=_
    rw [hl,hin];simp [hne]
  · show (inf (pinned k c).1 g).guard=_
    rw [hl,hin]
  · show (inf (pinned k c).1 g).refs≤_
    rw [hl,hin];simp only;rcases hcase with ⟨_,rfl,rfl,hro⟩ | ⟨rfl,rfl,_⟩
    · have:(namedW (row k.mem c.a.toNat)).count g=0:=by
        refine List.count_eq_zero.2 fun hg=>?_
        obtain ⟨w,hw,b,hen⟩:=mem_namedW.1 hg;rcases rowOk_iff.1 hro w hw with h0 | ⟨g',b',he',_,_,hmay⟩
        · subst h0;rw [entry_zero] at hen;cases hen
        · rw [hen] at he';simp only [Option.some.injEq,Prod.mk.injEq] at he';obtain ⟨rfl,rfl⟩:=he';unfold mayE at hm;rw [hm] at hmay;cases hmay
      rw [this];simp
    · omega
theorem setDeny_false {k:Kernel} {c:Call} (hd:setDeny k c=false) {f:Nat} {b:Bool} (hen:entry c.c=some (f,b)):mayE k c.env (inf k.infos f).guard=true:=by
  unfold setDeny at hd;rw [hen] at hd;simpa using hd
include h hm in
theorem spares_set:Spares k (setK k c).1 g:=by
  unfold Kx.setK;split
  · exact .refl k g
  rename_i hc
  split
  · exact .refl k g
  split
  · exact .refl k g
  split
  · exact .refl k g
  rename_i hd
  obtain ⟨h0,h12,hk0,hma,_,hk⟩:=frameCode_done (Classical.not_not.1 hc);have hne:=ne_of_may hm hma;have hin:inf (setRefsO (setRefsO k.infos (word k.mem c.a.toNat c.b.toNat) (-1)) c.c 1) g={ inf k.infos g with refs:=(inf k.infos g).refs+-1*(nm (word k.mem c.a.toNat c.b.toNat) g:Int)+1*(nm c.c g:Int) }:=by
    rw [setRefsO_inf (by rw [setRefsO_length,h.i12]),setRefsO_inf h.i12]
  have hn:nm c.c g=0:=by
    rcases Nat.eq_zero_or_pos (nm c.c g) with h0 | h0
    · exact h0
    · have h2:nm c.c g=1:=by unfold nm at h0 ⊢;split at h0 <;> simp_all
      obtain ⟨b',hen⟩:=nm_one.1 h2;have:=setDeny_false (by simpa using hd) hen;rw [hm] at this;cases this
  refine ⟨?_,?_,?_,?_⟩
  · show row (setWord _ _ _ _) g=_;rw [setWord_row (by rw [h.m12];exact h12),if_neg hne]
  · show (inf (setRefsO (setRefsO _ _ _) _ _) g).kind=_;rw [hin]
  · show (inf (setRefsO (setRefsO _ _ _) _ _) g).guard=_;rw [hin]
  · show (inf (setRefsO (setRefsO _ _ _) _ _) g).refs≤_;rw [hin,hn];simp only;omega
theorem setRefs_noref {l:List Info} {f g:Nat} {d:Int} (hf:f<l.length) (hd:f=g→d≤0):(inf (setRefs l f d) g).kind=(inf l g).kind∧(inf (setRefs l f d) g).guard=(inf l g).guard∧(inf (setRefs l f d) g).refs≤(inf l g).refs:=by
  rw [setRefs_inf hf];split
  · rename_i q;subst q;have:=hd rfl;exact ⟨rfl,rfl,by simp only;omega⟩
  · exact ⟨rfl,rfl,Int.le_refl _⟩
include h hm in
theorem spares_root (he:inR c.env 0 2=true):Spares k (rootK k c).1 g:=by
  unfold Kx.rootK;split
  · exact .refl k g
  rename_i h1
  split
  · exact .refl k g
  rename_i h2
  rw [inR_true] at he;have he3:c.env.toNat<3:=by omega
  simp only [Bool.not_eq_true',Bool.not_eq_false,List.all_eq_true,allowed] at h2;have ha:c.a=-1∨(0≤c.a∧c.a≤11):=by
    by_cases h0:c.a=-1
    · exact .inl h0
    · right
      simp only [h0,ne_eq,not_false_eq_true,true_and,Bool.or_eq_true,Bool.not_eq_true',bne_iff_ne,not_or,Bool.not_eq_false,Classical.not_not,inR_true] at h1;exact h1.1
  have hro:=h.root _ he3;generalize (envAt k.envs c.env.toNat).root=old at hro;have hl1:∀ l1,l1=(if 0≤old then setRefs k.infos old.toNat (-1) else k.infos)→l1.length=12∧(inf l1 g).kind=(inf k.infos g).kind∧(inf l1 g).guard=(inf k.infos g).guard∧(inf l1 g).refs≤(inf k.infos g).refs:=by
    rintro l1 rfl;split
    · have:=setRefs_noref (l:=k.infos) (f:=old.toNat) (g:=g) (d:=-1) (by rw [h.i12];omega) (by omega)
      exact ⟨by rw [setRefs_length,h.i12],this⟩
    · exact ⟨h.i12,rfl,rfl,Int.le_refl _⟩
  simp only
  generalize (if 0≤old then setRefs k.infos old.toNat (-1) else k.infos)=l1 at hl1;obtain ⟨q1,q2,q3,q4⟩:=hl1 l1 rfl
  by_cases h0:0≤c.a
  · simp only [if_pos h0];have:=setRefs_noref (l:=l1) (f:=c.a.toNat) (g:=g) (d:=1) (by rw [q1];omega) (fun e=>by
      have hma:=h2 c.a.toNat (mem_reach.2 ⟨h0,by omega,.inl rfl⟩);rw [e] at hma;unfold mayE at hm;rw [hm] at hma;cases hma)
    exact ⟨rfl,this.1.trans q2,this.2.1.trans q3,Int.le_trans this.2.2 q4⟩
  · simp only [if_neg h0];exact ⟨rfl,q2,q3,q4⟩
theorem spares_rights:Spares k (rightsK k c).1 g:=by
  unfold Kx.rightsK;split
  · exact .refl k g
  split
  · exact .refl k g
  split
  · split
    · exact .of rfl rfl
    · exact .refl k g
  · split
    · exact .refl k g
    · exact .of rfl rfl
/-- an access writes at most into one frame with data that its environment reaches -/
theorem access_cases {k:Kernel} (h:Ok k) {c:Call} (he:inR c.env 0 2=true):(access k c).1=k∨∃ ca,(access k c).1={ k with cache:=ca } ∨
    ∃ f a w,f<12∧(inf k.infos f).kind=1∧f ∈ reach k.mem (envAt k.envs c.env.toNat).root∧(access k c).1={ k with cache:=ca,mem:=setWord k.mem f a w }:=by
  unfold Kx.access;split
  · exact .inl rfl
  rename_i h1
  simp only [Bool.not_eq_true',Bool.or_eq_true,not_or,Bool.not_eq_false,decide_eq_true_eq,Bool.and_eq_true,beq_iff_eq,not_and] at h1;have hp:=h.place (env:=c.env) h1.1.1;split;rename_i f w code hpl;rw [hpl] at hp;split
  · exact .inl rfl
  rename_i hc
  split
  · exact .inl rfl
  simp only [ne_eq,Classical.not_not] at hc;subst hc;have ha:=inR_true.1 h1.1.1;have he':=inR_true.1 he;obtain ⟨fr,hf1,hf2,hf12,hfk,hfr⟩:=h.walked (e:=c.env.toNat) (by omega) (by omega) hp.1.symm;have hfw:=hp.2 rfl;simp only [Prod.mk.injEq] at hfw;right;refine ⟨accCache k c f w,?_⟩;split
  · right
    have:f.toNat=fr:=by rw [hfw.1,hf1];rfl
    exact ⟨fr,(c.a % 4).toNat,c.b,hf12,hfk,hfr,by rw [this]⟩
  · exact .inl rfl
include h hm in
theorem spares_access (he:inR c.env 0 2=true):Spares k (access k c).1 g:=by
  rcases access_cases h he with e | ⟨ca,e | ⟨f,a,w,hf,_,hr,e⟩⟩ <;> rw [e]
  · exact .refl k g
  · exact .of rfl rfl
  · refine .of ?_ rfl;show row (setWord _ _ _ _) g=_;rw [inR_true] at he;have hne:g≠f:=fun e=>by
      subst e;have hma:=h.all c.env.toNat (by omega) g hr;unfold mayE at hm;rw [hm] at hma;cases hma
    rw [setWord_row (by rw [h.m12];exact hf),if_neg hne]
include h hk hm he in
/-- a frame that an environment has no right for is spared by its calls -/
theorem spares:Spares k (callK k c).1 g:=by
  unfold Kx.callK;split
  · exact .refl k g
  unfold Kx.doK;split
  · exact spares_take h hk
  split
  · exact spares_give h hm
  split
  · exact spares_poke h hm
  split
  · exact spares_pin h hm he
  split
  · exact spares_set h hm
  split
  · exact spares_root h hm he
  split
  · exact spares_rights
  split
  · exact spares_access h hm he
  · exact .refl k g
end
/-- the tables of other environments stay; rights change by grants and revokes alone -/
theorem others_root {k:Kernel} (h3:k.envs.length=3) {c:Call} (he:inR c.env 0 2=true) {e:Nat} (hne:(e:Int)≠c.env):(envAt (callK k c).1.envs e).root=(envAt k.envs e).root:=by
  rw [inR_true] at he;have hrt:∀ r,(envAt (setRoot k.envs c.env.toNat r) e).root=(envAt k.envs e).root:=fun r=>by
    unfold setRoot;rw [envAt_set (by omega),if_neg (by omega)]
  have hrg:∀ (a:Nat) r,a<3→(envAt (setRights k.envs a r) e).root=(envAt k.envs e).root:=fun a r ha=>by
    unfold setRights;rw [envAt_set (by omega)];split
    · rename_i q;rw [q]
    · rfl
  unfold Kx.callK;split
  · rfl
  unfold Kx.doK;split
  · unfold Kx.take;repeat' split
    all_goals rfl
  split
  · unfold Kx.give;repeat' split
    all_goals rfl
  split
  · unfold Kx.poke;repeat' split
    all_goals rfl
  split
  · unfold Kx.pinK;repeat' split
    all_goals rfl
  split
  · unfold Kx.setK;repeat' split
    all_goals rfl
  split
  · unfold Kx.rootK;split
    · rfl
    split
    · rfl
    · exact hrt _
  split
  · unfold Kx.rightsK;split
    · rfl
    rename_i h1
    simp only [Bool.not_eq_true',Bool.or_eq_true,not_or,Bool.not_eq_false,inR_true] at h1;split
    · rfl
    split
    · split
      · exact hrg _ _ (by omega)
      · rfl
    · split
      · rfl
      · exact hrg _ _ (by omega)
  split
  · unfold Kx.access;split
    · rfl
    split
    repeat' split
    all_goals rfl
  · rfl
theorem others_rights {k:Kernel} (h3:k.envs.length=3) {c:Call} (he:inR c.env 0 2=true) (h8:c.kind≠8) (h9:c.kind≠9) {e:Nat}:(envAt (callK k c).1.envs e).rights=(envAt k.envs e).rights:=by
  rw [inR_true] at he;have hrt:∀ r,(envAt (setRoot k.envs c.env.toNat r) e).rights=(envAt k.envs e).rights:=fun r=>by
    unfold setRoot;rw [envAt_set (by omega)];split
    · rename_i q;rw [q]
    · rfl
  unfold Kx.callK;split
  · rfl
  unfold Kx.doK;split
  · unfold Kx.take;repeat' split
    all_goals rfl
  split
  · unfold Kx.give;repeat' split
    all_goals rfl
  split
  · unfold Kx.poke;repeat' split
    all_goals rfl
  split
  · unfold Kx.pinK;repeat' split
    all_goals rfl
  split
  · unfold Kx.setK;repeat' split
    all_goals rfl
  split
  · unfold Kx.rootK;split
    · rfl
    split
    · rfl
    · exact hrt _
  split
  · rename_i h;omega
  split
  · unfold Kx.access;split
    · rfl
    split
    repeat' split
    all_goals rfl
  · rfl
end Kx
namespace Kx
/-- what a pager owns of its kernel: tables of its own, each used once -/
structure Low (k:Kernel) (low:List Int):Prop where
  ok:Ok k
  me:may (envAt k.envs 0).rights sA=true
  notA:∀ e,1≤e→e<3→may (envAt k.envs e).rights sA=false
  r0:0≤(envAt k.envs 0).root
  rg:(inf k.infos (envAt k.envs 0).root.toNat).guard=sA
  r1:(inf k.infos (envAt k.envs 0).root.toNat).refs=1
  l4:low.length=4
  lr:∀ i,i<4→0≤low.getD i 0∧low.getD i 0≤11
  lw:∀ i,i<4→word k.mem (envAt k.envs 0).root.toNat i=put (low.getD i 0).toNat true
  lg:∀ i,i<4→(inf k.infos (low.getD i 0).toNat).guard=sA
  l1:∀ i,i<4→(inf k.infos (low.getD i 0).toNat).refs=1
/-- the word of a page's table -/
def pw (k:Kernel) (low:List Int) (n:Nat):Int:=word k.mem (low.getD (n / 4) 0).toNat (n % 4)
/-- a page is where it says -/
def At (k:Kernel) (low:List Int) (swap:List (List Int)) (n:Nat) (x:Page):Prop:=
  (x.wh=0∧x=Page.zero∧pw k low n=0) ∨
  (x.wh=1∧0≤x.at_∧x.at_≤11∧pw k low n=put x.at_.toNat true∧(inf k.infos x.at_.toNat).guard=sA∧(inf k.infos x.at_.toNat).refs=1) ∨
  (x.wh=2∧0≤x.at_∧x.at_≤15∧(row swap x.at_.toNat).isEmpty=false∧x.used=false∧pw k low n=0)
structure POk (p:Pager):Prop where
  low:Low p.k p.low
  swap:swapOk p.swap=true
  p16:p.pages.length=16
  slot:∀ i,i<16→slotN p i=if (row p.swap i).isEmpty then 0 else 1
  page:∀ n,n<16→At p.k p.low p.swap n (pageAt p.pages n)
  hand:0≤p.hand∧p.hand≤15
  lim:1≤p.limit∧p.limit≤6
  cnt:(countP p 1:Int)≤p.limit
theorem at_iff {p:Pager} {n:Nat}:pageOk p n=true↔At p.k p.low p.swap n (pageAt p.pages n):=by
  unfold pageOk At pw;simp only;generalize pageAt p.pages n=x
  by_cases h0:x.wh=0
  · rw [if_pos h0];simp only [h0,Bool.and_eq_true,beq_iff_eq,true_and];constructor
    · exact fun h=>.inl h
    · rintro (h | ⟨h,_⟩ | ⟨h,_⟩)
      · exact h
      · omega
      · omega
  · rw [if_neg h0]
    by_cases h1:x.wh=1
    · rw [if_pos h1];simp only [h1,Bool.and_eq_true,beq_iff_eq,true_and,inR_true,decide_eq_true_eq];constructor
      · rintro ⟨⟨⟨h1,h2⟩,h3⟩,h4⟩;exact .inr (.inl ⟨h1.1,h1.2,h2,h3,h4⟩)
      · rintro (⟨h,_⟩ | ⟨h1,h2,h3,h4,h5⟩ | ⟨h,_⟩)
        · omega
        · exact ⟨⟨⟨⟨h1,h2⟩,h3⟩,h4⟩,h5⟩
        · omega
    · rw [if_neg h1]
      by_cases h2:x.wh=2
      · rw [if_pos h2];simp only [h2,Bool.and_eq_true,beq_iff_eq,true_and,inR_true,Bool.not_eq_true'];constructor
        · rintro ⟨⟨⟨h1,h2⟩,h3⟩,h4⟩;exact .inr (.inr ⟨h1.1,h1.2,h2,h3,h4⟩)
        · rintro (⟨h,_⟩ | ⟨h,_⟩ | ⟨h1,h2,h3,h4,h5⟩)
          · omega
          · omega
          · exact ⟨⟨⟨⟨h1,h2⟩,h3⟩,h4⟩,h5⟩
      · rw [if_neg h2];simp [h0,h1,h2]
theorem swapOk_iff {s:List (List Int)}:swapOk s=true↔s.length=16∧∀ i,i<16→(row s i).isEmpty=true∨wordsOk (row s i)=true:=by
  unfold swapOk;simp only [Bool.and_eq_true,List.all_eq_true,Bool.or_eq_true,beq_iff_eq];constructor
  · rintro ⟨h,hl⟩;exact ⟨hl,fun i hi=>h _ (row_mem (by omega))⟩
  · rintro ⟨hl,h⟩;refine ⟨fun x hx=>?_,hl⟩
    obtain ⟨i,hi,rfl⟩:=mem_row hx;exact h i (by omega)
theorem pok_iff {p:Pager}:pagerOk p=true↔POk p:=by
  unfold pagerOk slotsOk tablesP lowOk alone;simp only [Bool.and_eq_true,List.all_eq_true,beq_iff_eq,List.mem_range,decide_eq_true_eq,Bool.not_eq_true',decide_eq_false_iff_not,inR_true,at_iff,ok_iff];constructor
  · rintro ⟨⟨⟨⟨⟨⟨⟨⟨⟨h1,h2⟩,h3,h4⟩,⟨⟨⟨h5,h6⟩,h7⟩,h8⟩,h9⟩,h10⟩,h11⟩,h12⟩,h13⟩,h14⟩,h15⟩;have hs:=(swapOk_iff.1 h2).1;refine ⟨⟨h1,h4,fun e he1 he2=>?_,by omega,h7,h8,h6,fun i hi=>(h9 i hi).1.1.1,fun i hi=>(h9 i hi).1.1.2,fun i hi=>(h9 i hi).1.2,fun i hi=>(h9 i hi).2⟩,h2,h10,fun i hi=>h11 i (by omega),h12,h13,h14,h15⟩
    refine h3 _ ?_;have he3:=h1.e3;have:envAt p.k.envs e=(p.k.envs.drop 1)[e - 1]'(by simp;omega):=by
      simp only [List.getElem_drop,envAt,List.getD_eq_getElem?_getD];rw [List.getElem?_eq_getElem (by omega)];simp only [Option.getD_some];congr 1;omega
    rw [this];exact List.getElem_mem _
  · rintro ⟨hl,h2,h10,h11,h12,h13,h14,h15⟩;have hs:=(swapOk_iff.1 h2).1;refine ⟨⟨⟨⟨⟨⟨⟨⟨⟨hl.ok,h2⟩,fun x hx=>?_,hl.me⟩,⟨⟨⟨by have:=hl.r0;omega,hl.l4⟩,hl.rg⟩,hl.r1⟩,fun i hi=>⟨⟨⟨hl.lr i hi,hl.lw i hi⟩,hl.lg i hi⟩,hl.l1 i hi⟩⟩,h10⟩,fun i hi=>h11 i (by omega)⟩,h12⟩,h13⟩,h14⟩,h15⟩
    obtain ⟨i,hi,rfl⟩:=List.getElem_of_mem hx;have he3:=hl.ok.e3;have hi':i<2:=by simp at hi;omega
    have:(p.k.envs.drop 1)[i]=envAt p.k.envs (i+1):=by
      simp only [List.getElem_drop,envAt,List.getD_eq_getElem?_getD];rw [List.getElem?_eq_getElem (by omega)];simp only [Option.getD_some];congr 1;omega
    rw [this];exact hl.notA _ (by omega) (by omega)
/-- two words of tables do not name one frame that is used once -/
theorem Ok.once {k:Kernel} (h:Ok k) {t t' i j g:Nat} {b b':Bool} (ht:t<12) (hk:isTab (inf k.infos t).kind=true) (ht':t'<12) (hk':isTab (inf k.infos t').kind=true) (hi:i<4)
    (hw:entry (word k.mem t i)=some (g,b)) (hw':entry (word k.mem t' j)=some (g,b')) (h1:(inf k.infos g).refs=1):t=t'∧i=j:=by
  by_cases heq:t=t'∧i=j
  · exact heq
  exfalso
  have hs:=h.set (a:=t) (b:=i) (c:=0) ht hi hk (.inl rfl) (fun u _ f hf=>by
    obtain ⟨f',b,h1,_⟩:=mem_behind.1 hf;rw [entry_zero] at h1;cases h1)
  obtain ⟨l',hl'⟩:∃ l',l'=setRefsO (setRefsO k.infos (word k.mem t i) (-1)) 0 1:=⟨_,rfl⟩;rw [←hl'] at hs;have hin:∀ x,inf l' x={ inf k.infos x with refs:=(inf k.infos x).refs+-1*(nm (word k.mem t i) x:Int)+1*(nm 0 x:Int) }:=fun x=>by
    rw [hl',setRefsO_inf (by rw [setRefsO_length,h.i12]),setRefsO_inf h.i12]
  have hn1:nm (word k.mem t i) g=1:=nm_one.2 ⟨b,hw⟩;have hn0:nm 0 g=0:=rfl;have hp:1≤(inf l' g).refs:=hs.pos_of_named (t:=t') (g:=g) ht' (by show isTab (inf l' t').kind=true;rw [hin];exact hk') (by
    refine entry_word (i:=j) (b:=b') ?_;show entry (word (setWord k.mem t i 0) t' j)=_;unfold word;rw [setWord_row (by rw [h.m12];exact ht)];split
    · rename_i q
      subst q;have hij:j≠i:=fun e=>heq ⟨rfl,e.symm⟩
      rw [getD_set (by rw [h.m4 _ ht];exact hi),if_neg hij];exact hw'
    · exact hw')
  rw [hin,hn1,hn0,h1] at hp;simp at hp
/-! ### the tables of a pager -/
section
variable {k:Kernel} {low:List Int} (h:Low k low)
include h
theorem Low.top:(inf k.infos (envAt k.envs 0).root.toNat).kind=3∧(envAt k.envs 0).root.toNat<12:=h.ok.top (e:=0) (by omega) h.r0
theorem Low.named {i:Nat} (hi:i<4):(low.getD i 0).toNat ∈ namedW (row k.mem (envAt k.envs 0).root.toNat):=by
  have hw:=h.lw i hi;have hr:=h.lr i hi;exact entry_word (i:=i) (b:=true) (by rw [hw];exact entry_put (by omega) true)
theorem Low.kind {i:Nat} (hi:i<4):(inf k.infos (low.getD i 0).toNat).kind=2∧(low.getD i 0).toNat<12:=by
  have:=h.ok.names h.top.2 (isTab_iff.2 (.inr h.top.1)) (h.named hi)
  have:=h.top.1
  exact ⟨by omega,by omega⟩
theorem Low.reach {i:Nat} (hi:i<4):(low.getD i 0).toNat ∈ reach k.mem (envAt k.envs 0).root:=
  mem_reach.2 ⟨h.r0,(h.kind hi).2,.inr (.inl (h.named hi))⟩
/-- different tables -/
theorem Low.inj {i j:Nat} (hi:i<4) (hj:j<4) (e:(low.getD i 0).toNat=(low.getD j 0).toNat):i=j:=
  (Ok.once h.ok h.top.2 (isTab_iff.2 (.inr h.top.1)) h.top.2 (isTab_iff.2 (.inr h.top.1)) hi (by rw [h.lw i hi];exact entry_put (h.kind hi).2 true)
    (by rw [h.lw j hj,←e];exact entry_put (h.kind hi).2 true) (h.l1 i hi)).2
/-- different pages have different places in the tables -/
theorem Low.page_inj {n v:Nat} (hn:n<16) (hv:v<16) (e1:(low.getD (n / 4) 0).toNat=(low.getD (v / 4) 0).toNat) (e2:n % 4=v % 4):n=v:=by
  have:=h.inj (i:=n / 4) (j:=v / 4) (by omega) (by omega) e1
  omega
theorem Low.tabpage {n:Nat} (hn:n<16):isTab (inf k.infos (low.getD (n / 4) 0).toNat).kind=true∧(low.getD (n / 4) 0).toNat<12:=by
  have:=h.kind (i:=n / 4) (by omega)
  exact ⟨isTab_iff.2 (.inl this.1),this.2⟩
/-- a frame that a page's word names has data -/
theorem Low.data {n f:Nat} {b:Bool} (hn:n<16) (hw:entry (pw k low n)=some (f,b)):(inf k.infos f).kind=1∧f<12∧1≤(inf k.infos f).refs:=by
  have ht:=h.tabpage hn;have hk:=h.kind (i:=n / 4) (by omega);have h1:=h.ok.names ht.2 ht.1 (entry_word hw);exact ⟨by omega,h1.1,h.ok.pos_of_named ht.2 ht.1 (entry_word hw)⟩
/-- the kernel changes, but not what the pager owns -/
theorem Low.keep {k':Kernel} (hk:Ok k') (hrt:(envAt k'.envs 0).root=(envAt k.envs 0).root) (hme:may (envAt k'.envs 0).rights sA=true) (hna:∀ e,1≤e→e<3→may (envAt k'.envs e).rights sA=false)
    (hs:∀ g,(g=(envAt k.envs 0).root.toNat∨∃ i,i<4∧g=(low.getD i 0).toNat)→(inf k'.infos g).guard=(inf k.infos g).guard∧((inf k'.infos g).refs=(inf k.infos g).refs))
    (hr:row k'.mem (envAt k.envs 0).root.toNat=row k.mem (envAt k.envs 0).root.toNat):Low k' low:=by
  have h0:=hs _ (.inl rfl);have hi:∀ i,i<4→_:=fun i hi=>hs _ (.inr ⟨i,hi,rfl⟩)
  refine ⟨hk,hme,hna,by rw [hrt];exact h.r0,by rw [hrt,h0.1];exact h.rg,by rw [hrt,h0.2];exact h.r1,h.l4,h.lr,fun i q=>?_,fun i q=>by rw [(hi i q).1];exact h.lg i q,fun i q=>by rw [(hi i q).2];exact h.l1 i q⟩
  rw [hrt];unfold word;rw [hr];exact h.lw i q
end
theorem pre_trans {a b c:Str} (h:pre a b=true) (h':pre b c=true):pre a c=true:=by
  unfold pre at *;rw [List.isPrefixOf_iff_prefix] at *;exact h.trans h'
theorem may_trans {l:List Str} {a b:Str} (h:may l a=true) (h':pre a b=true):may l b=true:=by
  unfold may at *;rw [List.any_eq_true] at *;obtain ⟨x,hx,hp⟩:=h;exact ⟨x,hx,pre_trans hp h'⟩
/-! ### calls of others -/
theorem rights_other {k:Kernel} (h:Ok k) {c:Call} (he:inR c.env 0 2=true) (hn:mayE k c.env sA=false) (e:Nat):may (envAt (callK k c).1.envs e).rights sA=may (envAt k.envs e).rights sA:=by
  by_cases h89:c.kind≠8∧c.kind≠9
  · rw [others_rights h.e3 he h89.1 h89.2]
  have key:∀ name,mayE k c.env name=true→pre name sA=false:=fun name hm=>by
    cases hp:pre name sA
    · rfl
    · unfold mayE at hm hn;rw [may_trans hm hp] at hn;cases hn
  unfold callK;split
  · rfl
  have hd:doK k c=rightsK k c:=by
    unfold doK;rw [if_neg (by omega),if_neg (by omega),if_neg (by omega),if_neg (by omega),if_neg (by omega),if_neg (by omega),if_pos (by omega)]
  rw [hd];unfold rightsK;split
  · rfl
  rename_i h1
  simp only [Bool.not_eq_true',Bool.or_eq_true,not_or,Bool.not_eq_false,inR_true] at h1;split
  · rfl
  rename_i h2
  have hpre:=key c.name (by simpa using h2);have ha3:c.a.toNat<k.envs.length:=by rw [h.e3];omega
  have hsr:∀ r,may r sA=may (envAt k.envs c.a.toNat).rights sA→may (envAt (setRights k.envs c.a.toNat r) e).rights sA=may (envAt k.envs e).rights sA:=fun r hr=>by
    unfold setRights;rw [envAt_set ha3];split
    · rename_i q;rw [q];exact hr
    · rfl
  split
  · split
    · refine hsr _ ?_;rw [Bool.eq_iff_iff];constructor
      · intro hm;unfold may at hm ⊢;rw [List.any_eq_true] at hm ⊢;obtain ⟨x,hx,hp⟩:=hm;rcases mem_radd hx with hx | rfl
        · exact ⟨x,hx,hp⟩
        · rw [hpre] at hp;cases hp
      · exact may_sub fun x hx=>radd_sub hx
    · rfl
  · split
    · rfl
    · refine hsr _ ?_;rw [Bool.eq_iff_iff];constructor
      · exact may_sub fun x hx=>(List.mem_filter.1 hx).1
      · intro hm;unfold may at hm ⊢;rw [List.any_eq_true] at hm ⊢;obtain ⟨x,hx,hp⟩:=hm;refine ⟨x,List.mem_filter.2 ⟨hx,?_⟩,hp⟩
        cases hq:pre c.name x
        · rfl
        · rw [pre_trans hq hp] at hpre;cases hpre
/-- calls of environments without the pager's right leave it what it owns -/
theorem POk.other {p:Pager} (h:POk p) {c:Call} (he:inR c.env 1 2=true):POk (otherP p c).1:=by
  have he1:=inR_true.1 he;have he2:inR c.env 0 2=true:=inR_true.2 ⟨by omega,he1.2⟩;have hl:=h.low;have hn:mayE p.k c.env sA=false:=hl.notA c.env.toNat (by omega) (by omega);have hok:=hl.ok.callK c he2;have hsp:∀ g,1≤(inf p.k.infos g).kind→(inf p.k.infos g).guard=sA→Spares p.k (callK p.k c).1 g:=fun g h1 h2=>spares hl.ok he2 (by omega) (by rw [h2];exact hn)
  have hrt:(envAt (callK p.k c).1.envs 0).root=(envAt p.k.envs 0).root:=others_root hl.ok.e3 he2 (by omega);have hroot:=hsp (envAt p.k.envs 0).root.toNat (by rw [hl.top.1];omega) hl.rg;have hlow:∀ i,i<4→Spares p.k (callK p.k c).1 (p.low.getD i 0).toNat:=fun i hi=>hsp _ (by rw [(hl.kind hi).1];omega) (hl.lg i hi)
  have hk3:isTab (inf (callK p.k c).1.infos (envAt p.k.envs 0).root.toNat).kind=true:=by rw [hroot.2.1,hl.top.1];rfl
  have hk2:∀ i,i<4→isTab (inf (callK p.k c).1.infos (p.low.getD i 0).toNat).kind=true:=fun i hi=>by rw [(hlow i hi).2.1,(hl.kind hi).1];rfl
  have hlow':Low (callK p.k c).1 p.low:=by
    refine hl.keep hok hrt (by rw [rights_other hl.ok he2 hn];exact hl.me) (fun e h1 h2=>by rw [rights_other hl.ok he2 hn];exact hl.notA e h1 h2) ?_ hroot.1;rintro g (rfl | ⟨i,hi,rfl⟩)
    · refine ⟨hroot.2.2.1,?_⟩;have h1:=hok.pos_of_root (e:=0) (by omega) (by rw [hrt];exact hl.r0);rw [hrt] at h1;have h2:=hroot.2.2.2;have h3:=hl.r1;omega
    · refine ⟨(hlow i hi).2.2.1,?_⟩;have h1:=hok.pos_of_named (t:=(envAt p.k.envs 0).root.toNat) (g:=(p.low.getD i 0).toNat) hl.top.2 hk3 (by rw [hroot.1];exact hl.named hi);have h2:=(hlow i hi).2.2.2;have h3:=hl.l1 i hi;omega
  refine ⟨hlow',h.swap,h.p16,h.slot,fun n hn=>?_,h.hand,h.lim,h.cnt⟩
  have hpw:pw (callK p.k c).1 p.low n=pw p.k p.low n:=by unfold pw word;rw [(hlow (n / 4) (by omega)).1]
  show At (callK p.k c).1 p.low p.swap n (pageAt p.pages n)
  rcases h.page n hn with h1 | ⟨h1,h2,h3,h4,h5,h6⟩ | h1
  · exact .inl (by rw [hpw];exact h1)
  · have hen:entry (pw p.k p.low n)=some ((pageAt p.pages n).at_.toNat,true):=by rw [h4];exact entry_put (by omega) true
    have hd:=hl.data hn hen;have hs:=hsp (pageAt p.pages n).at_.toNat (by omega) h5;refine .inr (.inl ⟨h1,h2,h3,by rw [hpw];exact h4,hs.2.2.1.trans h5,?_⟩);have q1:=hok.pos_of_named (t:=(p.low.getD (n / 4) 0).toNat) (g:=(pageAt p.pages n).at_.toNat) (hl.kind (i:=n / 4) (by omega)).2 (hk2 _ (by omega)) (entry_word (i:=n % 4) (b:=true) (by
      show entry (pw (callK p.k c).1 p.low n)=_
      rw [hpw];exact hen))
    have q2:=hs.2.2.2;omega
  · exact .inr (.inr (by rw [hpw];exact h1))
end Kx
namespace Kx
theorem pageAt_set {l:List Page} {f g:Nat} {x:Page} (hf:f<l.length):pageAt (setPage l f x) g=if g=f then x else pageAt l g:=by
  unfold pageAt setPage
  by_cases h:g=f
  · subst h;simp [hf]
  · simp [h,List.getElem?_set_ne (Ne.symm h)]
theorem setPage_length {l:List Page} {f:Nat} {x:Page}:(setPage l f x).length=l.length:=by simp [setPage]
theorem countP_page {l:List Page} {n:Nat} {x:Page} (p:Page→Bool) (hn:n<l.length):(setPage l n x).countP p+(if p (pageAt l n) then 1 else 0)=l.countP p+if p x then 1 else 0:=
  countP_set p x Page.zero l n hn
theorem pageAt_mem {l:List Page} {f:Nat} (h:f<l.length):pageAt l f ∈ l:=by
  unfold pageAt;rw [List.getD_eq_getElem?_getD,List.getElem?_eq_getElem h];exact List.getElem_mem h
/-! ### the hand -/
structure Vic (p q:Pager):Prop where
  ok:POk q
  k:q.k=p.k
  low:q.low=p.low
  swap:q.swap=p.swap
  cnt:countP q 1=countP p 1
  lim:q.limit=p.limit
  wh:∀ n,(pageAt q.pages n).wh=(pageAt p.pages n).wh
theorem Vic.refl {p:Pager} (h:POk p):Vic p p:=⟨h,rfl,rfl,rfl,rfl,rfl,fun _=>rfl⟩
theorem Vic.trans {p q r:Pager} (h:Vic p q) (h':Vic q r):Vic p r:=
  ⟨h'.ok,h'.k.trans h.k,h'.low.trans h.low,h'.swap.trans h.swap,h'.cnt.trans h.cnt,h'.lim.trans h.lim,fun n=>(h'.wh n).trans (h.wh n)⟩
theorem hand_next (h:Int) (_h0:0≤h∧h≤15):0≤(h+1) % 16∧(h+1) % 16≤15:=by omega
theorem vic_pass {p:Pager} (h:POk p):Vic p (pass p):=⟨⟨h.low,h.swap,h.p16,h.slot,h.page,hand_next _ h.hand,h.lim,h.cnt⟩,rfl,rfl,rfl,rfl,rfl,fun _=>rfl⟩
/-- a page is marked as used or not -/
theorem used_ok {p:Pager} (h:POk p) {n:Nat} (hn:n<16) {u:Bool} (hu:u=false∨(pageAt p.pages n).wh=1) {hd:Int} (hh:0≤hd∧hd≤15) :
    Vic p { p with hand:=hd,pages:=setPage p.pages n ((pageAt p.pages n).mark u) }:=by
  have hl:n<p.pages.length:=by rw [h.p16];exact hn
  have hat:∀ m,pageAt (setPage p.pages n ((pageAt p.pages n).mark u)) m=if m=n then ((pageAt p.pages n).mark u) else pageAt p.pages m:=fun m=>pageAt_set hl
  have hc:∀ f:Page→Bool,(∀ x:Page,∀ b,f (x.mark b)=f x)→(setPage p.pages n ((pageAt p.pages n).mark u)).countP f=p.pages.countP f:=fun f hf=>by
    have:=countP_page (x:=((pageAt p.pages n).mark u)) f hl
    rw [hf] at this;omega
  refine ⟨⟨h.low,h.swap,by rw [setPage_length];exact h.p16,fun i hi=>?_,fun m hm=>?_,hh,h.lim,?_⟩,rfl,rfl,rfl,?_,rfl,fun m=>?_⟩
  · show (setPage p.pages n _).countP _=_
    rw [hc _ (fun _ _=>rfl)];exact h.slot i hi
  · show At p.k p.low p.swap m (pageAt (setPage p.pages n _) m)
    rw [hat m];split
    · rename_i q;subst q
      rcases h.page m hm with ⟨h1,h2,h3⟩ | ⟨h1,h2⟩ | ⟨h1,h2,h3,h4,h5,h6⟩
      · rcases hu with rfl | hu
        · rw [h2] at *;exact .inl ⟨rfl,rfl,h3⟩
        · omega
      · exact .inr (.inl ⟨h1,h2⟩)
      · rcases hu with rfl | hu
        · exact .inr (.inr ⟨h1,h2,h3,h4,rfl,h6⟩)
        · omega
    · exact h.page m hm
  · show (((setPage p.pages n _).countP _:Nat):Int)≤_
    rw [hc _ (fun _ _=>rfl)];exact h.cnt
  · show (setPage p.pages n _).countP _=_
    rw [hc _ (fun _ _=>rfl)];rfl
  · show (pageAt (setPage p.pages n _) m).wh=_
    rw [hat m];split
    · rename_i q;rw [q];rfl
    · rfl
theorem vic_victim:∀ (i:Nat) {p:Pager},POk p→Vic p (victim i p).1∧(0≤(victim i p).2→(victim i p).2.toNat<16∧(pageAt (victim i p).1.pages (victim i p).2.toNat).wh=1)
  | 0,p,h=>⟨Vic.refl h,fun h=>by simp [victim] at h⟩
  | i+1,p,h=>by
    have hh:=h.hand;unfold victim;split
    · rename_i hw
      exact ⟨vic_pass h,fun _=>⟨by simp only;omega,hw.1⟩⟩
    · have h1:=used_ok h (n:=p.hand.toNat) (by omega) (u:=false) (.inl rfl) (hand_next _ hh);have h2:=vic_victim i h1.ok;exact ⟨h1.trans h2.1,h2.2⟩
/-! ### entries of the pager's tables -/
theorem makeK_set {k:Kernel} {a b c:Int} (h1:frameCode k ⟨6,0,a,b,c,sA⟩ 0=0) (h2:setBad k ⟨6,0,a,b,c,sA⟩=false)
    (h3:((users k a).all fun e=>allowed k.infos (behind k c) (envAt k.envs e).rights)=true) (h4:setDeny k ⟨6,0,a,b,c,sA⟩=false) :
    makeK k 6 a b c=({ k with
      infos:=setRefsO (setRefsO k.infos (word k.mem a.toNat b.toNat) (-1)) c 1
      mem:=setWord k.mem a.toNat b.toNat c
      cache:=(users k a).foldl (fun (ca:List Cached) (e:Nat)=>cdrop ca (e:Int)) k.cache },0,0):=by
  have hd:doK k ⟨6,0,a,b,c,sA⟩=setK k ⟨6,0,a,b,c,sA⟩:=by unfold doK;simp
  have hs:setK k ⟨6,0,a,b,c,sA⟩=({ k with
      infos:=setRefsO (setRefsO k.infos (word k.mem a.toNat b.toNat) (-1)) c 1
      mem:=setWord k.mem a.toNat b.toNat c
      cache:=(users k a).foldl (fun (ca:List Cached) (e:Nat)=>cdrop ca (e:Int)) k.cache },0,0):=by
    unfold setK;rw [h1,h2,h4];simp only [h3];simp
  unfold makeK callK;rw [hd,hs];simp
/-- what a set of an entry of the pager's makes of its kernel -/
structure Ent (k k':Kernel) (t j:Nat) (c:Int):Prop where
  ok:Ok k'
  envs:k'.envs=k.envs
  row:∀ g,row k'.mem g=if g=t then (row k.mem t).set j c else row k.mem g
  inf:∀ g,inf k'.infos g={ inf k.infos g with refs:=(inf k.infos g).refs+-1*(nm (word k.mem t j) g:Int)+1*(nm c g:Int) }
section
variable {k:Kernel} {low:List Int} (h:Low k low)
include h
theorem Low.entry {i j:Nat} (hi:i<4) (hj:j<4) {c:Int} (hc:c=0∨∃ f,Kx.entry c=some (f,true)∧(inf k.infos f).kind=1∧(inf k.infos f).guard=sA) :
    Ent k (makeK k 6 (low.getD i 0) (j:Int) c).1 (low.getD i 0).toNat j c:=by
  have hk:=h.kind hi;have hr:=h.lr i hi;have hm:∀ g,(inf k.infos g).guard=sA→mayE k 0 (inf k.infos g).guard=true:=fun g hg=>by rw [hg];exact h.me
  have h1:frameCode k ⟨6,0,low.getD i 0,j,c,sA⟩ 0=0:=by
    unfold frameCode;simp only [hm _ (h.lg i hi),hk.1,inR_true.2 (show 0≤low.getD i 0∧low.getD i 0≤11 from hr)];simp [isTab]
  have h2:setBad k ⟨6,0,low.getD i 0,j,c,sA⟩=false:=by
    unfold setBad;have hb:inR (j:Int) 0 3=true:=inR_true.2 (by omega);have he:(entryKind c==2)=false:=entryKind_iff.2 (by
      rcases hc with h | ⟨f,h,_⟩
      · exact .inl h
      · exact .inr ⟨f,true,h⟩)
    simp only [hb,he];rcases hc with rfl | ⟨f,hf,hf1,_⟩
    · rfl
    · rw [hf];simp only [hf1,hk.1];rfl
  have h4:setDeny k ⟨6,0,low.getD i 0,j,c,sA⟩=false:=by
    unfold setDeny;rcases hc with rfl | ⟨f,hf,_,hf2⟩
    · rfl
    · simp only [hf];rw [hm f hf2];rfl
  have h3:((users k (low.getD i 0)).all fun e=>allowed k.infos (behind k c) (envAt k.envs e).rights)=true:=by
    rw [List.all_eq_true];intro e he;obtain ⟨he3,hu⟩:=mem_users.1 he;rw [h.ok.e3] at he3;unfold allowed;rw [List.all_eq_true];intro f hf;obtain ⟨f',b,hfe,hff⟩:=mem_behind.1 hf;rcases hc with rfl | ⟨f'',hc1,hc2,hc3⟩
    · rw [entry_zero] at hfe;cases hfe
    · rw [hc1] at hfe;simp only [Option.some.injEq,Prod.mk.injEq] at hfe;obtain ⟨rfl,rfl⟩:=hfe;have hff':f=f'':=by
        rcases hff with hff | ⟨hff,_⟩
        · exact hff
        · omega
      rw [hff',hc3]
      by_cases he0:e=0
      · subst he0;exact h.me
      · exfalso
        have hna:=h.notA e (by omega) he3;have hti:low.getD i 0=(((low.getD i 0).toNat:Nat):Int):=by omega
        rw [hti] at hu;have hin:(low.getD i 0).toNat ∈ Kx.reach k.mem (envAt k.envs e).root:=by
          rcases usesTable_iff.1 hu with hu | ⟨hu0,hu⟩
          · refine mem_reach.2 ⟨by omega,hk.2,.inl ?_⟩;omega
          · exact mem_reach.2 ⟨hu0,hk.2,.inr (.inl hu)⟩
        have:=h.ok.all e he3 _ hin
        rw [h.lg i hi,hna] at this;cases this
  have hmk:=makeK_set (k:=k) (a:=low.getD i 0) (b:=(j:Int)) (c:=c) h1 h2 h3 h4;have hok:Ok (makeK k 6 (low.getD i 0) (j:Int) c).1:=h.ok.callK _ rfl;rw [hmk] at hok ⊢;refine ⟨hok,rfl,fun g=>?_,fun g=>?_⟩
  · show Kx.row (setWord _ _ _ _) g=_
    rw [setWord_row (by rw [h.ok.m12];exact hk.2)];rfl
  · show Kx.inf (setRefsO (setRefsO _ _ _) _ _) g=_
    rw [setRefsO_inf (by rw [setRefsO_length,h.ok.i12]),setRefsO_inf h.ok.i12];rfl
/-- an entry that names data, or none, leaves the tables -/
theorem Low.ent {k':Kernel} {i j:Nat} (hi:i<4) (_hj:j<4) {c:Int} (he:Ent k k' (low.getD i 0).toNat j c) (hc:∀ g,nm c g=1→(Kx.inf k.infos g).kind=1):Low k' low:=by
  have hold:∀ g,nm (word k.mem (low.getD i 0).toNat j) g=1→(Kx.inf k.infos g).kind=1:=fun g hg=>by
    obtain ⟨b,hb⟩:=nm_one.1 hg;have:=h.ok.names (h.kind hi).2 (isTab_iff.2 (.inl (h.kind hi).1)) (entry_word hb);have:=(h.kind hi).1;omega
  have hnm0:∀ w g,(nm w g=1→(Kx.inf k.infos g).kind=1)→(Kx.inf k.infos g).kind≠1→nm w g=0:=fun w g h1 h2=>by
    unfold nm at h1 ⊢;split
    · rename_i q;simp only [q,if_true] at h1;exact absurd (h1 trivial) h2
    · rfl
  refine h.keep he.ok (by rw [he.envs]) (by rw [he.envs];exact h.me) (by rw [he.envs];exact h.notA) (fun g hg=>?_) ?_
  · have hk:(Kx.inf k.infos g).kind≠1:=by
      rcases hg with rfl | ⟨i,hi,rfl⟩
      · rw [h.top.1];omega
      · rw [(h.kind hi).1];omega
    rw [he.inf g,hnm0 _ g (hold g) hk,hnm0 _ g (hc g) hk];simp
  · rw [he.row,if_neg];intro e;have h1:=h.top.1;rw [e,(h.kind hi).1] at h1;omega
/-- words of other pages stay -/
theorem Low.pw_ent {k':Kernel} {n m:Nat} (hn:n<16) (hm:m<16) {c:Int} (he:Ent k k' (low.getD (n / 4) 0).toNat (n % 4) c):pw k' low m=if m=n then c else pw k low m:=by
  unfold pw word;rw [he.row];split
  · rename_i e
    rw [getD_set (by rw [h.ok.m4 _ (h.tabpage hn).2];omega)]
    by_cases hmn:m=n
    · subst hmn;simp
    · rw [if_neg hmn,if_neg (fun e2=>hmn (h.page_inj hm hn e e2)),←e]
  · rename_i e
    rw [if_neg (fun q=>e (by rw [q]))]
end
/-! ### a page goes out -/
theorem give_cases (k:Kernel) (f:Int) (h:Ok k):Ok (makeK k 2 f 0 0).1∧((makeK k 2 f 0 0).1=k∨(0≤f∧f.toNat<12∧(inf k.infos f.toNat).kind=1∧(inf k.infos f.toNat).refs=0∧(makeK k 2 f 0 0).1={ k with infos:=k.infos.set f.toNat Info.zero })):=by
  refine ⟨h.callK _ rfl,?_⟩;have hd:doK k ⟨2,0,f,0,0,sA⟩=give k ⟨2,0,f,0,0,sA⟩:=by unfold doK;simp
  unfold makeK callK;rw [hd];split
  · exact .inl rfl
  unfold give;split
  · exact .inl rfl
  rename_i hc
  split
  · exact .inl rfl
  rename_i hr
  right
  obtain ⟨h0,h12,hk0,_,hk1,_⟩:=frameCode_done (Classical.not_not.1 hc);have h1:0≤(inf k.infos f.toNat).refs:=(infoOk_refs (h.iok _ h12)).1;have hr':¬ (inf k.infos f.toNat).refs > 0:=hr;exact ⟨h0,h12,hk1 (by omega),by omega,rfl⟩
/-- a frame of data without uses is given back: the tables stay -/
theorem Low.give {k:Kernel} {low:List Int} (h:Low k low) (f:Int) :
    Low (makeK k 2 f 0 0).1 low∧(∀ g,row (makeK k 2 f 0 0).1.mem g=row k.mem g)∧∀ g,1≤(inf k.infos g).refs→inf (makeK k 2 f 0 0).1.infos g=inf k.infos g:=by
  obtain ⟨hok,e | ⟨h0,h12,hk1,hr0,e⟩⟩:=give_cases k f h.ok
  · rw [e];exact ⟨h,fun _=>rfl,fun _ _=>rfl⟩
  · rw [e] at hok ⊢;have hin:∀ g,g≠f.toNat→inf (k.infos.set f.toNat Info.zero) g=inf k.infos g:=fun g hg=>by rw [inf_set (by rw [h.ok.i12];exact h12),if_neg hg]
    have hne:∀ g,1≤(inf k.infos g).refs→g≠f.toNat:=fun g hg e=>by subst e;omega
    refine ⟨h.keep hok rfl h.me h.notA (fun g hg=>?_) rfl,fun _=>rfl,fun g hg=>hin g (hne g hg)⟩
    have h1:1≤(inf k.infos g).refs:=by
      rcases hg with rfl | ⟨i,hi,rfl⟩
      · rw [h.r1];omega
      · rw [h.l1 i hi];omega
    show (inf (k.infos.set f.toNat Info.zero) g).guard=_∧(inf (k.infos.set f.toNat Info.zero) g).refs=_
    rw [hin g (hne g h1)];exact ⟨rfl,rfl⟩
theorem sum_add (F G:Nat→Nat):∀ n,((List.range n).map fun i=>F i+G i).sum=((List.range n).map F).sum+((List.range n).map G).sum
  | 0=>rfl
  | n+1=>by
    rw [List.range_succ,List.map_append,List.map_append,List.map_append,List.sum_append,List.sum_append,List.sum_append,sum_add F G n];simp;omega
theorem sum_ind (x:Int) (b:Bool):∀ n:Nat,((List.range n).map fun (i:Nat)=>if b&&x==(i:Int) then 1 else 0).sum≤(if b then 1 else 0)∧((n:Int)≤x→((List.range n).map fun (i:Nat)=>if b&&x==(i:Int) then 1 else 0).sum=0)
  | 0=>by simp
  | n+1=>by
    obtain ⟨h1,h2⟩:=sum_ind x b n;rw [List.range_succ,List.map_append,List.sum_append];simp only [List.map_cons,List.map_nil,List.sum_cons,List.sum_nil,Nat.add_zero]
    cases b
    · simp at h1 ⊢
      exact ⟨h1,fun _=>h1⟩
    · by_cases hx:x=(n:Int)
      · subst hx;rw [h2 (Int.le_refl _)];simp;omega
      · have:(x==(n:Int))=false:=by simpa using hx
        simp only [this,Bool.and_false,Bool.false_eq_true,if_false,Nat.add_zero];exact ⟨h1,fun h=>h2 (by omega)⟩
theorem slots_le:∀ (l:List Page),((List.range 16).map fun (i:Nat)=>l.countP fun x=>x.wh==2&&x.at_==(i:Int)).sum≤l.countP fun x=>x.wh==2
  | []=>by decide
  | x :: l=>by
    have h1:=slots_le l;have h2:=(sum_ind x.at_ (x.wh==2) 16).1;simp only [List.countP_cons];rw [sum_add (fun (i:Nat)=>l.countP fun x=>x.wh==2&&x.at_==(i:Int)) (fun (i:Nat)=>if x.wh==2&&x.at_==(i:Int) then 1 else 0)]
    omega
theorem countP_disj {α:Type} (p q:α→Bool) (h:∀ x,p x=true→q x=false):∀ (l:List α),l.countP p+l.countP q≤l.length
  | []=>by simp
  | a :: l=>by
    have:=countP_disj p q h l
    rw [List.countP_cons,List.countP_cons,List.length_cons]
    cases hp:p a
    · cases hq:q a <;> simp <;> omega
    · rw [h a hp];simp;omega
/-- there is room in the swap while a page is in a frame -/
theorem POk.room {p:Pager} (h:POk p) {v:Nat} (hv:v<16) (hw:(pageAt p.pages v).wh=1):∃ i,swapFree p.swap=some i∧i<16∧(row p.swap i).isEmpty=true:=by
  have hs:=(swapOk_iff.1 h.swap).1
  cases hf:swapFree p.swap with
  | some i =>
    unfold swapFree at hf;obtain ⟨hi,hp,_⟩:=List.findIdx?_eq_some_iff_getElem.1 hf;refine ⟨i,rfl,by omega,?_⟩;have:row p.swap i=p.swap[i]:=by simp [row,hi]
    rw [this];exact hp
  | none =>
    exfalso
    unfold swapFree at hf;rw [List.findIdx?_eq_none_iff] at hf;have h1:∀ i,i<16→slotN p i=1:=fun i hi=>by
      rw [h.slot i hi,hf _ (row_mem (by omega))];rfl
    have h2:=slots_le p.pages;have h3:((List.range 16).map fun (i:Nat)=>p.pages.countP fun x=>x.wh==2&&x.at_==(i:Int)).sum=((List.range 16).map fun _=>1).sum:=sum_same fun i hi=>h1 i hi
    rw [h3] at h2;have h4:=countP_disj (fun x:Page=>x.wh==2) (fun x:Page=>x.wh==1) (fun x hx=>by
      have h5:x.wh=2:=by simpa using hx
      rw [h5];rfl) p.pages
    have h5:0<p.pages.countP fun x:Page=>x.wh==1:=countP_pos_of (x:=pageAt p.pages v) (pageAt_mem (by rw [h.p16];exact hv)) (by simp [hw])
    have h6:((List.range 16).map fun _=>1).sum=16:=by decide
    rw [h.p16] at h4;omega
theorem POk.out {p:Pager} (h:POk p) {v:Nat} (hv:v<16) (hw:(pageAt p.pages v).wh=1) :
    POk (outP p v)∧countP (outP p v) 1+1=countP p 1∧(outP p v).limit=p.limit∧∀ n,n≠v→pageAt (outP p v).pages n=pageAt p.pages n:=by
  have hl:=h.low;have hvl:v<p.pages.length:=by rw [h.p16];exact hv
  rcases h.page v hv with ⟨h1,_⟩ | ⟨_,hf0,hf1,hf2,hf3,hf4⟩ | ⟨h1,_⟩
  · omega
  rotate_left
  · omega
  obtain ⟨fr,hfr⟩:∃ fr:Nat,fr=(pageAt p.pages v).at_.toNat:=⟨_,rfl⟩;rw [←hfr] at hf2 hf3 hf4;have hen:entry (pw p.k p.low v)=some (fr,true):=by rw [hf2];exact entry_put (by omega) true
  have hfd:=hl.data hv hen;obtain ⟨i,hi,hi16,hie⟩:=h.room hv hw;have hwo:wordsOk (row p.k.mem fr)=true:=by
    unfold wordsOk wordOk;simp only [Bool.and_eq_true,List.all_eq_true,inR_true,beq_iff_eq];exact ⟨hl.ok.mw fr hfd.2.1,hl.ok.m4 fr hfd.2.1⟩
  have hput:swapPut p.swap (row p.k.mem fr)=(p.swap.set i (row p.k.mem fr),(i:Int),true):=by
    unfold swapPut;rw [h.swap,hwo,hi];rfl
  -- the entry is struck
  have hE:=hl.entry (i:=v / 4) (j:=v % 4) (c:=0) (by omega) (by omega) (.inl rfl);have hL:=hl.ent (by omega) (by omega) hE (fun g hg=>by simp [nm,entry_zero] at hg);obtain ⟨k1,hk1⟩:∃ k1,k1=(makeK p.k 6 (p.low.getD (v / 4) 0) ((v % 4:Nat):Int) 0).1:=⟨_,rfl⟩;rw [←hk1] at hE hL;have hG:=hL.give (pageAt p.pages v).at_;obtain ⟨k2,hk2⟩:∃ k2,k2=(makeK k1 2 (pageAt p.pages v).at_ 0 0).1:=⟨_,rfl⟩;rw [←hk2] at hG;have hout:outP p v={ p with swap:=p.swap.set i (row p.k.mem fr),k:=k2,pages:=setPage p.pages v ⟨2,i,false⟩ }:=by
    unfold outP outK;rw [←hfr,hput,←hk1,←hk2]
  rw [hout];have hpw:∀ m,m<16→pw k2 p.low m=if m=v then 0 else pw p.k p.low m:=fun m hm=>by
    have:pw k2 p.low m=pw k1 p.low m:=by unfold pw word;rw [hG.2.1]
    rw [this];exact hl.pw_ent hv hm hE
  have hat:∀ m,pageAt (setPage p.pages v ⟨2,i,false⟩) m=if m=v then ⟨2,i,false⟩ else pageAt p.pages m:=fun m=>pageAt_set hvl
  have hrow:∀ j,row (p.swap.set i (row p.k.mem fr)) j=if j=i then row p.k.mem fr else row p.swap j:=fun j=>row_set (by rw [(swapOk_iff.1 h.swap).1];exact hi16)
  have hne:(row p.k.mem fr).isEmpty=false:=by
    have:=hl.ok.m4 fr hfd.2.1
    cases hr:row p.k.mem fr with
    | nil=>rw [hr] at this;simp at this
    | cons a l=>rfl
  have hc1:=countP_page (x:=⟨2,i,false⟩) (fun x:Page=>x.wh==1) hvl;simp only [hw] at hc1;have hcnt:(setPage p.pages v ⟨2,i,false⟩).countP (fun x:Page=>x.wh==1)+1=countP p 1:=by
    unfold countP;simpa using hc1
  refine ⟨⟨hG.1,?_,by rw [setPage_length];exact h.p16,fun j hj=>?_,fun m hm=>?_,h.hand,h.lim,?_⟩,hcnt,rfl,fun n hn=>?_⟩
  · refine swapOk_iff.2 ⟨by rw [List.length_set];exact (swapOk_iff.1 h.swap).1,fun j hj=>?_⟩
    rw [hrow j];split
    · exact .inr hwo
    · exact (swapOk_iff.1 h.swap).2 j hj
  · show (setPage p.pages v ⟨2,i,false⟩).countP _=if (row (p.swap.set i _) j).isEmpty then 0 else 1
    have hc:=countP_page (x:=⟨2,i,false⟩) (fun x:Page=>x.wh==2&&x.at_==(j:Int)) hvl
    have hs:=h.slot j hj;unfold slotN at hs;rw [hs] at hc;simp only [hw] at hc;rw [hrow j]
    by_cases hji:j=i
    · subst hji;rw [hie] at hc;simp at hc;rw [if_pos rfl,hne];simpa using hc
    · have:((i:Int)==(j:Int))=false:=by simp;omega
      rw [this] at hc;rw [if_neg hji];simpa using hc
  · show At k2 p.low (p.swap.set i _) m (pageAt (setPage p.pages v _) m)
    rw [hat m]
    by_cases hmv:m=v
    · rw [if_pos hmv];refine .inr (.inr ⟨rfl,by simp,by simp;omega,?_,rfl,by rw [hpw m hm,if_pos hmv]⟩);show (row (p.swap.set i (row p.k.mem fr)) i).isEmpty=false;rw [hrow,if_pos rfl];exact hne
    · rw [if_neg hmv];have hpw':=hpw m hm;rw [if_neg hmv] at hpw';rcases h.page m hm with ⟨h1,h2,h3⟩ | ⟨h1,h2,h3,h4,h5,h6⟩ | ⟨h1,h2,h3,h4,h5,h6⟩
      · exact .inl ⟨h1,h2,by rw [hpw'];exact h3⟩
      · have henm:entry (pw p.k p.low m)=some ((pageAt p.pages m).at_.toNat,true):=by rw [h4];exact entry_put (by omega) true
        have hdm:=hl.data hm henm;have hfne:(pageAt p.pages m).at_.toNat≠fr:=fun e=>by
          rw [e] at henm;have ho:=hl.ok.once (t:=(p.low.getD (m / 4) 0).toNat) (t':=(p.low.getD (v / 4) 0).toNat) (i:=m % 4) (j:=v % 4) (hl.tabpage hm).2 (hl.tabpage hm).1 (hl.tabpage hv).2 (hl.tabpage hv).1 (by omega) henm hen hf4;exact hmv (hl.page_inj hm hv ho.1 ho.2)
        have hin1:inf k1.infos (pageAt p.pages m).at_.toNat=inf p.k.infos (pageAt p.pages m).at_.toNat:=by
          rw [hE.inf];have n1:nm (word p.k.mem (p.low.getD (v / 4) 0).toNat (v % 4)) (pageAt p.pages m).at_.toNat=0:=by
            show nm (pw p.k p.low v) _=0
            unfold nm;rw [hen];simp only [Option.map_some,Option.some.injEq];rw [if_neg (Ne.symm hfne)]
          rw [n1];simp [nm,entry_zero]
        have hin2:inf k2.infos (pageAt p.pages m).at_.toNat=inf p.k.infos (pageAt p.pages m).at_.toNat:=by
          rw [hG.2.2 _ (by rw [hin1,h6];omega),hin1]
        exact .inr (.inl ⟨h1,h2,h3,by rw [hpw'];exact h4,by rw [hin2];exact h5,by rw [hin2];exact h6⟩)
      · refine .inr (.inr ⟨h1,h2,h3,?_,h5,by rw [hpw'];exact h6⟩);rw [hrow];split
        · exact hne
        · exact h4
  · show (((setPage p.pages v ⟨2,i,false⟩).countP fun x:Page=>x.wh==1:Nat):Int)≤p.limit
    have:=h.cnt;omega
  · show pageAt (setPage p.pages v _) n=_
    rw [hat n,if_neg hn]
end Kx
namespace Kx
/-- only frame f's words differ -/
structure Fr (k k':Kernel) (f:Nat):Prop where
  ok:Ok k'
  infos:k'.infos=k.infos
  envs:k'.envs=k.envs
  row:∀ g,g≠f→row k'.mem g=row k.mem g
theorem poke_fr {k:Kernel} (h:Ok k) (f i w:Int):Fr k (makeK k 3 f i w).1 f.toNat:=by
  have hok:Ok (makeK k 3 f i w).1:=h.callK _ rfl;have hd:doK k ⟨3,0,f,i,w,sA⟩=poke k ⟨3,0,f,i,w,sA⟩:=by unfold doK;simp
  refine ⟨hok,?_,?_,?_⟩
  all_goals
    unfold makeK callK;rw [hd];split
  · rfl
  · unfold poke;repeat' split
    all_goals rfl
  · rfl
  · unfold poke;repeat' split
    all_goals rfl
  · exact fun _ _=>rfl
  · unfold poke;split
    · exact fun _ _=>rfl
    rename_i hc
    split
    · exact fun _ _=>rfl
    obtain ⟨_,h12,_⟩:=frameCode_done (Classical.not_not.1 hc);intro g hg;show Kx.row (setWord k.mem f.toNat _ _) g=_;rw [setWord_row (by rw [h.m12];exact h12),if_neg hg]
theorem pokes_fr {k:Kernel} (h:Ok k) (f:Int) (ws:List Int):∀ n,Fr k (pokes k f ws n) f.toNat
  | 0=>⟨h,rfl,rfl,fun _ _=>rfl⟩
  | n+1=>by
    have h1:=pokes_fr h f ws n;have h2:=poke_fr h1.ok f n (ws.getD n 0);exact ⟨h2.ok,h2.infos.trans h1.infos,h2.envs.trans h1.envs,fun g hg=>(h2.row g hg).trans (h1.row g hg)⟩
theorem take_cases {k:Kernel} {low:List Int} (h:Low k low):(makeK k 1 0 0 0).2.2≠0∨∃ f,free k.infos=some f∧f<12∧(inf k.infos f).kind=0∧makeK k 1 0 0 0=({ k with infos:=k.infos.set f ⟨1,sA,0⟩,mem:=k.mem.set f [0,0,0,0] },(f:Int),0):=by
  have hd:doK k ⟨1,0,0,0,0,sA⟩=take k ⟨1,0,0,0,0,sA⟩:=by unfold doK;simp
  have hr:rightOk sA=true:=by decide +kernel
  have hm:mayE k 0 sA=true:=h.me;have ht:take k ⟨1,0,0,0,0,sA⟩=match free k.infos with
    | none=>(k,0,4)
    | some f=>({ k with infos:=k.infos.set f ⟨1,sA,0⟩,mem:=k.mem.set f [0,0,0,0] },(f:Int),0):=by
    unfold take;simp only [hr,hm];rfl
  unfold makeK callK;rw [hd,ht]
  cases hf:free k.infos with
  | none=>left;simp
  | some f =>
    obtain ⟨h1,h2⟩:=free_some hf;right;exact ⟨f,rfl,by rw [←h.ok.i12];exact h1,h2,by simp⟩
theorem POk.inn {p:Pager} (h:POk p) {n:Nat} (hn:n<16) (hw:(pageAt p.pages n).wh≠1) (hc:(countP p 1:Int)<p.limit):POk (inP p n).1:=by
  have hl:=h.low;have hnl:n<p.pages.length:=by rw [h.p16];exact hn
  rcases take_cases hl with hf | ⟨f,_,hf12,hk0,htk⟩
  · unfold inP;simp only [if_pos hf];exact h
  have hz:=inf_of_kind0 hl.ok hf12 hk0;obtain ⟨k0,hk0'⟩:∃ k0:Kernel,k0={ p.k with infos:=p.k.infos.set f ⟨1,sA,0⟩,mem:=p.k.mem.set f [0,0,0,0] }:=⟨_,rfl⟩;rw [←hk0'] at htk;have hok0:Ok k0:=by
    have:Ok (makeK p.k 1 0 0 0).1:=hl.ok.callK _ rfl
    rwa [htk] at this
  have hin0:∀ g,inf k0.infos g=if g=f then ⟨1,sA,0⟩ else inf p.k.infos g:=fun g=>by rw [hk0'];exact inf_set (by rw [hl.ok.i12];exact hf12)
  have hrow0:∀ g,g≠f→row k0.mem g=row p.k.mem g:=fun g hg=>by rw [hk0'];show row (p.k.mem.set f _) g=_;rw [row_set (by rw [hl.ok.m12];exact hf12),if_neg hg]
  have henv0:k0.envs=p.k.envs:=by rw [hk0']
  have hposne:∀ g,1≤(inf p.k.infos g).kind→g≠f:=fun g hg e=>by subst e;omega
  have hL0:Low k0 p.low:=by
    have hkd:∀ g,(g=(envAt p.k.envs 0).root.toNat∨∃ i,i<4∧g=(p.low.getD i 0).toNat)→g≠f:=fun g hg=>hposne g (by
      rcases hg with rfl | ⟨i,hi,rfl⟩
      · rw [hl.top.1];omega
      · rw [(hl.kind hi).1];omega)
    refine hl.keep hok0 (by rw [henv0]) (by rw [henv0];exact hl.me) (by rw [henv0];exact hl.notA) (fun g hg=>?_) (hrow0 _ (hkd _ (.inl rfl)));rw [hin0,if_neg (hkd g hg)];exact ⟨rfl,rfl⟩
  -- the words of the swap are put
  obtain ⟨k1,hk1⟩:∃ k1,k1=(if (pageAt p.pages n).wh=2 then pokes k0 (f:Int) (row p.swap (pageAt p.pages n).at_.toNat) 4 else k0):=⟨_,rfl⟩;have hF:Fr k0 k1 f:=by
    rw [hk1];split
    · exact pokes_fr hok0 (f:Int) _ 4
    · exact ⟨hok0,rfl,rfl,fun _ _=>rfl⟩
  have hL1:Low k1 p.low:=by
    have htf:(envAt k0.envs 0).root.toNat≠f:=fun e=>by
      have h1:=hL0.top.1;rw [e,hin0,if_pos rfl] at h1;simp at h1
    exact hL0.keep hF.ok (by rw [hF.envs]) (by rw [hF.envs];exact hL0.me) (by rw [hF.envs];exact hL0.notA) (fun g hg=>by rw [hF.infos];exact ⟨rfl,rfl⟩) (hF.row _ htf)
  have hin1:∀ g,inf k1.infos g=if g=f then ⟨1,sA,0⟩ else inf p.k.infos g:=fun g=>by rw [hF.infos];exact hin0 g
  have hlowne:∀ m,m<16→(p.low.getD (m / 4) 0).toNat≠f:=fun m hm=>hposne _ (by rw [(hl.kind (i:=m / 4) (by omega)).1];omega)
  have hpw1:∀ m,m<16→pw k1 p.low m=pw p.k p.low m:=fun m hm=>by
    unfold pw word;rw [hF.row _ (hlowne m hm),hrow0 _ (hlowne m hm)]
  -- the entry is set
  have hE:=hL1.entry (i:=n / 4) (j:=n % 4) (c:=put f true) (by omega) (by omega) (.inr ⟨f,entry_put hf12 true,by rw [hin1,if_pos rfl],by rw [hin1,if_pos rfl]⟩);have hL:=hL1.ent (by omega) (by omega) hE (fun g hg=>by
    obtain ⟨b,hb⟩:=nm_one.1 hg;rw [entry_put hf12 true] at hb;simp only [Option.some.injEq,Prod.mk.injEq] at hb;rw [←hb.1,hin1,if_pos rfl])
  obtain ⟨k2,hk2⟩:∃ k2,k2=(makeK k1 6 (p.low.getD (n / 4) 0) ((n % 4:Nat):Int) (put f true)).1:=⟨_,rfl⟩;rw [←hk2] at hE hL;have hres:(inP p n).1={ p with swap:=if (pageAt p.pages n).wh=2 then p.swap.set (pageAt p.pages n).at_.toNat [] else p.swap,k:=k2,pages:=setPage p.pages n ⟨1,f,true⟩ }:=by
    unfold inP;rw [htk];simp only [ne_eq,not_true_eq_false,if_false,Int.toNat_natCast];rw [hk2,hk1]
  rw [hres];have hpage:=h.page n hn;have hpn:pw p.k p.low n=0:=by
    rcases hpage with ⟨_,_,h3⟩ | ⟨h1,_⟩ | ⟨_,_,_,_,_,h6⟩
    · exact h3
    · exact absurd h1 hw
    · exact h6
  have hpw:∀ m,m<16→pw k2 p.low m=if m=n then put f true else pw p.k p.low m:=fun m hm=>by
    rw [hL1.pw_ent hn hm hE];split
    · rfl
    · exact hpw1 m hm
  have hold0:∀ g,nm (word k1.mem (p.low.getD (n / 4) 0).toNat (n % 4)) g=0:=fun g=>by
    show nm (pw k1 p.low n) g=0
    rw [hpw1 n hn,hpn];rfl
  have hat:∀ m,pageAt (setPage p.pages n ⟨1,f,true⟩) m=if m=n then ⟨1,f,true⟩ else pageAt p.pages m:=fun m=>pageAt_set hnl
  have hc1:=countP_page (x:=⟨1,f,true⟩) (fun x:Page=>x.wh==1) hnl;have hw':((pageAt p.pages n).wh==1)=false:=by simpa using hw
  simp only [hw'] at hc1;have hslot:∀ j:Nat,j<16→(setPage p.pages n ⟨1,f,true⟩).countP (fun x:Page=>x.wh==2&&x.at_==(j:Int))+(if (pageAt p.pages n).wh=2∧(pageAt p.pages n).at_=(j:Int) then 1 else 0)=if (row p.swap j).isEmpty then 0 else 1:=fun j hj=>by
    have hcj:=countP_page (x:=⟨1,f,true⟩) (fun x:Page=>x.wh==2&&x.at_==(j:Int)) hnl
    have hs:=h.slot j hj;unfold slotN at hs;rw [hs] at hcj;simpa using hcj
  have hsl:=swapOk_iff.1 h.swap;have hrow:∀ j:Nat,j<16→row (if (pageAt p.pages n).wh=2 then p.swap.set (pageAt p.pages n).at_.toNat [] else p.swap) j=if (pageAt p.pages n).wh=2∧(pageAt p.pages n).at_=(j:Int) then [] else row p.swap j:=fun j hj=>by
    rcases hpage with ⟨h1,_⟩ | ⟨h1,_⟩ | ⟨h1,h2,h3,_⟩
    · have:¬ (pageAt p.pages n).wh=2:=by omega
      rw [if_neg this,if_neg (fun q=>this q.1)]
    · exact absurd h1 hw
    · rw [if_pos h1,row_set (by rw [hsl.1];omega)]
      by_cases hj':(pageAt p.pages n).at_=(j:Int)
      · rw [if_pos (show j=(pageAt p.pages n).at_.toNat by omega),if_pos ⟨h1,hj'⟩]
      · rw [if_neg (show ¬ j=(pageAt p.pages n).at_.toNat by omega),if_neg (fun q=>hj' q.2)]
  refine ⟨hL,?_,by rw [setPage_length];exact h.p16,fun j hj=>?_,fun m hm=>?_,h.hand,h.lim,?_⟩
  · refine swapOk_iff.2 ⟨by split <;> simp [hsl.1],fun j hj=>?_⟩
    rw [hrow j hj];split
    · exact .inl rfl
    · exact hsl.2 j hj
  · show (setPage p.pages n ⟨1,f,true⟩).countP _=if (row _ j).isEmpty then 0 else 1
    have:=hslot j hj
    rw [hrow j hj];split
    · rename_i q
      rw [if_pos q] at this;have hle:(if (row p.swap j).isEmpty then 0 else 1)≤1:=by split <;> omega
      simp only [List.isEmpty_nil,if_true];omega
    · rename_i q
      rw [if_neg q] at this;exact this
  · show At k2 p.low _ m (pageAt (setPage p.pages n _) m)
    rw [hat m]
    by_cases hmn:m=n
    · rw [if_pos hmn];refine .inr (.inl ⟨rfl,by simp,by simp;omega,by rw [hpw m hm,if_pos hmn];rfl,?_,?_⟩)
      · show (inf k2.infos f).guard=sA
        rw [hE.inf,hin1,if_pos rfl]
      · show (inf k2.infos f).refs=1
        have:nm (put f true) f=1:=nm_one.2 ⟨true,entry_put hf12 true⟩
        rw [hE.inf,hold0,this,hin1,if_pos rfl];rfl
    · rw [if_neg hmn];have hpwm:=hpw m hm;rw [if_neg hmn] at hpwm;rcases h.page m hm with ⟨h1,h2,h3⟩ | ⟨h1,h2,h3,h4,h5,h6⟩ | ⟨h1,h2,h3,h4,h5,h6⟩
      · exact .inl ⟨h1,h2,by rw [hpwm];exact h3⟩
      · have henm:entry (pw p.k p.low m)=some ((pageAt p.pages m).at_.toNat,true):=by rw [h4];exact entry_put (by omega) true
        have hdm:=hl.data hm henm;have hfne:=hposne (pageAt p.pages m).at_.toNat (by omega);have hin2:inf k2.infos (pageAt p.pages m).at_.toNat=inf p.k.infos (pageAt p.pages m).at_.toNat:=by
          have n1:nm (put f true) (pageAt p.pages m).at_.toNat=0:=by
            unfold nm;rw [entry_put hf12 true];simp only [Option.map_some,Option.some.injEq];rw [if_neg (Ne.symm hfne)]
          rw [hE.inf,hold0,n1,hin1,if_neg hfne];simp
        exact .inr (.inl ⟨h1,h2,h3,by rw [hpwm];exact h4,by rw [hin2];exact h5,by rw [hin2];exact h6⟩)
      · refine .inr (.inr ⟨h1,h2,h3,?_,h5,by rw [hpwm];exact h6⟩);have hrw:=hrow (pageAt p.pages m).at_.toNat (by omega);rw [hrw];split
        · rename_i q
          exfalso
          have hsm:=hslot (pageAt p.pages m).at_.toNat (by omega);rw [if_pos q,h4] at hsm;have hpos:0<(setPage p.pages n ⟨1,f,true⟩).countP (fun x:Page=>x.wh==2&&x.at_==((pageAt p.pages m).at_.toNat:Int)):=
            countP_pos_of (x:=pageAt (setPage p.pages n ⟨1,f,true⟩) m) (pageAt_mem (by rw [setPage_length,h.p16];exact hm)) (by rw [hat m,if_neg hmn];simp [h1];omega)
          simp only [Bool.false_eq_true,if_false] at hsm;omega
        · exact h4
  · show (((setPage p.pages n ⟨1,f,true⟩).countP fun x:Page=>x.wh==1:Nat):Int)≤p.limit
    have h1:p.pages.countP (fun x:Page=>x.wh==1)=countP p 1:=rfl;rw [h1] at hc1;simp at hc1;omega
theorem POk.touch {p:Pager} (h:POk p) {n:Nat} (hn:n<16):POk (touch p n).1:=by
  unfold Kx.touch;split
  · rename_i hw
    exact (used_ok h hn (u:=true) (.inr hw) h.hand).ok
  rename_i hw
  split
  · have hv:=vic_victim 32 h;split
    · exact h
    rename_i hv0
    obtain ⟨hv1,hv2⟩:=hv.2 (by omega);have ho:=hv.1.ok.out hv1 hv2;have hnv:n≠(victim 32 p).2.toNat:=fun e=>by
      have:=hv.1.wh n
      rw [e] at this hw;omega
    refine ho.1.inn hn ?_ ?_
    · rw [ho.2.2.2 n hnv,hv.1.wh n];exact hw
    · have h1:=hv.1.ok.cnt;rw [ho.2.2.1];omega
  · rename_i hno
    refine h.inn hn hw ?_;unfold needOut at hno;simp only [Bool.or_eq_true,not_or,decide_eq_true_eq] at hno;omega
/-- loads and stores of environment 0 leave the pager -/
theorem POk.acc {p:Pager} (h:POk p) {c:Call} (hk:c.kind=10∨c.kind=11) (he:c.env=0):POk { p with k:=(callK p.k c).1 }:=by
  have hl:=h.low;have he2:inR c.env 0 2=true:=by rw [he];rfl
  have hok:=hl.ok.callK c he2;have hd:doK p.k c=access p.k c:=by
    unfold doK;rw [if_neg (by omega),if_neg (by omega),if_neg (by omega),if_neg (by omega),if_neg (by omega),if_neg (by omega),if_neg (by omega),if_pos hk]
  have hca:(callK p.k c).1=p.k∨(callK p.k c).1=(access p.k c).1:=by
    unfold callK;rw [hd];split
    · exact .inl rfl
    · exact .inr rfl
  have key:∃ f,(callK p.k c).1.infos=p.k.infos∧(callK p.k c).1.envs=p.k.envs∧((∀ g,row (callK p.k c).1.mem g=row p.k.mem g)∨((inf p.k.infos f).kind=1∧∀ g,g≠f→row (callK p.k c).1.mem g=row p.k.mem g)):=by
    rcases hca with e | e <;> rw [e]
    · exact ⟨0,rfl,rfl,.inl fun _=>rfl⟩
    · rcases access_cases hl.ok he2 with e | ⟨ca,e | ⟨f,a,w,hf,hf1,hr,e⟩⟩ <;> rw [e]
      · exact ⟨0,rfl,rfl,.inl fun _=>rfl⟩
      · exact ⟨0,rfl,rfl,.inl fun _=>rfl⟩
      · refine ⟨f,rfl,rfl,.inr ⟨hf1,fun g hg=>?_⟩⟩
        show row (setWord _ _ _ _) g=_
        rw [setWord_row (by rw [hl.ok.m12];exact hf),if_neg hg]
  obtain ⟨f,hi,hev,hrw⟩:=key;have hrow:∀ g,(inf p.k.infos g).kind≠1→row (callK p.k c).1.mem g=row p.k.mem g:=fun g hg=>by
    rcases hrw with hrw | ⟨hf1,hrw⟩
    · exact hrw g
    · exact hrw g (fun e=>hg (e ▸ hf1))
  have hlow':Low (callK p.k c).1 p.low:=hl.keep hok (by rw [hev]) (by rw [hev];exact hl.me) (by rw [hev];exact hl.notA) (fun g _=>by rw [hi];exact ⟨rfl,rfl⟩) (hrow _ (by rw [hl.top.1];omega));refine ⟨hlow',h.swap,h.p16,h.slot,fun n hn=>?_,h.hand,h.lim,h.cnt⟩
  have hpw:pw (callK p.k c).1 p.low n=pw p.k p.low n:=by
    unfold pw word;rw [hrow _ (by rw [(hl.kind (i:=n / 4) (by omega)).1];omega)]
  have:=h.page n hn
  unfold At at this ⊢;simp only [hpw,hi];exact this
theorem POk.touched {p:Pager} (h:POk p) {n:Int} (hn:inR n 0 15=true):POk (pagerTouch p n).1:=by
  unfold pagerTouch;rw [pok_iff.2 h,hn];simp only [Bool.not_true,Bool.or_self,Bool.false_eq_true,if_false];rw [inR_true] at hn;split
  · exact h.touch (by omega)
  · exact h
theorem POk.store {p:Pager} (h:POk p) {ad w:Int} (ha:inR ad 0 63=true) (hw:inR w 0 9999=true):POk (pagerStore p ad w).1:=by
  have ht:=h.touched (n:=ad / 4) (by rw [inR_true] at ha ⊢;omega);unfold pagerStore;rw [pok_iff.2 h,ha,hw];simp only [Bool.not_true,Bool.or_self,Bool.false_eq_true,if_false];split
  · exact ht
  · exact ht.acc (.inr rfl) rfl
end Kx
