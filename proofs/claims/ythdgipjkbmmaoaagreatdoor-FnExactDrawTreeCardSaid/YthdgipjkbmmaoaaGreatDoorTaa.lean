/- A part of the proof that the last text of this folder tells of. -/
import Derived.Calls
import Derived.Orders
import Derived.Deep.MidRow
import Derived.Laws.StructEq
namespace Go.Own
open Go
abbrev zA:=@Option.bind_eq_some_iff
abbrev zB:=@List.getElem?_eq_getElem
abbrev zC:=@Option.map_eq_some_iff
abbrev zD:=@Bool.and_eq_true
abbrev zE:=@List.getElem?_eq_some_iff
abbrev zF:=@List.mem_of_getElem?
abbrev zG:=@List.getElem?_eq_none
abbrev zH:=@List.getElem?_append_right
abbrev zI:=@List.getElem?_append_left
abbrev zJ:=@Nat.lt_or_ge
abbrev zK:=@List.getElem?_map
abbrev zL:=@List.all_eq_true
abbrev zM:=@List.getD_eq_getElem?_getD
abbrev zN:=@List.getElem?_set_ne
abbrev zO:=@List.getElem?_set_self
abbrev zP:=@List.getElem?_of_mem
abbrev zQ:=@List.mem_append_right
abbrev zR:=@Nat.mul_le_mul_right
abbrev zS:=@Nat.le_trans
abbrev zT:=@List.mem_append
abbrev zU:=@Option.some.inj
inductive D where
 |dead
 |int (k:IntKind) (n:Int)
 |bool (b:Bool)
 |str (s:List UInt8)
 |sl (sz:Nat) (rows:List (List D))
 |pt (rows:List (List D))
 |mp (m:List (Int×Bool))
 deriving Inhabited
abbrev St:=Nat→List D
def St.upd (σ:St) (s:Nat) (xs:List D):St:=fun t=>if t=s then xs else σ t
inductive Src where
 |cst (d:D)
 |c (s o:Nat)
 |p (s o:Nat) (w:List (Nat×Nat))
 |bx (s:Nat)
 deriving Inhabited
def cellAt (rows:List (List D)) (i o:Nat):Option D:=(rows[i]?).bind (·[o]?)
def idxOf (σ:St) (r:Nat):Option Nat:=
 match σ r with
 | [.int .i64 i]=>if 0≤i then some i.toNat else none
 |_=>none
def wayOf (σ:St):List (Nat×Nat)→Option (List (Nat×Nat))
 | []=>some []
 |(r,o)::w=>match idxOf σ r,wayOf σ w with
  |some i,some l=>some ((i,o)::l)
  |_,_=>none
def D.at:D→List (Nat×Nat)→Option D
 |d,[]=>some d
 | .sl _ rows,(i,o)::w=>match cellAt rows i o with
  |some d=>d.at w
  |none=>none
 |_,_=>none
def Src.ev (σ:St):Src→Option D
 | .cst d=>some d
 | .c s k=>(σ s)[k]?
 | .p s k w=>match (σ s)[k]?,wayOf σ w with
  |some d,some l=>d.at l
  |_,_=>none
 | .bx s=>if (σ s).isEmpty then none else some (.pt [σ s])
def D.live:D→Bool
 | .dead=>false
 |_=>true
def evs (σ:St):List Src→Option (List D)
 | []=>some []
 |x::xs=>match x.ev σ,evs σ xs with
  |some d,some l=>some (d::l)
  |_,_=>none
def evLive (σ:St) (xs:List Src):Option (List D):=(evs σ xs).bind fun l=>if l.all D.live then some l else none
def setCells (l:List D) (off:Nat) (xs:List D):List D:=l.take off++xs++l.drop (off+xs.length)
def D.setAt:D→List (Nat×Nat)→(D→Option D)→Option D
 |d,[],f=>f d
 | .sl sz rows,(i,o)::w,f=>match rows[i]? with
  |some row=>match row[o]? with
   |some d=>match d.setAt w f with
    |some d'=>some (.sl sz (rows.set i (row.set o d')))
    |none=>none
   |none=>none
  |none=>none
 |_,_,_=>none
def most:Nat:=4294967296
inductive Arg where
 |v (xs:List Src) (fl:List Bool) (mu:List (Nat×Nat×List (Nat×Nat)))
 |bx (s:Nat)
 deriving Inhabited
inductive I where
 |chk (t:Nat)
 |set (dst:Nat) (xs:List Src) (fl:List Bool)
 |cpy (dst s:Nat)
 |put (via s off:Nat) (xs:List Src) (fl:List Bool)
 |putp (via s k:Nat) (w:List (Nat×Nat)) (i off sz:Nat) (xs:List Src) (fl:Bool)
 |hole (s k:Nat) (w:List (Nat×Nat))
 |bin (op:BinOp) (dst:Nat) (x y:Src)
 |eqs (neg:Bool) (dst:Nat) (xs ys:List Src) (zs:List D)
 |eqb (neg:Bool) (dst:Nat) (x y:Src)
 |isNil (neg:Bool) (dst:Nat) (x:Src)
 |not (dst:Nat) (x:Src)
 |ng (dst:Nat) (x:Src)
 |pick (dst:Nat) (c x y:Src)
 |len (dst:Nat) (x:Src)
 |slen (dst:Nat) (x:Src)
 |idx (dst sz:Nat) (x i:Src)
 |row (dst sz:Nat) (x i:Src)
 |deref (dst:Nat) (x:Src)
 |sidx (dst:Nat) (x i:Src)
 |ssl (dst:Nat) (x:Src) (lo hi:Option Src)
 |sub (dst sz:Nat) (x:Src) (lo hi:Option Src)
 |app (dst sz:Nat) (x y:Src) (fl:Bool)
 |lit (dst sz:Nat) (rows:List (List Src))
 |mk (dst:Nat) (zero:List D) (n:Src)
 |conv (dst:Nat) (k:IntKind) (x:Src)
 |b2s (dst:Nat) (x:Src)
 |mnew (dst:Nat)
 |mget (dst m:Nat) (key:Src)
 |mput (via m:Nat) (key val:Src)
 |mm (max:Bool) (dst:Nat) (x y:Src)
 |call (f:Nat) (args:List Arg) (dst:Nat)
 deriving Inhabited
abbrev Env:=Nat→List (List D)→Option (List (List D))
def intBin (op:BinOp) (k:IntKind) (a b:Int):Option D:=
 match op with
 | .add=>some (.int k (k.wrap (a+b)))
 | .sub=>some (.int k (k.wrap (a-b)))
 | .mul=>some (.int k (k.wrap (a*b)))
 | .quo=>if b=0 then none else some (.int k (k.wrap (a.tdiv b)))
 | .rem=>if b=0 then none else some (.int k (a.tmod b))
 | .and=>some (.int k (k.wrap (BitVec.ofInt k.bits a&&&BitVec.ofInt k.bits b).toNat))
 | .or=>some (.int k (k.wrap (BitVec.ofInt k.bits a|||BitVec.ofInt k.bits b).toNat))
 | .xor=>some (.int k (k.wrap (BitVec.ofInt k.bits a ^^^ BitVec.ofInt k.bits b).toNat))
 | .eql=>some (.bool (a==b))
 | .neq=>some (.bool (a !=b))
 | .lss=>some (.bool (decide (a<b)))
 | .leq=>some (.bool (decide (a≤b)))
 | .gtr=>some (.bool (decide (b<a)))
 | .geq=>some (.bool (decide (b≤a)))
 |_=>none
def shBin (op:BinOp) (k:IntKind) (a b:Int):Option D:=
 if b<0 then none else
 match op with
 | .shl=>some (.int k (k.wrap (a*2 ^ (min b.toNat k.bits))))
 | .shr=>some (.int k (a.fdiv (2 ^ (min b.toNat k.bits))))
 |_=>none
def evBin (op:BinOp):D→D→Option D
 | .int k a, .int k' b=>if op= .shl∨op= .shr then shBin op k a b else if k=k' then intBin op k a b else none
 | .str a, .str b=>match op with
  | .add=>if a.length+b.length≤most then some (.str (a++b)) else none
  | .eql=>some (.bool (a==b))
  | .neq=>some (.bool (a !=b))
  |_=>none
 |_,_=>none
def D.same:D→D→Option Bool
 | .int k a, .int k' b=>if k=k' then some (a==b) else none
 | .bool a, .bool b=>some (a==b)
 | .str a, .str b=>some (a==b)
 |_,_=>none
def sames:List D→List D→Option Bool
 | [],[]=>some true
 |x::xs,y::ys=>match x.same y,sames xs ys with
  |some a,some b=>some (a&&b)
  |_,_=>none
 |_,_=>none
def natOf:D→Option Nat
 | .int _ i=>if 0≤i then some i.toNat else none
 |_=>none
def endOf (n:Nat):Option D→Option Nat
 |some d=>natOf d
 |none=>some n
def cut {α:Type} (l:List α) (lo hi:Option D):Option (List α):=
 match endOf 0 lo,endOf l.length hi with
 |some a,some b=>if a≤b∧b≤l.length then some ((l.take b).drop a) else none
 |_,_=>none
def mapGet:List (Int×Bool)→Int→Bool
 | [],_=>false
 |(k,v)::m,i=>if i=k then v else mapGet m i
def mapPut:List (Int×Bool)→Int→Bool→List (Int×Bool)
 | [],i,b=>[(i,b)]
 |(k,v)::m,i,b=>if i=k then (k,b)::m else (k,v)::mapPut m i b
def bytesOfRows:List (List D)→Option (List UInt8)
 | []=>some []
 | [.int .u8 n]::r=>(bytesOfRows r).map (UInt8.ofNat n.toNat::·)
 |_=>none
def optEv (σ:St):Option Src→Option (Option D)
 |none=>some none
 |some x=>(x.ev σ).map some
def D.flat:D→Bool
 | .int .. | .bool _| .str _=>true
 |_=>false
def flat:List Bool→List D→Bool
 |true::fl,d::l=>d.flat&&flat fl l
 |false::fl,d::l=> !d.flat&&flat fl l
 |_,_=>true
def argIn (σ:St):Arg→Option (List D)
 | .v xs fl _=>(evLive σ xs).bind fun l=>if flat fl l then some l else none
 | .bx s=>if (σ s).isEmpty then none else some (σ s)
def argsIn (σ:St):List Arg→Option (List (List D))
 | []=>some []
 |a::l=>match argIn σ a,argsIn σ l with
  |some x,some y=>some (x::y)
  |_,_=>none
def backD (w:List (Nat×Nat)) (d old:D):Option D:=match w,old,d with
 | [], .sl a _, .sl b _=>if a=b then some d else none
 |_::_, .dead, .sl _ _=>some d
 |_,_,_=>none
def backMu (σ:St):List (Nat×Nat×List (Nat×Nat))→List D→Option St
 | [],[]=>some σ
 |(s,o,w)::l,d::ds=>match (σ s)[o]?,wayOf σ w with
  |some x,some way=>match x.setAt way (backD w d) with
   |some x'=>backMu (σ.upd s ((σ s).set o x')) l ds
   |none=>none
  |_,_=>none
 |_,_=>none
def backs (σ:St):List Arg→List (List D)→Option St
 | [],[]=>some σ
 | .v _ _ []::l,os=>backs σ l os
 | .v _ _ mu::l,o::os=>match backMu σ mu o with
  |some σ'=>backs σ' l os
  |none=>none
 | .bx s::l,o::os=>backs (σ.upd s o) l os
 |_,_=>none
def I.ev (env:Env) (σ:St):I→Option St
 | .chk t=>if (σ t).isEmpty then none else some σ
 | .set dst xs fl=>(evs σ xs).bind fun l=>if flat fl l then some (σ.upd dst l) else none
 | .cpy dst s=>if (σ s).isEmpty then none else some (σ.upd dst (σ s))
 | .put via s off xs fl=>if (σ via).isEmpty then none else (evs σ xs).bind fun l=>
  if off+l.length≤(σ s).length∧flat fl l=true then some (σ.upd s (setCells (σ s) off l)) else none
 | .putp via s k w i off sz xs fl=>if (σ via).isEmpty then none else (evs σ xs).bind fun l=>
  match (σ s)[k]?,wayOf σ w,idxOf σ i with
  |some d,some way,some n=>
   (d.setAt way fun| .sl sz' rows=>(rows[n]?).bind fun row=>if sz=sz'∧off+l.length≤row.length∧(!fl||(((row.drop off).take l.length).all D.flat&&l.all D.flat))=true then some (.sl sz (rows.set n (setCells row off l))) else none|_=>none).map fun d'=>σ.upd s ((σ s).set k d')
  |_,_,_=>none
 | .hole s k w=>match (σ s)[k]?,wayOf σ w with
  |some d,some way=>(d.setAt way fun _=>some .dead).map fun d'=>σ.upd s ((σ s).set k d')
  |_,_=>none
 | .bin op dst x y=>(x.ev σ).bind fun a=>(y.ev σ).bind fun b=>(evBin op a b).map fun r=>σ.upd dst [r]
 | .eqs neg dst xs ys zs=>(evs σ xs).bind fun a=>(evs σ ys).bind fun b=>if (sames a zs).isSome then (sames a b).map fun r=>σ.upd dst [.bool (r !=neg)] else none
 | .eqb neg dst x y=>(x.ev σ).bind fun a=>(y.ev σ).bind fun b=>match a,b with
  | .bool a, .bool b=>some (σ.upd dst [.bool ((a==b) !=neg)])
  |_,_=>none
 | .isNil neg dst x=>(x.ev σ).bind fun| .pt rows=>some (σ.upd dst [.bool (rows.isEmpty !=neg)])|_=>none
 | .not dst x=>(x.ev σ).bind fun| .bool b=>some (σ.upd dst [.bool (!b)])|_=>none
 | .ng dst x=>(x.ev σ).bind fun| .int k n=>some (σ.upd dst [.int k (k.wrap (0-n))])|_=>none
 | .pick dst c x y=>(c.ev σ).bind fun| .bool b=>((if b then x else y).ev σ).map fun r=>σ.upd dst [r]|_=>none
 | .len dst x=>(x.ev σ).bind fun
  | .sl _ rows=>some (σ.upd dst [.int .i64 rows.length])
  |_=>none
 | .slen dst x=>(x.ev σ).bind fun
  | .str s=>some (σ.upd dst [.int .i64 s.length])
  |_=>none
 | .idx dst sz x i=>(x.ev σ).bind fun a=>(i.ev σ).bind fun b=>match a,b with
  | .sl sz' rows, .int _ n=>if sz=sz'∧0≤n∧n<rows.length then some (σ.upd dst [.int .i64 n]) else none
  |_,_=>none
 | .row dst sz x i=>(x.ev σ).bind fun a=>(i.ev σ).bind fun b=>match a,b with
  | .sl sz' rows, .int _ n=>if sz=sz'∧0≤n then (rows[n.toNat]?).map (σ.upd dst) else none
  |_,_=>none
 | .deref dst x=>(x.ev σ).bind fun
  | .pt [xs]=>some (σ.upd dst xs)
  |_=>none
 | .sidx dst x i=>(x.ev σ).bind fun a=>(i.ev σ).bind fun b=>match a,b with
  | .str s, .int _ n=>if 0≤n then (s[n.toNat]?).map fun c=>σ.upd dst [.int .u8 c.toNat] else none
  |_,_=>none
 | .ssl dst x lo hi=>(x.ev σ).bind fun a=>(optEv σ lo).bind fun l=>(optEv σ hi).bind fun h=>match a with
  | .str s=>(cut s l h).map fun r=>σ.upd dst [.str r]
  |_=>none
 | .sub dst sz x lo hi=>(x.ev σ).bind fun a=>(optEv σ lo).bind fun l=>(optEv σ hi).bind fun h=>match a with
  | .sl sz' rows=>if sz=sz' then (cut rows l h).map fun r=>σ.upd dst [.sl sz r] else none
  |_=>none
 | .app dst sz x y fl=>(x.ev σ).bind fun a=>(y.ev σ).bind fun b=>match a,b with
  | .sl sz1 xs, .sl sz2 ys=>if sz=sz1∧sz=sz2∧xs.length+ys.length≤most∧(!fl||(xs.all (·.all D.flat)&&ys.all (·.all D.flat)))=true then some (σ.upd dst [.sl sz (xs++ys)]) else none
  |_,_=>none
 | .lit dst sz rows=>(rows.mapM (evs σ)).map fun l=>σ.upd dst [.sl sz l]
 | .mk dst zero n=>(n.ev σ).bind fun| .int _ i=>if 0≤i∧i≤most then some (σ.upd dst [.sl zero.length (List.replicate i.toNat zero)]) else none|_=>none
 | .conv dst k x=>(x.ev σ).bind fun| .int _ n=>some (σ.upd dst [.int k (k.wrap n)])|_=>none
 | .b2s dst x=>(x.ev σ).bind fun| .sl 1 rows=>(bytesOfRows rows).map fun s=>σ.upd dst [.str s]|_=>none
 | .mnew dst=>some (σ.upd dst [.mp []])
 | .mget dst m key=>(key.ev σ).bind fun k=>match σ m,k with
  | [.mp l], .int .i64 i=>some (σ.upd dst [.bool (mapGet l i)])
  |_,_=>none
 | .mput via m key val=>if (σ via).isEmpty then none else (key.ev σ).bind fun k=>(val.ev σ).bind fun v=>match σ m,k,v with
  | [.mp l], .int .i64 i, .bool b=>some (σ.upd m [.mp (mapPut l i b)])
  |_,_,_=>none
 | .mm max dst x y=>(x.ev σ).bind fun a=>(y.ev σ).bind fun b=>match a,b with
  | .int k i, .int _ j=>some (σ.upd dst [.int k (if max then (if j>i then j else i) else (if j<i then j else i))])
  |_,_=>none
 | .call f args dst=>(argsIn σ args).bind fun ins=>(env f ins).bind fun
  |res::os=>(backs σ args os).map fun σ'=>σ'.upd dst res
  | []=>none
structure LI where
 guard:Option (Nat×Bool)
 dst:Option Nat
 nb:Bool
 is:List I
 deriving Inhabited
def evIs (env:Env):List I→St→Option St
 | [],σ=>some σ
 |i::l,σ=>(i.ev env σ).bind (evIs env l)
def LI.nbOk (x:LI) (σ:St):Bool:=match x.nb,x.dst with
 |true,some d=> !(σ d).isEmpty
 |_,_=>true
def LI.run (env:Env) (σ:St) (x:LI):Option St:=(evIs env x.is σ).bind fun σ'=>if x.nbOk σ'=true then some σ' else none
def LI.skip (σ:St) (x:LI):St:=match x.dst with|some d=>σ.upd d []|none=>σ
def LI.ev (env:Env) (σ:St) (x:LI):Option St:=
 match x.guard with
 |none=>x.run env σ
 |some (g,want)=>match σ g with
  | [.bool b]=>if b=want then x.run env σ else some (x.skip σ)
  | []=>some (x.skip σ)
  |_=>none
def evLs (env:Env):List LI→St→Option St
 | [],σ=>some σ
 |x::l,σ=>(x.ev env σ).bind (evLs env l)
inductive L where
 |skip
 |ops (l:List LI)
 |seq (a b:L)
 |cond (c:Src) (a b:L)
 |block (id:Nat) (a:L)
 |loop (a:L)
 |exit (id:Nat)
 |ret
 deriving Inhabited
inductive Out where
 |norm|exit (id:Nat)|ret
 deriving DecidableEq,Inhabited
def iter (f:St→Option (Out×St)):Nat→St→Option (Out×St)
 |0,_=>none
 |n+1,σ=>match f σ with
  |some (.norm,σ')=>iter f n σ'
  |r=>r
def L.ev (env:Env) (n:Nat):L→St→Option (Out×St)
 | .skip,σ=>some (.norm,σ)
 | .ops l,σ=>(evLs env l σ).map fun σ'=>(.norm,σ')
 | .seq a b,σ=>match L.ev env n a σ with
  |some (.norm,σ')=>L.ev env n b σ'
  |r=>r
 | .cond c a b,σ=>match c.ev σ with
  |some (.bool true)=>L.ev env n a σ
  |some (.bool false)=>L.ev env n b σ
  |_=>none
 | .block id a,σ=>match L.ev env n a σ with
  |some (.exit i,σ')=>if i=id then some (.norm,σ') else some (.exit i,σ')
  |r=>r
 | .loop a,σ=>iter (L.ev env n a) n σ
 | .exit id,σ=>some (.exit id,σ)
 | .ret,σ=>some (.ret,σ)
def guardO {α:Type} (b:Bool) (x:Option α):Option α:=if b then x else none
theorem guardO_some {α:Type} {b:Bool} {x:Option α} {y:α}:guardO b x=some y↔b=true∧x=some y:=by
 cases b<;>simp[guardO]
def DEEP:Nat:=1000
def owns (n k:Nat):Bool:=decide (DEEP≤n)||decide (k<n)
def subN (n k:Nat):Nat:=if DEEP≤n then n else n-k
def addN (n k:Nat):Nat:=if DEEP≤n then n else min (n+k) (DEEP-1)
def isDeep (n:Nat):Bool:=decide (DEEP≤n)
abbrev Rts:=List (Nat×Nat×Nat)
inductive Tag where
 |dead
 |sc
 |own (n:Nat) (rs:Rts)
 |loan (s o v:Nat) (w:List (Nat×Nat×Nat))
 |pre (s o v:Nat)
 deriving DecidableEq,Inhabited,Repr
inductive Shape where
 |one
 |agg
 |tup (l:List (Bool×Nat))
 deriving DecidableEq,Inhabited,Repr
inductive Ent where
 |none
 |val (sh:Shape) (ts:List Tag)
 |box (ty:Nat) (ts:List Tag)
 |ptr (b v off:Nat)
 |eptr (s o v:Nat) (w:List (Nat×Nat×Nat)) (i iv off sz:Nat)
 |rptr (rs:Rts) (off:Nat)
 |map
 |mal (s v:Nat)
 deriving DecidableEq,Inhabited,Repr
structure Slot where
 ent:Ent:= .none
 ver:Nat:=0
 dv:Nat:=0
 hv:Nat:=0
 idv:Nat:=0
 deriving DecidableEq,Inhabited
abbrev G:=List Slot
def G.at (g:G) (s:Nat):Slot:=(g[s]?).getD {ent:= .none}
def G.ent (g:G) (s:Nat):Ent:=(g.at s).ent
def G.ver (g:G) (s:Nat):Nat:=(g.at s).ver
def G.dv (g:G) (s:Nat):Nat:=(g.at s).dv
def G.hv (g:G) (s:Nat):Nat:=(g.at s).hv
def G.idv (g:G) (s:Nat):Nat:=(g.at s).idv
def G.tch (g:G) (s:Nat) (e:Ent):G:=g.set s ⟨e,g.ver s+1,g.dv s+1,g.hv s+1,g.idv s+1⟩
def G.trn (g:G) (s:Nat) (e:Ent):G:=g.set s ⟨e,g.ver s+1,g.dv s+1,g.hv s+1,g.idv s⟩
def G.elm (g:G) (s:Nat) (e:Ent):G:=g.set s ⟨e,g.ver s+1,g.dv s+1,g.hv s,g.idv s⟩
def G.scal (g:G) (s:Nat) (e:Ent):G:=g.set s ⟨e,g.ver s+1,g.dv s,g.hv s,g.idv s⟩
def G.same (g:G) (s:Nat) (e:Ent):G:=g.set s ⟨e,g.ver s,g.dv s,g.hv s,g.idv s⟩
section force
variable {α β:Type}
def forceN (n:Nat) (k:Nat→β):β:=match n with
 |0=>k 0
 |n+1=>k (n+1)
def forceL (f:α→(α→β)→β):List α→(List α→β)→β
 | [],k=>k []
 |x::l,k=>f x fun x'=>forceL f l fun l'=>k (x'::l')
def force3 (x:Nat×Nat×Nat) (k:Nat×Nat×Nat→β):β:=match x with
 |(a,b,c)=>forceN a fun a=>forceN b fun b=>forceN c fun c=>k (a,b,c)
def forceBN (x:Bool×Nat) (k:Bool×Nat→β):β:=match x with
 |(true,n)=>forceN n fun n=>k (true,n)
 |(false,n)=>forceN n fun n=>k (false,n)
def forceT (t:Tag) (k:Tag→β):β:=match t with
 | .dead=>k .dead
 | .sc=>k .sc
 | .own n rs=>forceN n fun n=>forceL force3 rs fun rs=>k (.own n rs)
 | .loan s o v w=>forceN s fun s=>forceN o fun o=>forceN v fun v=>forceL force3 w fun w=>k (.loan s o v w)
 | .pre s o v=>forceN s fun s=>forceN o fun o=>forceN v fun v=>k (.pre s o v)
def forceSh (s:Shape) (k:Shape→β):β:=match s with
 | .one=>k .one
 | .agg=>k .agg
 | .tup l=>forceL forceBN l fun l=>k (.tup l)
def forceE (e:Ent) (k:Ent→β):β:=match e with
 | .none=>k .none
 | .val sh ts=>forceSh sh fun sh=>forceL forceT ts fun ts=>k (.val sh ts)
 | .box ty ts=>forceN ty fun ty=>forceL forceT ts fun ts=>k (.box ty ts)
 | .ptr b v off=>forceN b fun b=>forceN v fun v=>forceN off fun off=>k (.ptr b v off)
 | .eptr s o v w i iv off sz=>forceN s fun s=>forceN o fun o=>forceN v fun v=>forceL force3 w fun w=>forceN i fun i=>forceN iv fun iv=>forceN off fun off=>forceN sz fun sz=>k (.eptr s o v w i iv off sz)
 | .rptr rs off=>forceL force3 rs fun rs=>forceN off fun off=>k (.rptr rs off)
 | .map=>k .map
 | .mal s v=>forceN s fun s=>forceN v fun v=>k (.mal s v)
def forceS (x:Slot) (k:Slot→β):β:=match x with
 |⟨e,a,b,c,d⟩=>forceE e fun e=>forceN a fun a=>forceN b fun b=>forceN c fun c=>forceN d fun d=>k ⟨e,a,b,c,d⟩
def forceG (g:G) (k:G→β):β:=forceL forceS g k
theorem forceN_eq (n:Nat) (k:Nat→β):forceN n k=k n:=by cases n<;>rfl
theorem forceL_eq {f:α→(α→β)→β} (hf:∀x k,f x k=k x):∀(l:List α) (k:List α→β),forceL f l k=k l
 | [],k=>rfl
 |x::l,k=>by simp only[forceL,hf,forceL_eq hf l]
theorem force3_eq (x:Nat×Nat×Nat) (k:Nat×Nat×Nat→β):force3 x k=k x:=by obtain ⟨a,b,c⟩:=x;simp only[force3,forceN_eq]
theorem forceBN_eq (x:Bool×Nat) (k:Bool×Nat→β):forceBN x k=k x:=by obtain ⟨a,b⟩:=x;cases a<;>simp only[forceBN,forceN_eq]
theorem forceT_eq (t:Tag) (k:Tag→β):forceT t k=k t:=by cases t<;>simp only[forceT,forceN_eq,forceL_eq force3_eq]
theorem forceSh_eq (t:Shape) (k:Shape→β):forceSh t k=k t:=by cases t<;>simp only[forceSh,forceL_eq forceBN_eq]
theorem forceE_eq (t:Ent) (k:Ent→β):forceE t k=k t:=by cases t<;>simp only[forceE,forceN_eq,forceL_eq force3_eq,forceL_eq forceT_eq,forceSh_eq]
theorem forceS_eq (t:Slot) (k:Slot→β):forceS t k=k t:=by obtain ⟨e,a,b,c,d⟩:=t;simp only[forceS,forceN_eq,forceE_eq]
theorem forceG_eq (g:G) (k:G→β):forceG g k=k g:=forceL_eq forceS_eq g k
end force
inductive CK where
 |flat (zero:D)
 |sl (sz:Nat)
 |pt
 |mp
 deriving Inhabited
def CK.isFlat:CK→Bool
 | .flat _=>true
 |_=>false
def kindsFs (f:TypeId→Option (List CK)):List Field→List CK→Option (List CK)
 | [],acc=>some acc
 |fd::l,acc=>guardO (fd.offset==acc.length) ((f fd.type).bind fun ks=>kindsFs f l (acc++ks))
def kindsAt (P:Program):Nat→TypeId→Option (List CK)
 |0,_=>none
 |f+1,t=>match P.underlying t with
  |some (.int k)=>some [.flat (.int k 0)]
  |some .bool=>some [.flat (.bool false)]
  |some .string=>some [.flat (.str [])]
  |some (.slice e)=>some [.sl (P.cellsOf e)]
  |some (.pointer _)=>some [.pt]
  |some (.map _ _)=>some [.mp]
  |some (.struct fs)=>kindsFs (kindsAt P f) fs.toList []
  |_=>none
def kinds (P:Program) (t:TypeId):Option (List CK):=kindsAt P 12 t
def isAggB (P:Program) (t:TypeId):Bool:=match P.underlying t with
 |some (.struct _)|some (.array _ _)=>true
 |_=>false
def isStructB (P:Program) (t:TypeId):Bool:=match P.underlying t with
 |some (.struct _)=>true
 |_=>false
def sliceElem (P:Program) (t:TypeId):Option TypeId:=match P.underlying t with
 |some (.slice e)=>some e
 |_=>none
def shapeOf (P:Program) (t:TypeId):Shape:=if isAggB P t then .agg else .one
def CK.zero:CK→Option D
 | .flat z=>some z
 | .sl sz=>some (.sl sz [])
 | .pt=>some (.pt [])
 | .mp=>none
def D.isZeroOf:D→Value→Bool
 | .int k n, .int k' m=>decide (k=k')&&decide (n=m)
 | .bool a, .bool b=>a==b
 | .str s, .string b=>s.isEmpty&&b.data.isEmpty
 | .sl _ rows, .slice none 0 0=>rows.isEmpty
 | .pt rows, .pointer none=>rows.isEmpty
 |_,_=>false
def zerosFit:List D→List Value→Bool
 | [],[]=>true
 |d::ds,v::vs=>d.isZeroOf v&&zerosFit ds vs
 |_,_=>false
def zeroOf:List CK→Option (List D)
 | []=>some []
 |k::l=>k.zero.bind fun d=>(zeroOf l).map (d::·)
def zeros (P:Program) (t:TypeId):Option (List CK×List D):=
 (kinds P t).bind fun ks=>(zeroOf ks).bind fun ds=>(P.info? t).bind fun i=>i.zero.bind fun z=>
 guardO (zerosFit ds z.cells.toList&&(i.size==ds.length)&&(isAggB P t==(match z with| .agg _=>true|_=>false))) (some (ks,ds))
def BOX:Nat:=999
structure Cel where
 tag:Tag
 src:Src
 s:Nat
 o:Nat
 deriving Inhabited
def celsFrom (s:Nat):Nat→List Tag→List Cel
 |_,[]=>[]
 |i,t::ts=>⟨t, .c s i,s,i⟩::celsFrom s (i+1) ts
def celsOf (s:Nat) (ts:List Tag):List Cel:=celsFrom s 0 ts
def curW (g:G) (w:List (Nat×Nat×Nat)):Bool:=w.all fun x=>g.ver x.1==x.2.1
def curR (g:G) (rs:Rts):Bool:=rs.all fun x=>g.ver x.1==x.2.2
def curL (g:G) (s v:Nat) (w:List (Nat×Nat×Nat)):Bool:=(if w.isEmpty then g.hv s else g.dv s)==v&&curW g w
def wayW (w:List (Nat×Nat×Nat)):List (Nat×Nat):=w.map fun x=>(x.1,x.2.2)
def tagAt (g:G) (s o:Nat):Tag:=match g.ent s with
 | .val _ ts| .box _ ts=>ts.getD o .dead
 |_=> .dead
def ownAt (g:G) (s o:Nat):Option (Nat×Rts):=if o=BOX then none else match tagAt g s o with
 | .own n rs=>if curR g rs then some (n,rs) else none
 |_=>none
def unionR (a b:Rts):Rts:=a++b.filter fun x=> !a.contains x
def constCel (P:Program) (ty:TypeId):Value→Option Cel
 | .int k n=>some ⟨.sc, .cst (.int k n),0,0⟩
 | .bool b=>some ⟨.sc, .cst (.bool b),0,0⟩
 | .string s=>some ⟨.sc, .cst (.str s.data.toList),0,0⟩
 | .slice none 0 0=>(sliceElem P ty).map fun e=>⟨.own DEEP [], .cst (.sl (P.cellsOf e) []),0,0⟩
 | .pointer none=>some ⟨.own DEEP [], .cst (.pt []),0,0⟩
 |_=>none
def boxTag (g:G):List Tag→Option (Nat×Rts)
 | []=>some (DEEP,[])
 | .sc::l=>boxTag g l
 | .own n rs::l=>if curR g rs then (boxTag g l).map fun x=>(min n x.1,unionR rs x.2) else none
 |_=>none
def boxCel (g:G) (b:Nat) (ts:List Tag):Option Cel:=
 (boxTag g ts).map fun x=>⟨.own (addN x.1 1) x.2, .bx b,b,BOX⟩
def boxAt (g:G) (t:Nat):Option (Nat×Nat):=
 match g.ent t with
 | .box _ _=>some (t,0)
 | .ptr b v off=>if g.idv b=v then (match g.ent b with| .box _ _=>some (b,off)|_=>none) else none
 |_=>none
def boxTags (g:G) (b:Nat):List Tag:=match g.ent b with| .box _ ts=>ts|_=>[]
def boxTy (g:G) (b:Nat):Nat:=match g.ent b with| .box ty _=>ty|_=>0
def zeroTag (d:D):Tag:=if d.flat then .sc else .own DEEP []
def zeroCels (ds:List D):List Cel:=ds.map fun d=>⟨zeroTag d, .cst d,0,0⟩
def cels (P:Program) (g:G) (ty:TypeId):Operand→Option (Shape×List Cel)
 | .tmp t=>match g.ent t with
  | .val sh ts=>some (sh,celsOf t ts)
  |_=>match boxAt g t with
   |some (b,0)=>(boxCel g b (boxTags g b)).map fun c=>(.one,[c])
   |_=>none
 | .const (.agg cs)=>(zeros P ty).bind fun z=>guardO (zerosFit z.2 cs.toList) (some (.agg,zeroCels z.2))
 | .const v=>(constCel P ty v).map fun c=>(.one,[c])
 |_=>none
def cel1 (P:Program) (g:G) (ty:TypeId) (x:Operand):Option Cel:=match cels P g ty x with
 |some (.one,[c])=>some c
 |_=>none
def Cel.rd (g:G) (c:Cel):Option (Src×Rts):=
 match c.tag with
 | .dead=>none
 | .sc=>some (c.src,[])
 | .own n rs=>guardO (curR g rs) (match c.src with
  | .cst _=>some (c.src,[])
  | .bx _=>none
  |_=>some (c.src,if n=0 then rs else unionR [(c.s,c.o,g.ver c.s)] rs))
 | .loan s o v w=>guardO (curL g s v w) ((ownAt g s o).map fun x=>
   (if w.isEmpty then .c s o else .p s o (wayW w),if owns x.1 w.length then unionR [(s,o,g.ver s)] x.2 else x.2))
 | .pre s o v=>guardO (g.ver s==v) ((ownAt g s o).map fun x=>(c.src,if x.1=0 then x.2 else unionR [(s,o,v)] x.2))
structure Mv where
 src:Src
 n:Nat
 rs:Rts
 frm:Option (Nat×Nat×List (Nat×Nat))
 deriving Inhabited
def Cel.mv (g:G) (c:Cel):Option Mv:=
 match c.tag with
 | .dead=>none
 | .sc=>some ⟨c.src,DEEP,[],none⟩
 | .own n rs=>guardO (curR g rs) (match c.src with
  | .cst _=>some ⟨c.src,DEEP,[],none⟩
  | .bx _=>guardO (n !=0) (some ⟨c.src,n,rs,some (c.s,BOX,[])⟩)
  |_=>guardO (c.o !=BOX) (some ⟨c.src,n,rs,if n=0 then none else some (c.s,c.o,[])⟩))
 | .loan s o v w=>guardO (curL g s v w) ((ownAt g s o).map fun x=>
   if w.isEmpty then ⟨.c s o,x.1,x.2,if x.1=0 then none else some (s,o,[])⟩
   else if owns x.1 w.length then ⟨.p s o (wayW w),subN x.1 w.length,x.2,some (s,o,wayW w)⟩
   else ⟨.p s o (wayW w),0,x.2,none⟩)
 | .pre s o v=>guardO (g.ver s==v) ((ownAt g s o).bind fun x=>guardO (x.1 !=0) (some ⟨c.src,x.1,x.2,some (s,o,[])⟩))
def Cel.cp (g:G) (c:Cel):Option Mv:=
 (c.rd g).map fun x=>⟨x.1,match c.tag,c.src with| .sc,_=>DEEP| .own _ _, .cst _=>DEEP|_,_=>0,x.2,none⟩
def reTag (f:G→Nat→Ent→G) (g:G) (s o:Nat) (t:Tag):G:=match g.ent s with
 | .val sh ts=>f g s (.val sh (ts.set o t))
 | .box ty ts=>f g s (.box ty (ts.set o t))
 |_=>g
def killTag (g:G) (s o:Nat):G:=if o=BOX then g.tch s .none else reTag G.elm g s o .dead
def kills (g:G):List Mv→G
 | []=>g
 |m::l=>match m.frm with
  |none=>kills g l
  |some (s,o,[])=>kills (killTag g s o) l
  |some (s,_,_::_)=>kills (g.elm s (g.ent s)) l
def forget:Nat→Nat→G→G
 |_,0,g=>g
 |b,n+1,g=>forget (b+1) n (g.tch b .none)
def leftSlots (l:List Mv):List Nat:=l.filterMap fun m=>m.frm.map (·.1)
def nodupB {α:Type} [DecidableEq α]:List α→Bool
 | []=>true
 |a::l=> !l.contains a&&nodupB l
def wayApart:List (Nat×Nat)→List (Nat×Nat)→Bool
 |(r,o)::w,(r',o')::w'=>r==r'&&(o !=o'||wayApart w w')
 |_,_=>false
def frmApart (a b:Nat×Nat×List (Nat×Nat)):Bool:=
 a.1 !=b.1||(a.2.1 !=b.2.1&&a.2.1 !=BOX&&b.2.1 !=BOX)||(a.2.1==b.2.1&&wayApart a.2.2 b.2.2)
def pairs {α:Type} (f:α→α→Bool):List α→Bool
 | []=>true
 |a::l=>l.all (f a)&&pairs f l
def noWays (l:List Mv):Bool:=l.all fun m=>match m.frm with|some (_,_,_::_)=>false|_=>true
def PAR:Nat:=1000000
def Src.low (base:Nat):Src→Bool
 | .cst _=>true
 | .c s _| .bx s=>decide (s<base)
 | .p s _ w=>decide (s<base)&&w.all fun y=>decide (y.1<base)
def mvsOk (base:Nat) (l:List Mv):Bool:=
 pairs frmApart (l.filterMap (·.frm))&&(l.all fun m=>m.rs.all fun r=> !(leftSlots l).contains r.1)&&
 (noWays l||(decide (l.length≤60)&&l.all fun m=>m.src.low base&&(m.rs.all fun r=>decide (r.1<base)||decide (PAR≤r.1))&&
  match m.frm with|none=>true|some (s,_,w)=>decide (s<base)&&w.all fun y=>decide (y.1<base)))
def liftSets (base:Nat):List Mv→List I
 | []=>[]
 |m::l=> .set base [m.src] []::liftSets (base+1) l
def liftHoles:List Mv→List I
 | []=>[]
 |m::l=>match m.frm with
  |some (s,o,x::w)=> .hole s o (x::w)::liftHoles l
  |_=>liftHoles l
def liftRegs (base:Nat):List Mv→List Src
 | []=>[]
 |_::l=> .c base 0::liftRegs (base+1) l
def lifts (base:Nat) (l:List Mv):List I×List Src:=
 if noWays l then ([],l.map (·.src)) else (liftSets base l++liftHoles l,liftRegs base l)
def leaves (base:Nat) (g:G) (l:List Mv):G:=kills (if noWays l then g else forget base l.length g) l
def ALL:Nat:=999999
def isTup:Ent→Bool
 | .val (.tup _) _=>true
 |_=>false
def deadMv:Mv:=⟨.cst .dead,0,[],none⟩
def carry (g:G) (mvLoans:List Nat) (loanOwn:Bool) (c:Cel):Option (Tag×Mv):=
 match c.tag with
 | .dead=>some (.dead,deadMv)
 | .sc=>some (.sc,⟨c.src,DEEP,[],none⟩)
 | .own n rs=>
  if !curR g rs then some (.dead,deadMv)
  else match c.src with
   | .c s o=>if loanOwn&&n !=0 then some (.loan s o (g.hv s) [],deadMv) else (c.mv g).map fun m=>(.own n rs,m)
   |_=>(c.mv g).map fun m=>(.own n rs,m)
 | .loan s o v w=>
  if mvLoans.contains s||(mvLoans.contains ALL&&w.isEmpty)||isTup (g.ent s) then (c.mv g).map fun m=>(.own m.n m.rs,m)
  else some (.loan s o v w,deadMv)
 | .pre s o v=>match c.cp g with
  |some m=>some (.pre s o v,m)
  |none=>some (.dead,deadMv)
def carries (g:G) (mvLoans:List Nat) (loanOwn:Bool):List Cel→Option (List (Tag×Mv))
 | []=>some []
 |c::l=>(carry g mvLoans loanOwn c).bind fun t=>(carries g mvLoans loanOwn l).map (t::·)
def isScT:Tag→Bool
 | .sc=>true
 |_=>false
def flOf (ts:List Tag):List Bool:=ts.map isScT
abbrev RC:=Option (Nat×List Nat)
structure PC where
 n:Option Nat
 out:RC:=none
 deriving Inhabited,Repr,DecidableEq
inductive PSig where
 |v (cs:List PC)
 |bx (ty:Nat) (tin:List (Option Nat)) (tout:List RC)
 deriving Inhabited,Repr
inductive RSig where
 |v (agg:Bool) (ts:List RC)
 |bx (ty:Nat) (ts:List RC)
 deriving Inhabited,Repr
structure Sig where
 params:List PSig
 res:List RSig
 deriving Inhabited,Repr
structure Cx where
 P:Program
 sigs:Nat→Option Sig
 base:Nat
 np:Nat
 share:List Nat
 take:List Nat
 rv:List ResultVar:=[]
 sg:Sig:=⟨[],[]⟩
 tys:List TypeId:=[]
def tagOf (j:Nat):Option Nat→Tag
 |none=> .sc
 |some n=> .own n (if isDeep n then [] else [(PAR+j,0,0)])
def minN:List Mv→Nat
 | []=>DEEP
 |m::l=>min m.n (minN l)
def allR:List Mv→Rts
 | []=>[]
 |m::l=>unionR m.rs (allR l)
def stayAt (g:G) (s o n':Nat):G:=match ownAt g s o with
 |some (n,rs)=>if owns n n' then reTag G.same g s o (.own n' rs) else g
 |none=>g
def stayCel (g:G) (c:Cel):G:=
 match c.tag with
 | .own _ _=>match c.src with
  | .c s o=>stayAt g s o 0
  |_=>g
 | .loan s o v w=>if curL g s v w then stayAt g s o w.length else g
 |_=>g
def stays (g:G):List Cel→G
 | []=>g
 |c::l=>stays (stayCel g c) l
def staySlots (l:List Cel):List Nat:=l.filterMap fun c=>match c.tag with
 | .own _ _=>match c.src with| .c s _=>some s|_=>none
 | .loan s _ _ _=>some s
 |_=>none
def rowMvs (g:G) (share:Bool):List Cel→Option (List Mv)
 | []=>some []
 |c::l=>(if share then c.cp g else c.mv g).bind fun m=>(rowMvs g share l).map (m::·)
def frzTag (s:Nat):Tag→Tag
 | .own n rs=> .own n (rs.filter fun r=>r.1 !=s)
 |t=>t
def frzOk (s lo n:Nat) (ts:List Tag):Bool:=ts.all fun t=>match t with| .own _ rs=>rs.all (fun r=>r.1 !=s||(decide (lo≤r.2.1)&&decide (r.2.1<lo+n)))|_=>true
structure Res where
 is:List I
 g:G
 t:List Nat
def loansOff (dst:Nat) (ts:List Tag):Bool:=ts.all fun t=>match t with
 | .loan s _ _ w=>s !=dst&&w.all (fun y=>y.1 !=dst)
 | .pre s _ _=>s !=dst
 |_=>true
def lay (cx:Cx) (g:G) (dst:Nat) (loanOwn:Bool) (cs:List Cel) (e:List Tag→Ent):Option Res:=
 (carries g [] loanOwn cs).bind fun l=>
 let ms:=l.map (·.2)
 let ts:=l.map fun x=>frzTag dst x.1
 guardO (mvsOk cx.base ms&& !(leftSlots ms).contains dst&&loansOff dst ts)
 (some ⟨(lifts cx.base ms).1++[I.set dst (lifts cx.base ms).2 (flOf ts)],(leaves cx.base g ms).tch dst (e ts),leftSlots ms⟩)
def fieldOf (P:Program) (t:TypeId) (f:Nat):Option (Nat×Nat):=
 match P.underlying t with
 |some (.struct fs)=>(fs[f]?).bind fun fd=>guardO (P.cellsOf fd.type !=0) (some (fd.offset,P.cellsOf fd.type))
 |_=>none
def fillParts (P:Program) (g:G) (fields:Nat→Option (Nat×Nat×Nat)):List Cel→List (Nat×Operand)→Option (List Cel)
 |cs,[]=>some cs
 |cs,(i,x)::l=>
  (fields i).bind fun p=>(cels P g p.2.2 x).bind fun y=>
  guardO (y.2.length==p.2.1&&decide (p.1+p.2.1≤cs.length)&&y.1==shapeOf P p.2.2)
  (fillParts P g fields (cs.take p.1++y.2++cs.drop (p.1+p.2.1)) l)
def fieldsKnown (P:Program) (t:TypeId):Bool:=match P.underlying t with
 |some (.struct fs)=>fs.toList.all fun fd=>(P.info? fd.type).isSome
 |_=>false
def structPlace (P:Program) (t:TypeId) (i:Nat):Option (Nat×Nat×Nat):=
 match P.underlying t with
 |some (.struct fs)=>(fs[i]?).map fun fd=>(fd.offset,P.cellsOf fd.type,fd.type)
 |_=>none
def chunk {α:Type} (n:Nat):Nat→List α→List (List α)
 |0,_=>[]
 |k+1,l=>l.take n::chunk n k (l.drop n)
def scSrc (P:Program) (g:G) (ty:TypeId) (x:Operand):Option Src:=
 (cel1 P g ty x).bind fun c=>guardO (isScT c.tag) (some c.src)
def slSrc (P:Program) (g:G) (ty:TypeId) (x:Operand):Option (Src×Rts):=
 (cel1 P g ty x).bind fun c=>c.rd g
def elemTags (g:G) (s o:Nat) (w:List (Nat×Nat×Nat)) (i iv:Nat) (n:Nat) (rs:Rts):Nat→List CK→List (Tag×Src)
 |_,[]=>[]
 |j,k::ks=>(match k with
  | .flat _=>(.sc, .p s o (wayW w++[(i,j)]))
  |_=>if owns n (w.length+1) then (.loan s o (g.dv s) (w++[(i,iv,j)]), .p s o (wayW w++[(i,j)])) else (.own 0 rs, .p s o (wayW w++[(i,j)])))::elemTags g s o w i iv n rs (j+1) ks
def rptrTags (t:Nat) (rs:Rts):Nat→List CK→List (Tag×Src)
 |_,[]=>[]
 |j,k::ks=>(if k.isFlat then Tag.sc else Tag.own 0 rs,Src.c t j)::rptrTags t rs (j+1) ks
def loadOp (cx:Cx) (share:Bool) (g:G) (dst:Nat) (ty:TypeId) (t:Nat):Option Res:=
 (kinds cx.P ty).bind fun ks=>guardO (cx.P.cellsOf ty==ks.length&&ks.length !=0&&t !=dst)
 (match g.ent t with
  | .rptr rs off=>
   let xs:=rptrTags t rs off ks
   guardO (curR g rs&&rs.all (fun r=>r.1 !=dst)) (some ⟨[.set dst (xs.map (·.2)) (flOf (xs.map (·.1)))],g.tch dst (.val (shapeOf cx.P ty) (xs.map (·.1))),[]⟩)
  | .eptr s o v w i iv off sz=>
   guardO (curL g s v w&&g.ver i==iv&&s !=dst&&i !=dst&&decide (off+ks.length≤sz)) ((ownAt g s o).bind fun x=>
    guardO (owns x.1 w.length&&x.2.all (fun r=>r.1 !=dst))
    (let n':=if share then min x.1 (w.length+1) else x.1
     let g':=if share then reTag G.same g s o (.own n' x.2) else g
     let xs:=elemTags g' s o w i iv n' x.2 off ks
     some ⟨[.set dst (xs.map (·.2)) (flOf (xs.map (·.1)))],g'.tch dst (.val (shapeOf cx.P ty) (xs.map (·.1))),if share then [s] else []⟩))
  |_=>(boxAt g t).bind fun b=>
   let cs:=((celsOf b.1 (boxTags g b.1)).drop b.2).take ks.length
   guardO (cs.length==ks.length&&b.1 !=dst) ((lay cx g dst true cs (fun ts=> .val (shapeOf cx.P ty) ts)).map fun r=>⟨.chk b.1::r.is,r.g,r.t⟩))
def storeOp (cx:Cx) (g:G) (ty:TypeId) (t:Nat) (x:Operand) (share:Bool):Option Res:=
 match g.ent t with
 | .eptr s o v w i iv off sz=>
  (cels cx.P g ty x).bind fun y0=>
  let g0:=if share then stays g y0.2 else g
  (cels cx.P g0 ty x).bind fun y=>(rowMvs g0 share y.2).bind fun ms=>
  let g1:=leaves cx.base g0 ms
  (ownAt g1 s o).bind fun z=>
  let n':=min z.1 (addN (minN ms) (w.length+1))
  let fl:=y.2.all fun c=>isScT c.tag
  guardO (curL g1 s v w&&g1.ver i==iv&&decide (g1.ent t= .eptr s o v w i iv off sz)&&decide (off+y.2.length≤sz)&&cx.P.cellsOf ty==y.2.length&&y.2.length !=0&&y.1==shapeOf cx.P ty
   &&mvsOk cx.base ms&&(if fl then owns z.1 w.length else owns n' w.length))
   (some ⟨(lifts cx.base ms).1++[I.putp t s o (wayW w) i off sz (lifts cx.base ms).2 fl],
    if fl then g1.scal s (g1.ent s) else reTag G.elm g1 s o (.own n' (unionR z.2 (allR ms))),s::(leftSlots ms++if share then staySlots y0.2 else [])⟩)
 |_=>(boxAt g t).bind fun b=>(cels cx.P g ty x).bind fun y=>
  (carries g (if b.1<cx.np then [b.1,ALL] else [b.1]) false y.2).bind fun l=>
  let ms:=l.map (·.2)
  let g1:=leaves cx.base g ms
  let ts:=l.map (·.1)
  let old:=boxTags g1 b.1
  let new:=Ent.box (boxTy g1 b.1) (old.take b.2++ts.map (frzTag b.1)++old.drop (b.2+y.2.length))
  guardO (cx.P.cellsOf ty==y.2.length&&y.2.length !=0&&y.1==shapeOf cx.P ty&&mvsOk cx.base ms&&decide (boxAt g1 t=some b)&&decide (b.2+y.2.length≤old.length)&&frzOk b.1 b.2 y.2.length ts&&loansOff b.1 ts)
  (some ⟨(lifts cx.base ms).1++[I.put t b.1 b.2 (lifts cx.base ms).2 (flOf ts)],
   if ts.all isScT&&((old.drop b.2).take y.2.length).all isScT then g1.scal b.1 new else g1.trn b.1 new,b.1::leftSlots ms⟩)
def flatKinds (P:Program) (e:TypeId):Bool:=match kinds P e with
 |some ks=>ks.all CK.isFlat
 |none=>false
def appOp (cx:Cx) (take:Bool) (g:G) (dst:Nat) (ty:TypeId) (x y:Operand) (yty:TypeId):Option Res:=
 (sliceElem cx.P ty).bind fun e=>(sliceElem cx.P yty).bind fun e'=>
 (zeros cx.P e).bind fun z=>guardO (cx.P.bytesOf e≤32768&&cx.P.bytesOf e !=0&&cx.P.cellsOf e !=0&&e'==e&&z.2.length==cx.P.cellsOf e)
 ((cel1 cx.P g ty x).bind fun a=>(cel1 cx.P g yty y).bind fun b=>(a.mv g).bind fun ma=>
  (match b.tag with| .own _ _=>b.mv g|_=>if take then b.mv g else b.cp g).bind fun mb=>
  let flat:=flatKinds cx.P e
  let n:=if flat then DEEP else min ma.n (if mb.n=0 then 1 else mb.n)
  let rs:=unionR ma.rs (if flat then [] else mb.rs)
  guardO (ma.n !=0&&mvsOk cx.base [ma,mb]&& !(leftSlots [ma,mb]).contains dst&&rs.all (fun r=>r.1 !=dst))
  (some ⟨(lifts cx.base [ma,mb]).1++[I.app dst (cx.P.cellsOf e) ((lifts cx.base [ma,mb]).2.getD 0 default) ((lifts cx.base [ma,mb]).2.getD 1 default) flat],
   (leaves cx.base g [ma,mb]).tch dst (.val .one [.own n rs]),leftSlots [ma,mb]⟩))
def optSc (P:Program) (g:G) (ty:TypeId):Option Operand→Option (Option Src)
 |none=>some none
 |some x=>(scSrc P g ty x).map some
def subOp (cx:Cx) (g:G) (dst:Nat) (ty:TypeId) (x:Operand) (lo hi:Option Operand) (base:Bool):Option Res:=
 (optSc cx.P g cx.P.rt.int lo).bind fun l=>(optSc cx.P g cx.P.rt.int hi).bind fun h=>
 match cx.P.underlying ty with
 |some .string=>(scSrc cx.P g ty x).map fun s=>⟨[.ssl dst s l h],g.tch dst (.val .one [.sc]),[]⟩
 |some (.slice e)=>guardO (cx.P.cellsOf e !=0) ((cel1 cx.P g ty x).bind fun c=>(c.rd g).bind fun r=>
  match base&&lo.isNone,c.tag with
  |true, .loan s o _ []=>guardO (s !=dst) (some ⟨[.sub dst (cx.P.cellsOf e) r.1 l h],g.tch dst (.val .one [.pre s o (g.ver s)]),[]⟩)
  |_,_=>guardO (r.2.all (fun r=>r.1 !=dst)) (some ⟨[.sub dst (cx.P.cellsOf e) r.1 l h],g.tch dst (.val .one [.own 0 r.2]),[]⟩))
 |_=>none
structure Mu where
 s:Nat
 o:Nat
 w:List (Nat×Nat×Nat)
 deriving Inhabited
inductive PA where
 |v (fl:List Bool) (mus:List Mu)
 |bx (s ty:Nat) (tout:List RC)
 deriving Inhabited
def mkArgs:List PA→List Src→List Arg
 | [],_=>[]
 | .v fl mus::l,ss=> .v (ss.take fl.length) fl (mus.map fun m=>(m.s,m.o,wayW m.w))::mkArgs l (ss.drop fl.length)
 | .bx s _ _::l,ss=> .bx s::mkArgs l ss
structure CallAcc where
 ms:List Mv:=[]
 cls:List Rts:=[]
 pas:List PA:=[]
def isDeepRC:RC→Bool
 |some (n,_)=>isDeep n
 |none=>false
def muW (c:Cel):Option (List (Nat×Nat×Nat)):=match c.tag with
 | .own _ _=>some []
 | .loan _ _ _ w=>some w
 |_=>none
def argCel (g:G) (p:PC) (c:Cel):Option (Mv×Option Mu):=
 match p.n,p.out with
 |none,none=>guardO (isScT c.tag) (some (⟨c.src,DEEP,[],none⟩,none))
 |some 0,none=>(c.rd g).map fun x=>(⟨x.1,0,x.2,none⟩,none)
 |some (n+1),none=>(c.mv g).bind fun m=>guardO (decide (n+1≤m.n)) (some (m,none))
 |some n,some rc=>guardO (isDeep n&&isDeepRC (some rc)) ((c.mv g).bind fun m=>(muW c).bind fun w=>match m.frm with
  |some (s,o,w')=>guardO (decide (n≤m.n)&&isDeep m.n&&o !=BOX&&wayW w==w') (some (m,some ⟨s,o,w⟩))
  |none=>none)
 |none,some _=>none
def argCels (g:G):List PC→List Cel→Option (List (Mv×Option Mu))
 | [],[]=>some []
 |p::ps,c::cs=>(argCel g p c).bind fun x=>(argCels g ps cs).map (x::·)
 |_,_=>none
def boxFits (g:G):List (Option Nat)→List Tag→Option (List Rts)
 | [],[]=>some []
 |none::ws, .sc::ts=>(boxFits g ws ts).map ([]::·)
 |some n::ws, .own m rs::ts=>guardO (decide (n≤m)&&curR g rs) ((boxFits g ws ts).map (rs::·))
 |_,_=>none
def callArgs (cx:Cx) (g:G):List PSig→List Operand→List TypeId→Option CallAcc
 | [],[],[]=>some {}
 | .v pcs::ps,x::xs,ty::tys=>
  (cels cx.P g ty x).bind fun y=>(argCels g pcs y.2).bind fun l=>(callArgs cx g ps xs tys).bind fun a=>
  guardO (y.1==shapeOf cx.P ty) (some ⟨l.map (·.1)++a.ms,l.map (·.1.rs)++a.cls, .v (pcs.map fun p=>p.n.isNone) (l.filterMap (·.2))::a.pas⟩)
 | .bx ty tin tout::ps, .tmp t::xs,_::tys=>
  (boxAt g t).bind fun b=>(callArgs cx g ps xs tys).bind fun a=>
  guardO (b.2==0&&boxTy g b.1==ty&&tout.length==tin.length) ((boxFits g tin (boxTags g b.1)).bind fun rs=>
   some ⟨a.ms,rs++a.cls, .bx b.1 ty tout::a.pas⟩)
 |_,_,_=>none
def clsOf (cls:List Rts):List Nat→Rts
 | []=>[]
 |j::js=>unionR (cls.getD j []) (clsOf cls js)
def outTag (cls:List Rts):RC→Tag
 |none=> .sc
 |some (n,js)=> .own n (if isDeep n then [] else clsOf cls js)
def resVals:List RSig→Option (List (Bool×List RC))
 | []=>some []
 | .v a ts::l=>(resVals l).map ((a,ts)::·)
 | .bx _ _::_=>none
def resEnt (cls:List Rts):List RSig→Option Ent
 | [.v agg ts]=>some (.val (if agg then .agg else .one) (ts.map (outTag cls)))
 | [.bx ty ts]=>some (.box ty (ts.map (outTag cls)))
 |rs=>(resVals rs).map fun l=> .val (.tup (l.map fun x=>(x.1,x.2.length))) ((l.flatMap (·.2)).map (outTag cls))
def paBoxes:List PA→List Nat
 | []=>[]
 | .v _ _::l=>paBoxes l
 | .bx s _ _::l=>s::paBoxes l
def paMus:List PA→List Mu
 | []=>[]
 | .v _ mus::l=>mus++paMus l
 | .bx _ _ _::l=>paMus l
def giveBoxes:List Nat→G→G
 | [],g=>g
 |s::l,g=>giveBoxes l (g.trn s .none)
def takeMu (g:G) (mu:Mu):Option G:=
 match mu.w with
 | []=>guardO (decide (tagAt g mu.s mu.o= .dead)) (some (reTag G.elm g mu.s mu.o (.own DEEP [])))
 |_::_=>(ownAt g mu.s mu.o).bind fun x=>guardO (isDeep x.1) (some (g.elm mu.s (g.ent mu.s)))
def takeMus:List Mu→G→Option G
 | [],g=>some g
 |m::l,g=>(takeMu g m).bind (takeMus l)
def takes (cls:List Rts):List PA→G→Option G
 | [],g=>some g
 | .v _ mus::l,g=>(takeMus mus g).bind (takes cls l)
 | .bx s ty tout::l,g=>takes cls l (g.trn s (.box ty (tout.map (outTag cls))))
def depsR:List RC→List Nat:=fun l=>l.flatMap fun r=>match r with|some (n,js)=>if isDeep n then [] else js|none=>[]
def Sig.deps (sig:Sig):List Nat:=
 sig.res.flatMap (fun r=>match r with|RSig.v _ ts=>depsR ts|RSig.bx _ ts=>depsR ts)++
 sig.params.flatMap (fun p=>match p with|PSig.v cs=>depsR (cs.map (·.out))|PSig.bx _ _ ts=>depsR ts)
def stayPick (js:List Nat):Nat→List PC→List Cel→List Cel
 |j,p::ps,c::cs=>if js.contains j&&p.n==some 0&&p.out.isNone then c::stayPick js (j+1) ps cs else stayPick js (j+1) ps cs
 |_,_,_=>[]
def stayCels (cx:Cx) (g:G) (js:List Nat):Nat→List PSig→List Operand→List TypeId→List Cel
 |j, .v pcs::ps,x::xs,ty::tys=>(match cels cx.P g ty x with|some y=>stayPick js j pcs y.2|none=>[])++stayCels cx g js (j+pcs.length) ps xs tys
 |j, .bx _ tin _::ps,_::xs,_::tys=>stayCels cx g js (j+tin.length) ps xs tys
 |_,_,_,_=>[]
def resLen (rs:List RSig):Nat:=(rs.flatMap fun r=>match r with| .v _ ts=>ts| .bx _ ts=>ts).length
def parOk:PSig→Bool
 | .v cs=>decide (cs.length<900)
 | .bx _ tin ts=>decide (tin.length<900)&&ts.length==tin.length
def callOp (cx:Cx) (g0:G) (dst:Nat) (f:Nat) (xs:List Operand) (tys:List TypeId):Option Res:=
 (cx.sigs f).bind fun sig=>
 let st:=stayCels cx g0 sig.deps 0 sig.params xs tys
 let g:=stays g0 st
 (callArgs cx g sig.params xs tys).bind fun a=>(resEnt a.cls sig.res).bind fun e=>
 let left:=leftSlots a.ms
 let bxs:=paBoxes a.pas
 let touched:=left++bxs
 let own:=fun x:Nat=> !touched.contains x&&(decide (x<cx.base)||decide (PAR≤x))
 (takes a.cls a.pas (giveBoxes bxs (leaves cx.base g a.ms))).bind fun g3=>
 guardO (mvsOk cx.base a.ms&&nodupB bxs&&bxs.all (fun b=> !left.contains b&&decide (b<cx.base))&&(paMus a.pas).all (fun m=>decide (m.s<cx.base)&& !bxs.contains m.s&&m.w.all fun y=>own y.1)
  &&a.cls.all (fun l=>l.all fun r=>own r.1&&r.1 !=dst)&& !touched.contains dst
  &&decide (a.ms.length<1000)&&decide (sig.params.length<400)&&sig.params.all parOk&&decide (resLen sig.res<1000)
  &&decide ((cx.P.funcs[f]?).map (fun fn=>fn.params.toList.map (isAggB cx.P))=some (tys.map (isAggB cx.P))))
 (some ⟨(lifts cx.base a.ms).1++[I.call f (mkArgs a.pas (lifts cx.base a.ms).2) dst],g3.tch dst e,touched++staySlots st⟩)
def extractOp (cx:Cx) (g:G) (dst t i:Nat):Option Res:=
 match g.ent t with
 | .val (.tup l) ts=>(l[i]?).bind fun x=>
  let off:=((l.take i).map (·.2)).sum
  let cs:=((celsOf t ts).drop off).take x.2
  guardO (cs.length==x.2&&t !=dst) (lay cx g dst false cs (fun ts=> .val (if x.1 then .agg else .one) ts))
 |_=>none
def eqZsFs (P:Program) (f:TypeId→Option (List D)):List Field→List D→Option (List D)
 | [],acc=>some acc
 |fd::l,acc=>guardO (fd.name != "_" &&fd.offset==acc.length) ((f fd.type).bind fun zs=>guardO (P.cellsOf fd.type==zs.length&&zs.length !=0) (eqZsFs P f l (acc++zs)))
def eqZs (P:Program):Nat→TypeId→Option (List D)
 |0,_=>none
 |f+1,t=>match P.underlying t with
  |some (.int k)=>some [.int k 0]
  |some .bool=>some [.bool false]
  |some .string=>some [.str []]
  |some (.struct fs)=>guardO (!P.stoodInHeld t) (eqZsFs P (eqZs P f) fs.toList [])
  |_=>none
def binOpd (cx:Cx) (g:G) (dst:Nat) (op:BinOp) (ty:TypeId) (x y:Operand) (yty:TypeId):Option Res:=
 let r:=g.tch dst (.val .one [.sc])
 match cx.P.underlying ty with
 |some .bool=>guardO (op== .eql||op== .neq) ((scSrc cx.P g ty x).bind fun a=>(scSrc cx.P g ty y).map fun b=>⟨[.eqb (op== .neq) dst a b],r,[]⟩)
 |some (.int _)|some .string=>
  (scSrc cx.P g ty x).bind fun a=>(scSrc cx.P g (if op= .shl∨op= .shr then yty else ty) y).map fun b=>⟨[.bin op dst a b],r,[]⟩
 |some (.struct _)=>(cels cx.P g ty x).bind fun xs=>(cels cx.P g ty y).bind fun ys=>(eqZs cx.P 12 ty).bind fun zs=>
  guardO ((op== .eql||op== .neq)&&xs.2.all (fun c=>isScT c.tag)&&ys.2.all (fun c=>isScT c.tag)&&xs.1== .agg&&ys.1== .agg&& !cx.P.eqGuardType cx.P.depth ty)
  (some ⟨[.eqs (op== .neq) dst (xs.2.map (·.src)) (ys.2.map (·.src)) zs],r,[]⟩)
 |some (.pointer _)=>match y with
  | .const (.pointer none)=>guardO (op== .eql||op== .neq) ((slSrc cx.P g ty x).map fun s=>⟨[.isNil (op== .neq) dst s.1],r,[]⟩)
  |_=>none
 |_=>none
def here (dst:Nat):List I:=[.set dst [.cst (.bool true)] []]
def moveOp (cx:Cx) (g:G) (dst:Nat) (ty:TypeId) (x:Operand):Option Res:=
 match x with
 | .tmp t=>guardO (t !=dst) (match g.ent t with
  | .val sh ts=>lay cx g dst (!isTup (g.ent t)) (celsOf t ts) (fun ts=> .val sh ts)
  | .box _ _=>some ⟨here dst,g.tch dst (.ptr t (g.idv t) 0),[]⟩
  | .ptr b v off=>guardO (b !=dst) (some ⟨here dst,g.tch dst (.ptr b v off),[]⟩)
  | .rptr rs off=>guardO (rs.all (fun r=>r.1 !=dst)&&curR g rs) (some ⟨[.cpy dst t],g.tch dst (.rptr rs off),[]⟩)
  | .map=>some ⟨here dst,g.tch dst (.mal t (g.idv t)),[]⟩
  | .mal s v=>guardO (s !=dst) (some ⟨here dst,g.tch dst (.mal s v),[]⟩)
  |_=>none)
 |x=>(cels cx.P g ty x).bind fun y=>lay cx g dst true y.2 (fun ts=> .val y.1 ts)
def assignOp (cx:Cx) (g:G) (dst:Nat) (ty:TypeId) (x:Operand):Option Res:=
 match x with
 | .tmp t=>guardO (t !=dst) (match g.ent t with
  | .val sh ts=>lay cx g dst false (celsOf t ts) (fun ts=> .val sh ts)
  | .box _ _=>some ⟨here dst,g.tch dst (.ptr t (g.idv t) 0),[]⟩
  | .ptr b v off=>guardO (b !=dst) (some ⟨here dst,g.tch dst (.ptr b v off),[]⟩)
  | .map=>some ⟨here dst,g.tch dst (.mal t (g.idv t)),[]⟩
  | .mal s v=>guardO (s !=dst) (some ⟨here dst,g.tch dst (.mal s v),[]⟩)
  |_=>none)
 |x=>(cels cx.P g ty x).bind fun y=>lay cx g dst false y.2 (fun ts=> .val y.1 ts)
def sliceLitOp (cx:Cx) (share:Bool) (g:G) (dst:Nat) (t len:Nat) (ps:List (Nat×Operand)):Option Res:=
 (sliceElem cx.P t).bind fun e=>(zeros cx.P e).bind fun z=>
 let n:=z.2.length
 let fill:=fun g=>fillParts cx.P g (fun i=>if i<len then some (i*n,n,e) else none) ((List.replicate len (zeroCels z.2)).flatten) ps
 (fill g).bind fun cs0=>
 let g0:=if share then stays g cs0 else g
 (fill g0).bind fun cs=>(rowMvs g0 share cs).bind fun ms=>
 guardO (decide (len≤60)&&decide (n≤60)&&n !=0&&mvsOk cx.base ms&& !(leftSlots ms).contains dst&&(allR ms).all (fun r=>r.1 !=dst))
 (some ⟨(lifts cx.base ms).1++[I.lit dst n (chunk n len (lifts cx.base ms).2)],(leaves cx.base g0 ms).tch dst (.val .one [.own (addN (minN ms) 1) (allR ms)]),leftSlots ms++if share then staySlots cs0 else []⟩)
def idxOp (cx:Cx) (g:G) (dst:Nat) (t:TypeId) (x i:Operand):Option Res:=
 (sliceElem cx.P t).bind fun e=>
 let sz:=cx.P.cellsOf e
 guardO (sz !=0) ((scSrc cx.P g cx.P.rt.int i).bind fun n=>(cel1 cx.P g t x).bind fun c=>(c.rd g).bind fun r=>
  let row:=guardO (r.2.all (fun r=>r.1 !=dst)) (some ⟨[.row dst sz r.1 n],g.tch dst (.rptr r.2 0),[]⟩)
  match c.tag with
  | .own k _=>match c.src with
   | .c s o=>if k=0 then row else guardO (s !=dst) (some ⟨[.idx dst sz r.1 n],g.tch dst (.eptr s o (g.hv s) [] dst (g.ver dst+1) 0 sz),[]⟩)
   |_=>none
  | .loan a b v w=>(ownAt g a b).bind fun m=>
   if owns m.1 w.length then guardO (a !=dst&&w.all (fun y=>y.1 !=dst)) (some ⟨[.idx dst sz r.1 n],g.tch dst (.eptr a b v w dst (g.ver dst+1) 0 sz),[]⟩) else row
  |_=>none)
def mapAt (g:G) (t:Nat):Option Nat:=match g.ent t with
 | .map=>some t
 | .mal s v=>if g.idv s=v then (match g.ent s with| .map=>some s|_=>none) else none
 |_=>none
def sameLC:Operand→Operand→Bool
 | .tmp i, .tmp j=>i==j
 | .const (.int _ i), .const (.int _ j)=>i==j
 |_,_=>false
def isIntBoolMap (P:Program) (t:TypeId):Bool:=match P.underlying t with
 |some (.map k e)=>(match P.underlying k,P.underlying e,P.info? e with|some (.int .i64),some .bool,some i=>(match i.zero with|some (.bool false)=>true|_=>false)|_,_,_=>false)
 |_=>false
def fieldTyOk (P:Program) (t:TypeId) (f:Nat) (ty:TypeId) (n:Nat):Bool:=match P.underlying t with
 |some (.struct fs)=>(match fs[f]? with|some fd=>shapeOf P fd.type==shapeOf P ty&&(P.underlying fd.type).isSome&&(isAggB P fd.type||n==1)|none=>false)
 |_=>false
def compOp (cx:Cx) (share take bs:Bool) (g:G) (o:Oper):Option Res:=
 let dst:=o.dst.getD (cx.base+60)
 let sc:=g.tch dst (.val .one [.sc])
 let int:=cx.P.rt.int
 guardO (decide (dst<g.length)&&(decide (dst<cx.base)||dst==cx.base+60)) (match o.op with
 | .move x=>moveOp cx g dst o.type x
 | .assign x=>assignOp cx g dst o.type x
 | .pick c a b=>(scSrc cx.P g cx.P.rt.bool c).bind fun c=>(scSrc cx.P g o.type a).bind fun a=>(scSrc cx.P g o.type b).map fun b=>⟨[.pick dst c a b],sc,[]⟩
 | .alloc t=>(zeros cx.P t).map fun z=>⟨[.set dst (z.2.map .cst) []],g.tch dst (.box t (z.2.map zeroTag)),[]⟩
 | .box t x=>(cels cx.P g t x).bind fun y=>guardO (y.2.length==cx.P.cellsOf t&&y.1==shapeOf cx.P t) (lay cx g dst share y.2 (fun ts=> .box t ts))
 | .build t ps=>(zeros cx.P t).bind fun z=>guardO (isStructB cx.P t&&fieldsKnown cx.P t)
   ((fillParts cx.P g (structPlace cx.P t) (zeroCels z.2) ps.toList).bind fun cs=>lay cx g dst false cs (fun ts=> .val .agg ts))
 | .buildSlice t len ps=>sliceLitOp cx share g dst t len ps.toList
 | .load t (.tmp a)=>loadOp cx share g dst t a
 | .store t (.tmp a) v=>guardO o.dst.isNone (storeOp cx g t a v share)
 | .nilCheck (.tmp t)=>guardO (t !=dst) (match g.ent t with
   | .box _ _=>some ⟨here dst,g.tch dst (.ptr t (g.idv t) 0),[]⟩
   | .ptr b v off=>guardO (b !=dst&&g.idv b==v) (some ⟨here dst,g.tch dst (.ptr b v off),[]⟩)
   | .val .one [_]=>(slSrc cx.P g o.type (.tmp t)).bind fun r=>guardO (r.2.all (fun r=>r.1 !=dst)) (some ⟨[.deref dst r.1],g.tch dst (.rptr r.2 0),[]⟩)
   |_=>none)
 | .binOp op t x y yt=>binOpd cx g dst op t x y yt
 | .unOp .not t x=>(scSrc cx.P g t x).map fun a=>⟨[.not dst a],sc,[]⟩
 | .unOp .neg t x=>(scSrc cx.P g t x).map fun a=>⟨[.ng dst a],sc,[]⟩
 | .convert s d x=>match cx.P.underlying s,cx.P.underlying d with
  |some (.int _),some (.int k)=>(scSrc cx.P g s x).map fun a=>⟨[.conv dst k a],sc,[]⟩
  |some (.slice e),some .string=>match cx.P.underlying e with
   |some (.int .u8)=>(slSrc cx.P g s x).map fun a=>⟨[.b2s dst a.1],sc,[]⟩
   |_=>none
  |_,_=>none
 | .makeSlice t l c=>(sliceElem cx.P t).bind fun e=>(zeros cx.P e).bind fun z=>
   guardO (cx.P.bytesOf e≤32768&&cx.P.bytesOf e !=0&&z.2.length !=0&&sameLC l c)
   ((scSrc cx.P g int l).map fun a=>⟨[.mk dst z.2 a],g.tch dst (.val .one [.own DEEP []]),[]⟩)
 | .slice t x lo hi none=>subOp cx g dst t x lo hi bs
 | .fieldAddr t (.tmp a) f=>(fieldOf cx.P t f).bind fun p=>guardO (a !=dst) (match g.ent a with
   | .eptr s o v w i iv q sz=>guardO (curL g s v w&&g.ver i==iv&&s !=dst&&i !=dst&&w.all (fun y=>y.1 !=dst)) (some ⟨here dst,g.tch dst (.eptr s o v w i iv (q+p.1) sz),[]⟩)
   | .rptr rs q=>guardO (rs.all (fun r=>r.1 !=dst)&&curR g rs) (some ⟨[.cpy dst a],g.tch dst (.rptr rs (q+p.1)),[]⟩)
   |_=>(boxAt g a).bind fun b=>guardO (b.1 !=dst) (some ⟨here dst,g.tch dst (.ptr b.1 (g.idv b.1) (b.2+p.1)),[]⟩))
 | .field t x f=>(fieldOf cx.P t f).bind fun p=>(cels cx.P g t x).bind fun y=>
   let cs:=(y.2.drop p.1).take p.2
   guardO (cs.length==p.2&&fieldTyOk cx.P t f o.type p.2&&y.1== .agg) (lay cx g dst true cs (fun ts=> .val (shapeOf cx.P o.type) ts))
 | .indexAddr t x i=>idxOp cx g dst t x i
 | .index t x i=>match cx.P.underlying t with
  |some .string=>(scSrc cx.P g t x).bind fun a=>(scSrc cx.P g int i).map fun n=>⟨[.sidx dst a n],sc,[]⟩
  |_=>none
 | .makeMap _ none=>some ⟨[.mnew dst],g.tch dst .map,[]⟩
 | .lookup t (.tmp a) i false=>guardO (isIntBoolMap cx.P t)
   ((scSrc cx.P g int i).bind fun k=>(mapAt g a).bind fun m=>guardO (m !=dst) (some ⟨[.mget dst m k],sc,[]⟩))
 | .mapUpdate t (.tmp a) i v=>guardO (o.dst.isNone&&isIntBoolMap cx.P t)
   ((scSrc cx.P g int i).bind fun k=>(scSrc cx.P g cx.P.rt.bool v).bind fun b=>(mapAt g a).map fun m=>⟨[.mput a m k b],g.trn m .map,[m]⟩)
 | .extract (.tmp t) i=>extractOp cx g dst t i
 | .call c=>match c.callee,c.args.toList with
  | .builtin .len,[x]=>(c.argTypes[0]?).bind fun t=>match cx.P.underlying t with
   |some .string=>(scSrc cx.P g t x).map fun a=>⟨[.slen dst a],sc,[]⟩
   |some (.slice _)=>(slSrc cx.P g t x).map fun a=>⟨[.len dst a.1],sc,[]⟩
   |_=>none
  | .builtin .append,[x,y]=>match c.argTypes.toList with
   | [t1,t2]=>appOp cx take g dst t1 x y t2
   |_=>none
  | .builtin .min,[x,y]=>(scSrc cx.P g int x).bind fun a=>(scSrc cx.P g int y).map fun b=>⟨[.mm false dst a b],sc,[]⟩
  | .builtin .max,[x,y]=>(scSrc cx.P g int x).bind fun a=>(scSrc cx.P g int y).map fun b=>⟨[.mm true dst a b],sc,[]⟩
  | .value (.func f),xs=>callOp cx g dst f xs c.argTypes.toList
  |_,_=>none
 |_=>none)
def normR (g:G) (rs:List (Nat×Nat×Nat)):List (Nat×Nat×Nat):=rs.map fun (s,o,_)=>(s,o,0)
def normTag (g:G):Tag→Tag
 | .dead=> .dead
 | .sc=> .sc
 | .own n rs=>if curR g rs then .own n (normR g rs) else .dead
 | .loan s o v w=>if curL g s v w then .loan s o 0 (w.map fun (r,_,o)=>(r,0,o)) else .dead
 | .pre s o v=>if g.ver s=v then .pre s o 0 else .dead
def normEnt (g:G):Ent→Ent
 | .none=> .none
 | .val sh ts=> .val sh (ts.map (normTag g))
 | .box ty ts=> .box ty (ts.map (normTag g))
 | .ptr b v off=>if g.idv b=v then .ptr b 0 off else .none
 | .eptr s o v w i iv off sz=>if curL g s v w&&g.ver i=iv then .eptr s o 0 (w.map fun (r,_,o)=>(r,0,o)) i 0 off sz else .none
 | .rptr rs off=>if curR g rs then .rptr (normR g rs) off else .none
 | .map=> .map
 | .mal s v=>if g.idv s=v then .mal s 0 else .none
def norm (g:G):G:=g.map fun x=>{ent:=normEnt g x.ent}
def joinTag:Tag→Tag→Tag
 | .sc, .sc=> .sc
 | .own n rs, .own m qs=> .own (min n m) (unionR rs qs)
 |a,b=>if a=b then a else .dead
def joinTags:List Tag→List Tag→List Tag
 |a::as,b::bs=>joinTag a b::joinTags as bs
 |_,_=>[]
def joinEnt:Ent→Ent→Ent
 | .val sh ts, .val sh' ts'=>if sh=sh'&&ts.length=ts'.length then .val sh (joinTags ts ts') else .none
 | .box ty ts, .box ty' ts'=>if ty=ty'&&ts.length=ts'.length then .box ty (joinTags ts ts') else .none
 |a,b=>if a=b then a else .none
def join (g h:G):G:=g.zipWith (fun a b=>{ent:=joinEnt a.ent b.ent}) h
def wfR (g:G) (rs:Rts):Bool:=rs.all fun r=>decide (r.2.2≤g.ver r.1)
def wfW (g:G) (w:List (Nat×Nat×Nat)):Bool:=w.all fun x=>decide (x.2.1≤g.ver x.1)
def wfL (g:G) (s v:Nat) (w:List (Nat×Nat×Nat)):Bool:=decide (v≤if w.isEmpty then g.hv s else g.dv s)&&wfW g w
def wfTag (g:G):Tag→Bool
 | .own _ rs=>wfR g rs
 | .loan s _ v w=>wfL g s v w
 | .pre s _ v=>decide (v≤g.ver s)
 |_=>true
def wfEnt (g:G):Ent→Bool
 | .val _ ts| .box _ ts=>ts.all (wfTag g)
 | .ptr b v _=>decide (v≤g.idv b)
 | .eptr s _ v w i iv _ _=>wfL g s v w&&decide (iv≤g.ver i)
 | .rptr rs _=>wfR g rs
 | .mal s v=>decide (v≤g.idv s)
 |_=>true
def sameConc (e e':Ent):Bool:=match e,e' with
 | .val sh _, .val sh' _=>sh==sh'
 | .box _ _, .box _ _=>true
 |_,_=>false
def leR (g:G) (rs:List (Nat×Nat×Nat)) (qs:List (Nat×Nat×Nat)):Bool:=
 curR g rs&&rs.all fun (s,o,_)=>qs.any fun (s',o',_)=>s==s'&&o==o'
def leTag (g h:G):Tag→Tag→Bool
 |_, .dead=>true
 | .sc, .sc=>true
 | .own n rs, .own m qs=>n==m&&leR g rs qs
 | .loan s o v w, .loan s' o' v' w'=>s==s'&&o==o'&&curL g s v w&&wayW w==wayW w'&&sameConc (g.ent s) (h.ent s)
 | .pre s o v, .pre s' o' v'=>s==s'&&o==o'&&g.ver s==v&&sameConc (g.ent s) (h.ent s)
 |_,_=>false
def leTags (g h:G):List Tag→List Tag→Bool
 | [],[]=>true
 |a::as,b::bs=>leTag g h a b&&leTags g h as bs
 |_,_=>false
def leEnt (g h:G):Ent→Ent→Bool
 |_, .none=>true
 | .val sh ts, .val sh' ts'=>sh==sh'&&leTags g h ts ts'
 | .box ty ts, .box ty' ts'=>ty==ty'&&leTags g h ts ts'
 | .ptr b v off, .ptr b' v' off'=>b==b'&&off==off'&&g.idv b==v
 | .eptr s o v w i iv off sz, .eptr s' o' v' w' i' iv' off' sz'=>s==s'&&o==o'&&off==off'&&sz==sz'&&i==i'&&curL g s v w&&g.ver i==iv&&wayW w==wayW w'&&sameConc (g.ent s) (h.ent s)
 | .rptr rs off, .rptr qs off'=>off==off'&&leR g rs qs
 | .map, .map=>true
 | .mal s v, .mal s' v'=>s==s'&&g.idv s==v
 |_,_=>false
def lowTags (s:Nat):Nat→List Tag→List Tag→List (Nat×Nat×Nat)
 |o, .own n _::as, .own m _::bs=>if m<n then (s,o,m)::lowTags s (o+1) as bs else lowTags s (o+1) as bs
 |o,_::as,_::bs=>lowTags s (o+1) as bs
 |_,_,_=>[]
def lowEnt (s:Nat):Ent→Ent→List (Nat×Nat×Nat)
 | .val _ ts, .val _ ts'=>lowTags s 0 ts ts'
 | .box _ ts, .box _ ts'=>lowTags s 0 ts ts'
 |_,_=>[]
def lowG:Nat→G→G→List (Nat×Nat×Nat)
 |s,a::as,b::bs=>lowEnt s a.ent b.ent++lowG (s+1) as bs
 |_,_,_=>[]
def staysAt:List (Nat×Nat×Nat)→G→G
 | [],g=>g
 |(s,o,m)::l,g=>staysAt l (stayAt g s o m)
def leZ (g h:G):G→G→Bool
 |a::as,b::bs=>leEnt g h a.ent b.ent&&wfEnt h b.ent&&leZ g h as bs
 |_,_=>true
def leG (g h:G):Bool:=
 let g1:=staysAt (lowG 0 g h) g
 g1.length==h.length&&leZ g1 h g1 h
def protB (ps:List PSig) (d:Nat):Bool:=match ps[d]? with
 |some (.bx _ _ _)=>true
 |some (.v cs)=>cs.any fun c=>c.out.isSome
 |none=>false
structure CR where
 l:L
 norm:Option G
 exits:List (Nat×G)
 rets:List G
def appBase (t:Nat) (x:Oper):Bool:=match x.op with
 | .call c=>match c.callee with
  | .builtin .append=>match c.args.toList with
   | .tmp u::_=>u==t
   |_=>false
  |_=>false
 |_=>false
def isBase (ops:Array Oper) (o:Oper):Bool:=
 match o.dst with
 |some d=>ops.any (appBase d)
 |none=>false
def chks (o:Op):List I:=match o with
 | .pick _ _ _=>[]
 |o=>o.operands.toList.filterMap fun x=>match x with| .tmp t=>some (.chk t)|_=>none
def opndOk (base:Nat) (x:Operand):Bool:=match x with
 | .tmp t=>decide (t<base)
 | .const _=>true
 |_=>false
def opersOk (base:Nat) (o:Op):Bool:=match o with
 | .call c=>c.args.toList.all (opndOk base)
 |o=>o.operands.toList.all (opndOk base)
def isGuard (ops:List Oper) (d:Nat):Bool:=ops.any fun o=>match o.guard with
 |some (j,_)=>(match ops[j]? with|some o'=>o'.dst==some d|none=>false)
 |none=>false
def guardOf (ops:List Oper) (g:G) (done:List Nat) (o:Oper):Option (Option (Nat×Bool)):=match o.guard with
 |none=>some none
 |some (j,want)=>match ops[j]? with
  |some o'=>match o'.dst with
   |some d=>guardO (done.contains d&&decide (g.ent d= .val .one [.sc])) (some (some (d,want)))
   |none=>none
  |none=>none
def loadRoots (g:G) (t:Nat):Option (List Nat):=match g.ent t with
 | .rptr rs _=>some (rs.map (·.1))
 | .eptr s _ _ _ _ _ _ _=>some [s]
 |_=>(boxAt g t).map fun b=>[b.1]
def forceK {β:Type} (n:Nat) (g:G) (k:G→β):β:=if n % 8=0 then forceG g k else k g
theorem forceK_eq {β:Type} (n:Nat) (g:G) (k:G→β):forceK n g k=k g:=by
 unfold forceK
 split
 ·exact forceG_eq g k
 ·rfl
def compOps (cx:Cx) (ops:List Oper) (share take:Bool):List Oper→List Nat→G→Option (List LI×G×List Nat)
 | [],_,g=>some ([],g,[])
 |o::l,done,g=>forceK l.length g fun g=>
  (compOp cx share take (isBase ops.toArray o) g o).bind fun r=>
  (guardOf ops g done o).bind fun gd=>
  let nb:=match o.dst with|some d=>isGuard ops d|none=>false
  (compOps cx ops share take l (if nb then o.dst.toList++done else done) r.g).bind fun x=>
  guardO (o.dst.all (fun d=>decide (d<cx.base)&& !done.contains d&& !protB cx.sg.params d)&&r.t.all (fun d=> !done.contains d)&&opersOk cx.base o.op&&
   (gd.isNone||(match o.dst with|some d=>r.t.isEmpty&&wfEnt r.g (r.g.ent d)&&decide (r.g=g.tch d (r.g.ent d))|none=>false)))
  (some (⟨gd,o.dst,nb,chks o.op++r.is⟩::x.1,x.2.1,r.t++o.dst.toList++x.2.2))
def depOn (o:Oper):List Nat:=o.after.toList.filterMap fun e=>if Region.binds .any e then some e.on else none
def readyB (ops:List Oper) (done:List Nat) (i:Nat):Bool:= !done.contains i&&match ops[i]? with
 |some o=>(depOn o).all done.contains
 |none=>false
def looksB (ops:List Oper) (o:Oper):List Nat:=(o.op.operands.toList.filterMap fun| .tmp t=>some t|_=>none)++(match o.guard with
 |some (g,_)=>(match ops[g]? with|some o'=>o'.dst.toList|none=>[])
 |none=>[])
def apartB (ops:List Oper) (x y:Oper):Bool:=
 (match x.dst with|some d=> !(looksB ops y).contains d&&y.dst !=some d|none=>true)&&
 (match y.dst with|some d=> !(looksB ops x).contains d|none=>true)
def freeB (ops:List Oper) (done:List Nat) (i:Nat) (oi:Oper):Bool:=(List.range ops.length).all fun j=>j==i||done.contains j||match ops[j]? with
 |some oj=>(depOn oj).contains i||apartB ops oi oj
 |none=>true
def quietB (P:Program) (o:Op):Bool:=match o with
 | .move _| .assign _| .pick _ _ _| .build _ _| .load _ _| .fieldAddr _ _ _| .field _ _ _| .extract _ _| .nilCheck _| .unOp .not _ _| .unOp .neg _ _| .indexAddr _ _ _| .index _ _ _| .slice _ _ _ _ _=>true
 | .binOp _ _ _ _ _=>true
 | .convert s d _=>(match P.underlying s,P.underlying d with|some (.int _),some (.int _)=>true|_,_=>false)
 | .call c=>(match c.callee with| .builtin .len| .builtin .min| .builtin .max=>true|_=>false)
 |_=>false
def reach (ops:List Oper):Nat→List Nat→List Nat→List Nat
 |0,_,vis=>vis
 |_+1,[],vis=>vis
 |f+1,j::fr,vis=>if vis.contains j then reach ops f fr vis else reach ops f ((match ops[j]? with|some o=>depOn o|none=>[])++fr) (j::vis)
def waitsB (ops:List Oper) (j i:Nat):Bool:=match ops[j]? with
 |some o=>(reach ops 4000 (depOn o) []).contains i
 |none=>false
def noSel (ops:List Oper):Bool:=ops.all fun o=>match o.op with| .select .. =>false|_=>true
def HEAD:Nat:=1000000000
def isHead (P:Program) (g:G) (o:Op):Option (Nat×Nat):=match o with
 | .load ty (.tmp t)=>match g.ent t with
  | .rptr _ _=>none
  | .eptr _ _ _ _ _ _ _ _=>none
  |_=>(boxAt g t).bind fun b=>match kinds P ty with
   |some [k]=>(match tagAt g b.1 b.2 with
    | .own _ _=>guardO (!k.isFlat&& !isAggB P ty&&(match g.ent b.1 with| .box _ _=>true|_=>false)) (some b)
    |_=>none)
   |_=>none
 |_=>none
def rootsOf (P:Program) (g:G) (o:Op):List Nat:=match isHead P g o with
 |some b=>[HEAD+b.1]
 |none=>match o with
  | .load _ (.tmp t)=>(loadRoots g t).getD []
  |_=>[]
def nextOp (P:Program) (ops:List Oper) (listed:List Nat):Option (Bool×Nat):=
 match (List.range ops.length).filter (readyB ops listed) with
 | [i]=>some (false,i)
 |l=>(l.find? fun i=>match ops[i]? with|some o=>quietB P o.op&&freeB ops listed i o|none=>false).map fun i=>(true,i)
def apartR (g g':G) (rq:List (Nat×List Nat)) (touched:List Nat):Bool:=rq.all fun x=>x.2.all fun s=>
 if HEAD≤s then decide (g'.hv (s-HEAD)=g.hv (s-HEAD))&&decide (g'.idv (s-HEAD)=g.idv (s-HEAD))&&(match g'.ent (s-HEAD) with| .box _ _=>true|_=>false) else !touched.contains s
def Src.reads:Src→List Nat
 | .cst _=>[]
 | .c s _=>[s]
 | .p s _ w=>s::w.map (·.1)
 | .bx s=>[s]
def Arg.reads:Arg→List Nat
 | .v xs _ mu=>xs.flatMap Src.reads++mu.flatMap fun m=>m.1::m.2.2.map (·.1)
 | .bx s=>[s]
def Arg.writes:Arg→List Nat
 | .v _ _ mu=>mu.map (·.1)
 | .bx s=>[s]
def I.foot:I→Option (List Nat×List Nat)
 | .chk t=>some ([t],[])
 | .set dst xs _=>some (xs.flatMap Src.reads,[dst])
 | .cpy dst s=>some ([s],[dst])
 | .put via s _ xs _=>some (via::s::xs.flatMap Src.reads,[s])
 | .hole s _ w=>some (s::w.map (·.1),[s])
 | .bin _ dst x y=>some (x.reads++y.reads,[dst])
 | .len dst x=>some (x.reads,[dst])
 | .idx dst _ x i=>some (x.reads++i.reads,[dst])
 | .row dst _ x i=>some (x.reads++i.reads,[dst])
 | .deref dst x=>some (x.reads,[dst])
 | .app dst _ x y _=>some (x.reads++y.reads,[dst])
 | .lit dst _ rows=>some (rows.flatMap fun r=>r.flatMap Src.reads,[dst])
 | .mk dst _ n=>some (n.reads,[dst])
 | .call _ args dst=>some (args.flatMap Arg.reads,args.flatMap Arg.writes++[dst])
 |_=>none
def footIs:List I→Option (List Nat×List Nat)
 | []=>some ([],[])
 |i::l=>match i.foot,footIs l with
  |some a,some b=>some (a.1++b.1,a.2++b.2)
  |_,_=>none
def LI.foot (x:LI):Option (List Nat×List Nat):=match footIs x.is with
 |some a=>some (a.1++x.dst.toList++(match x.guard with|some (g,_)=>g::a.2|none=>[]),a.2++x.dst.toList)
 |none=>none
def apartN (a b:List Nat):Bool:=a.all fun x=> !b.contains x
def indep (x y:LI):Bool:=match x.foot,y.foot with
 |some a,some b=>apartN a.2 b.1&&apartN a.2 b.2&&apartN b.2 a.1
 |_,_=>false
def eqL {α:Type} (f:α→α→Bool):List α→List α→Bool
 | [],[]=>true
 |x::xs,y::ys=>f x y&&eqL f xs ys
 |_,_=>false
def D.eqb0:D→D→Bool
 | .dead, .dead=>true
 | .int k n, .int k' n'=>decide (k=k')&&decide (n=n')
 | .bool a, .bool b=>a==b
 | .str a, .str b=>decide (a=b)
 | .sl a [], .sl b []=>a==b
 | .pt [], .pt []=>true
 |_,_=>false
def eqW (a b:List (Nat×Nat)):Bool:=decide (a=b)
def Src.eqb:Src→Src→Bool
 | .cst a, .cst b=>a.eqb0 b
 | .c s o, .c s' o'=>s==s'&&o==o'
 | .p s o w, .p s' o' w'=>s==s'&&o==o'&&eqW w w'
 | .bx s, .bx s'=>s==s'
 |_,_=>false
def eqMu (a b:List (Nat×Nat×List (Nat×Nat))):Bool:=decide (a=b)
def Arg.eqb:Arg→Arg→Bool
 | .v xs fl mu, .v xs' fl' mu'=>eqL Src.eqb xs xs'&&decide (fl=fl')&&eqMu mu mu'
 | .bx s, .bx s'=>s==s'
 |_,_=>false
def I.eqv:I→I→Bool
 | .chk t, .chk t'=>t==t'
 | .set dst xs fl, .set dst' xs' fl'=>dst==dst'&&eqL Src.eqb xs xs'&&decide (fl=fl')
 | .cpy a b, .cpy a' b'=>a==a'&&b==b'
 | .put via s off xs fl, .put via' s' off' xs' fl'=>via==via'&&s==s'&&off==off'&&eqL Src.eqb xs xs'&&decide (fl=fl')
 | .hole s k w, .hole s' k' w'=>s==s'&&k==k'&&eqW w w'
 | .bin op dst x y, .bin op' dst' x' y'=>decide (op=op')&&dst==dst'&&x.eqb x'&&y.eqb y'
 | .len dst x, .len dst' x'=>dst==dst'&&x.eqb x'
 | .idx dst sz x i, .idx dst' sz' x' i'=>dst==dst'&&sz==sz'&&x.eqb x'&&i.eqb i'
 | .row dst sz x i, .row dst' sz' x' i'=>dst==dst'&&sz==sz'&&x.eqb x'&&i.eqb i'
 | .deref dst x, .deref dst' x'=>dst==dst'&&x.eqb x'
 | .app dst sz x y fl, .app dst' sz' x' y' fl'=>dst==dst'&&sz==sz'&&x.eqb x'&&y.eqb y'&&fl==fl'
 | .lit dst sz rows, .lit dst' sz' rows'=>dst==dst'&&sz==sz'&&eqL (eqL Src.eqb) rows rows'
 | .mk dst zero n, .mk dst' zero' n'=>dst==dst'&&eqL D.eqb0 zero zero'&&n.eqb n'
 | .call f args dst, .call f' args' dst'=>f==f'&&eqL Arg.eqb args args'&&dst==dst'
 |_,_=>false
def LI.eqb (x y:LI):Bool:=decide (x.guard=y.guard)&&decide (x.dst=y.dst)&&x.nb==y.nb&&eqL I.eqv x.is y.is
def pull (y:LI):List LI→Option (List LI)
 | []=>none
 |x::l=>if x.eqb y then some l else if indep x y then (pull y l).map (x::·) else none
def permOk:List LI→List LI→Bool
 | [],[]=>true
 |l,y::l'=>match pull y l with
  |some r=>permOk r l'
  |none=>false
 |_,_=>false
def oneD (cx:Cx) (ops:List Oper) (share take:Bool) (rec:List Nat→List (Nat×List Nat)→List Nat→G→Option (List LI×G)) (listed:List Nat) (rq:List (Nat×List Nat)) (done:List Nat) (g:G) (early:Bool) (i:Nat):Option (List LI×G):=
 (ops[i]?).bind fun o=>
 (compOp cx share take (isBase ops.toArray o) g o).bind fun r=>
 (guardOf ops g done o).bind fun gd=>
 let nb:=match o.dst with|some d=>isGuard ops d|none=>false
 let rq':=if early then (i,rootsOf cx.P g o.op)::rq else rq.filter fun x=> !waitsB ops i x.1
 (rec (i::listed) rq' (if nb then o.dst.toList++done else done) r.g).bind fun x=>
 guardO (o.dst.all (fun d=>decide (d<cx.base)&& !done.contains d&& !protB cx.sg.params d)&&r.t.all (fun d=> !done.contains d)&&opersOk cx.base o.op&&
  (gd.isNone||(match o.dst with|some d=>r.t.isEmpty&&wfEnt r.g (r.g.ent d)&&decide (r.g=g.tch d (r.g.ent d))|none=>false))&&
  apartR g r.g rq' (r.t++o.dst.toList)&&(rootsOf cx.P g o.op).all (fun x=>decide (x<cx.base)||decide (PAR≤x)))
 (some (⟨gd,o.dst,nb,chks o.op++r.is⟩::x.1,x.2))
def compD (cx:Cx) (ops:List Oper) (share take:Bool):Nat→List Nat→List (Nat×List Nat)→List Nat→G→Option (List LI×G)
 |0,listed,_,_,g=>guardO ((List.range ops.length).all listed.contains) (some ([],g))
 |f+1,listed,rq,done,g=>forceG g fun g=>
  match nextOp cx.P ops listed with
  |some p=>oneD cx ops share take (compD cx ops share take f) listed rq done g p.1 p.2
  |none=>match (List.range ops.length).filter (readyB ops listed) with
   | []=>none
   |i::l=>(oneD cx ops share take (compD cx ops share take f) listed rq done g false i).bind fun x=>
    guardO (l.all fun j=>match oneD cx ops share take (compD cx ops share take f) listed rq done g false j with
     |some y=>permOk x.1 y.1&&decide (x.2=y.2)
     |none=>false) (some x)
def joins:List G→Option G
 | []=>none
 | [g]=>some (norm g)
 |g::l=>(joins l).map (join (norm g))
def fixLoop (f:G→Option CR) (g:G):Nat→G→Option CR
 |0,_=>none
 |n+1,h=>match f h with
  |none=>none
  |some x=>match x.norm with
   |none=>if leG g h then some ⟨.loop x.l,none,x.exits,x.rets⟩ else none
   |some e=>
    if leG g h&&leG e h then some ⟨.loop x.l,none,x.exits,x.rets⟩
    else fixLoop f g n (join h (norm e))
def meet:Option G→Option G→Option (Option G)
 |none,n=>some n
 |n,none=>some n
 |some p,some q=>
  let j:=join (norm p) (norm q)
  if leG p j&&leG q j then some (some j) else none
def rcKeeps (t:Option RC):Bool:=match t with
 |some (some (n,_))=>n !=0
 |_=>false
def keptR (ps:List PSig) (b:Option (Nat×List RC)) (r:Nat×Nat×Nat):Bool:=
 (match ps[r.1]? with
  |some (.bx _ _ ts)=>rcKeeps ts[r.2.1]?
  |some (.v cs)=>rcKeeps ((cs[r.2.1]?).map (·.out))
  |none=>false)||(match b with|some (s,ts)=>s==r.1&&rcKeeps ts[r.2.1]? |none=>false)
def okRoot (kp:Nat×Nat×Nat→Bool) (js:List Nat) (r:Nat×Nat×Nat):Bool:=(decide (r.1<PAR)&& !kp r)||(decide (PAR≤r.1)&&js.contains (r.1-PAR))
def rcRoots (kp:Nat×Nat×Nat→Bool) (n:Nat) (js:List Nat) (rs:Rts):Bool:=isDeep n||rs.all (okRoot kp js)
def retCel (kp:Nat×Nat×Nat→Bool) (g:G) (c:Cel):RC→Option Mv
 |none=>guardO (isScT c.tag) (some ⟨c.src,DEEP,[],none⟩)
 |some (0,js)=>(c.cp g).bind fun m=>guardO (rcRoots kp 0 js m.rs&& !isScT c.tag) (some m)
 |some (n+1,js)=>(c.mv g).bind fun m=>guardO (decide (n+1≤m.n)&&rcRoots kp (n+1) js m.rs&& !isScT c.tag) (some m)
def retCels (kp:Nat×Nat×Nat→Bool) (g:G):List Cel→List RC→Option (List Mv)
 | [],[]=>some []
 |c::cs,r::rs=>(retCel kp g c r).bind fun m=>(retCels kp g cs rs).map (m::·)
 |_,_=>none
def tagRc (kp:Nat×Nat×Nat→Bool) (g:G):Tag→RC→Bool
 | .sc,none=>true
 | .own m rs,some (n,js)=>decide (n≤m)&&curR g rs&&rcRoots kp n js rs
 |_,_=>false
def tagRcs (kp:Nat×Nat×Nat→Bool) (g:G):List Tag→List RC→Bool
 | [],[]=>true
 |t::ts,r::rs=>tagRc kp g t r&&tagRcs kp g ts rs
 |_,_=>false
def mutRcs (kp:Nat×Nat×Nat→Bool) (g:G):List Tag→List PC→Bool
 | [],[]=>true
 |t::ts,p::ps=>(match p.out with|none=>true|some rc=>tagRc kp g t (some rc))&&mutRcs kp g ts ps
 |_,_=>false
def retPars (P:Program) (tys:List TypeId) (kp:Nat×Nat×Nat→Bool) (g:G):Nat→List PSig→Bool
 |_,[]=>true
 |i, .v cs::ps=>(cs.all (fun c=>c.out.isNone)||(match g.ent i with| .val sh ts=>(match tys[i]? with|some ty=>sh==shapeOf P ty|none=>false)&&mutRcs kp g ts cs|_=>false))&&retPars P tys kp g (i+1) ps
 |i, .bx ty _ ts::ps=>(match g.ent i with| .box ty' tags=>ty==ty'&&tagRcs kp g tags ts|_=>false)&&retPars P tys kp g (i+1) ps
def resCels (P:Program) (g:G):List ResultVar→List RSig→Option (List Cel×List RC)
 | [],[]=>some ([],[])
 | .tmp t::vs, .v agg ws::rs=>(match g.ent t with
  | .val sh ts=>guardO (sh==(if agg then Shape.agg else Shape.one)) (some (celsOf t ts))
  |_=>guardO (!agg) ((boxAt g t).bind fun b=>guardO (b.2==0) ((boxCel g b.1 (boxTags g b.1)).map fun c=>[c]))).bind fun cs=>
  (resCels P g vs rs).bind fun l=>guardO (cs.length==ws.length) (some (cs++l.1,ws++l.2))
 | .cell t ty::vs, .v agg ws::rs=>(match g.ent t with
  | .box _ ts=>guardO (agg==isAggB P ty&&P.cellsOf ty==ts.length&&ts.length !=0&&(agg||ts.length==1)&&(P.underlying ty).isSome) (some (celsOf t ts))
  |_=>none).bind fun cs=>
  (resCels P g vs rs).bind fun l=>guardO (cs.length==ws.length) (some (cs++l.1,ws++l.2))
 |_,_=>none
def chkRv:List ResultVar→List I
 | []=>[]
 | .tmp t::l=> .chk t::chkRv l
 | .cell t _::l=> .chk t::chkRv l
def retOps (cx:Cx) (g:G):Option (List I):=
 match cx.rv,cx.sg.res with
 | [.tmp t],[.bx ty ts]=>(boxAt g t).bind fun b=>
  let kp:=keptR cx.sg.params (some (b.1,ts))
  guardO (b.2==0&&decide (cx.np≤b.1)&&decide (b.1<cx.base)&&decide (t<cx.base)&&boxTy g b.1==ty&&tagRcs kp g (boxTags g b.1) ts&&retPars cx.P cx.tys kp g 0 cx.sg.params)
  (some [.chk t, .cpy (cx.base+60) b.1])
 |vs,rs=>(resCels cx.P g vs rs).bind fun l=>(retCels (keptR cx.sg.params none) g l.1 l.2).bind fun ms=>
  guardO (mvsOk cx.base ms&&vs.all (fun v=>match v with| .tmp t=>decide (t<cx.base)| .cell t _=>decide (t<cx.base))&&retPars cx.P cx.tys (keptR cx.sg.params none) (leaves cx.base g ms) 0 cx.sg.params)
  (some (chkRv vs++(lifts cx.base ms).1++[.set (cx.base+60) (lifts cx.base ms).2 (l.2.map Option.isNone)]))
def compC (cx:Cx):Code→G→Option CR
 | .skip,g=>some ⟨.skip,some g,[],[]⟩
 | .region id ops draws,g=>
  if draws then guardO (noSel ops.toList&&decide (ops.size≤200)) ((compD cx ops.toList (cx.share.contains id) (cx.take.contains id) ops.toList.length [] [] [] g).map fun x=>⟨.ops x.1,some x.2,[],[]⟩)
  else (compOps cx ops.toList (cx.share.contains id) (cx.take.contains id) ops.toList [] g).map fun x=>⟨.ops x.1,some x.2.1,[],[]⟩
 | .seq a b,g=>
  match compC cx a g with
  |none=>none
  |some x=>match x.norm with
   |none=>some x
   |some g1=>match compC cx b g1 with
    |none=>none
    |some y=>some ⟨.seq x.l y.l,y.norm,x.exits++y.exits,x.rets++y.rets⟩
 | .cond c a b,g=>
  match scSrc cx.P g cx.P.rt.bool c,compC cx a g,compC cx b g with
  |some s,some x,some y=>match meet x.norm y.norm with
   |some n=>if opndOk cx.base c then some ⟨.cond s x.l y.l,n,x.exits++y.exits,x.rets++y.rets⟩ else none
   |none=>none
  |_,_,_=>none
 | .block id a,g=>
  match compC cx a g with
  |none=>none
  |some x=>
   let here:=x.norm.toList++(x.exits.filter (·.1==id)).map (·.2)
   let rest:=x.exits.filter (·.1 !=id)
   match joins here with
   |none=>some ⟨.block id x.l,none,rest,x.rets⟩
   |some j=>if here.all (leG · j) then some ⟨.block id x.l,some j,rest,x.rets⟩ else none
 | .loop a,g=>fixLoop (compC cx a) g 6 (norm g)
 | .exit id,g=>some ⟨.exit id,none,[(id,g)],[]⟩
 | .ret,g=>(retOps cx g).map fun is=>⟨.seq (.ops [⟨none,none,false,is⟩]) .ret,none,[],[g]⟩
 |_,_=>none
def pEnt (P:Program) (j:Nat) (ty:TypeId):PSig→Ent
 | .v cs=> .val (if isAggB P ty then .agg else .one) (cs.zipIdx.map fun (c,i)=>tagOf (j+i) c.n)
 | .bx ty tin _=> .box ty (tin.zipIdx.map fun (n,i)=>tagOf (j+i) n)
def PSig.count:PSig→Nat
 | .v cs=>cs.length
 | .bx _ tin _=>tin.length
def pEnts (P:Program):Nat→List TypeId→List PSig→List Ent
 |j,ty::tys,p::ps=>pEnt P j ty p::pEnts P (j+p.count) tys ps
 |_,_,_=>[]
def g0 (cx:Cx) (fn:Func) (sig:Sig):G:=
 let ps:=pEnts cx.P 0 fn.params.toList sig.params
 (ps.map fun e=>({ent:=e}:Slot))++List.replicate (cx.base+61-ps.length) ({ent:= .none}:Slot)
def compFn (cx:Cx) (fn:Func):Option L:=fn.body.bind fun b=>(compC cx b (g0 cx fn cx.sg)).bind fun r=>guardO (r.norm.isNone&&r.exits.isEmpty) (some r.l)
abbrev Good:=List (Nat×Nat)→Nat→Prop
def Good.sub (good:Good) (i o:Nat):Good:=fun π b=>good ((i,o)::π) b
def Good.subs (good:Good) (ix:List (Nat×Nat)):Good:=fun π b=>good (ix++π) b
inductive O (h:Array Obj):Good→D→Value→Prop
 |dead {good:Good} {v:Value} (h1:v.oneCell'=true):O h good .dead v
 |int {good:Good} {k:IntKind} {n:Int}:O h good (.int k n) (.int k n)
 |bool {good:Good} {b:Bool}:O h good (.bool b) (.bool b)
 |str {good:Good} {s:List UInt8}:O h good (.str s) (.string ⟨⟨s⟩⟩)
 |nil {good:Good} {sz:Nat}:O h good (.sl sz []) (.slice none 0 0)
 |emp {good:Good} {sz:Nat} {a:Addr}:O h good (.sl sz []) (.slice (some a) 0 0)
 |sl {good:Good} {sz:Nat} {rows:List (List D)} {b off len cap:Nat} {cs:Array Value} {ty:Nat} {fr:Nat×Nat} (hg:good [] b)
  (hb:h[b]? =some (.cells cs ty fr)) (hl:len=rows.length) (hc:len≤cap) (ho:off+cap*sz≤cs.size)
  (hr:∀(i:Nat) (row:List D),rows[i]? =some row→row.length=sz)
  (he:∀(i o:Nat) (d:D),cellAt rows i o=some d→O h (good.sub i o) d (cs.getD (off+i*sz+o) undef)):
  O h good (.sl sz rows) (.slice (some ⟨b,off,none⟩) len cap)
 |pnil {good:Good}:O h good (.pt []) (.pointer none)
 |pt {good:Good} {row:List D} {b off:Nat} {cs:Array Value} {ty:Nat} {fr:Nat×Nat} (hg:good [] b)
  (hb:h[b]? =some (.cells cs ty fr)) (ho:off+row.length≤cs.size)
  (he:∀(o:Nat) (d:D),row[o]? =some d→O h (good.sub 0 o) d (cs.getD (off+o) undef)):
  O h good (.pt [row]) (.pointer (some ⟨b,off,none⟩))
theorem O.frame {h h':Array Obj} {good:Good} {d:D} {v:Value} (ho:O h good d v):
  ∀{good':Good},(∀π b,good π b→h'[b]? =h[b]? ∧good' π b)→O h' good' d v:=by
 induction ho with
 |dead h1=>intros;exact .dead h1
 |int=>intros;exact .int
 |bool=>intros;exact .bool
 |str=>intros;exact .str
 |nil=>intros;exact .nil
 |emp=>intros;exact .emp
 |pnil=>intros;exact .pnil
 |sl hg hb hl hc ho hr _ ih=>
  intro good' hf
  exact .sl (hf _ _ hg).2 (by rw[(hf _ _ hg).1,hb]) hl hc ho hr fun i o d hd=>ih i o d hd fun π b hπ=>hf _ _ hπ
 |pt hg hb ho _ ih=>
  intro good' hf
  exact .pt (hf _ _ hg).2 (by rw[(hf _ _ hg).1,hb]) ho fun o d hd=>ih o d hd fun π b hπ=>hf _ _ hπ
theorem O.one {h:Array Obj} {good:Good} {d:D} {v:Value} (ho:O h good d v):v.oneCell'=true:=by
 cases ho<;>first|rfl|assumption
theorem O.mono {h:Array Obj} {good good':Good} {d:D} {v:Value} (ho:O h good d v) (hg:∀π b,good π b→good' π b):O h good' d v:=
 ho.frame fun π b hp=>⟨rfl,hg π b hp⟩
theorem O.flat {h h':Array Obj} {good good':Good} {d:D} {v:Value} (hf:d.flat=true) (ho:O h good d v):O h' good' d v:=by
 cases ho<;>first|exact .int|exact .bool|exact .str|(simp[D.flat] at hf)
theorem cellAt_lt {rows:List (List D)} {i o:Nat} {d:D} (h:cellAt rows i o=some d):∃row,rows[i]? =some row∧row[o]? =some d:=by
 unfold cellAt at h
 cases hr:rows[i]? with
 |none=>simp[hr] at h
 |some row=>exact ⟨row,rfl,by simpa[hr] using h⟩
theorem cellAt_nil {i o:Nat}:cellAt [] i o=none:=by simp[cellAt]
inductive Color where
 |free
 |stable
 |arr (s o:Nat) (w:List (Nat×Nat))
 |box (s:Nat)
 |mp (s:Nat)
 |lim (v:Nat) (w:List (Nat×Nat))
 deriving DecidableEq
def Color.own:Color→Option Nat
 | .arr s _ _| .box s| .mp s| .lim s _=>some s
 |_=>none
def okB (col:Nat→Color) (s o:Nat) (π:List (Nat×Nat)) (b:Nat):Bool:=decide (col b= .arr s o π)||decide (col b= .stable)
def loc (h:Array Obj) (col:Nat→Color) (s o:Nat):List (Nat×Nat)→D→Value→List (Nat×Nat)→Option (D×Value)
 |_,d,v,[]=>some (d,v)
 |π, .sl sz rows, .slice (some a) _ _,(i,q)::w=>
  if okB col s o π a.block then match cellAt rows i q,h[a.block]? with
   |some d,some (.cells cs _ _)=>loc h col s o (π++[(i,q)]) d (cs.getD (a.off+i*sz+q) undef) w
   |_,_=>none
  else none
 |_,_,_,_=>none
section loc
variable {h:Array Obj} {col:Nat→Color} {s o:Nat}
theorem loc_nil (π:List (Nat×Nat)) (d:D) (v:Value):loc h col s o π d v []=some (d,v):=by
 cases d<;>cases v<;>rfl
theorem O.find:∀(ix π:List (Nat×Nat)) {good:Good} {d d1:D} {v:Value},O h good d v→d.at ix=some d1→
  (∀(ρ:List (Nat×Nat)) (b:Nat),good ρ b→ρ.length<ix.length→okB col s o (π++ρ) b=true)→∃v1,loc h col s o π d v ix=some (d1,v1):=by
 intro ix
 induction ix with
 |nil=>intro π good d d1 v _ hd _;simp[D.at] at hd;subst hd;exact ⟨v,loc_nil _ _ _⟩
 |cons p ix ih=>
  obtain ⟨i,q⟩:=p
  intro π good d d1 v ho hd hok
  cases ho with
  |sl hg hb hl hc ho hr he=>
   simp only[D.at] at hd
   split at hd
   ·rename_i d2 hc2
    obtain ⟨v1,hv⟩:=ih (π++[(i,q)]) (he i q d2 hc2) hd fun ρ b hg' hlt=>by
     have:=hok ((i,q)::ρ) b hg' (by simp;omega)
     simpa using this
    have h0:=hok [] _ hg (by simp)
    rw[List.append_nil] at h0
    exact ⟨v1,by simp only[loc,h0,if_true,hc2,hb];exact hv⟩
   ·cases hd
  |nil=>simp[D.at,cellAt_nil] at hd
  |emp=>simp[D.at,cellAt_nil] at hd
  |_=>simp[D.at] at hd
theorem loc_at:∀(ix π:List (Nat×Nat)) {d d1:D} {v v1:Value},loc h col s o π d v ix=some (d1,v1)→d.at ix=some d1:=by
 intro ix
 induction ix with
 |nil=>intro π d d1 v v1 hl;rw[loc_nil] at hl;simp at hl;simp[D.at,hl.1]
 |cons p ix ih=>
  obtain ⟨i,q⟩:=p
  intro π d d1 v v1 hl
  unfold loc at hl
  split at hl
  ·simp_all
  ·rename_i π' sz rows a _ _ i' o' w heq
   simp at heq
   obtain ⟨⟨rfl,rfl⟩,rfl⟩:=heq
   split at hl
   ·split at hl
    ·rename_i d2 cs _ _ hc _
     simp only[D.at,hc]
     exact ih _ hl
    ·cases hl
   ·cases hl
  ·cases hl
theorem O.at:∀(ix π:List (Nat×Nat)) {good:Good} {d d1:D} {v v1:Value},O h good d v→loc h col s o π d v ix=some (d1,v1)→
  O h (good.subs ix) d1 v1:=by
 intro ix
 induction ix with
 |nil=>intro π good d d1 v v1 ho hl;rw[loc_nil] at hl;simp at hl;obtain ⟨rfl,rfl⟩:=hl;exact ho
 |cons p ix ih=>
  obtain ⟨i,q⟩:=p
  intro π good d d1 v v1 ho hl
  cases ho with
  |sl hg hb hlen hc ho hr he=>
   simp only[loc] at hl
   split at hl
   ·split at hl
    ·rename_i d2 cs2 _ _ hc2 hb2
     rw[hb] at hb2
     simp at hb2
     obtain ⟨rfl,_⟩:=hb2
     exact ih _ (he i q d2 hc2) hl
    ·cases hl
   ·cases hl
  |nil=>simp[loc] at hl
  |emp=>
   simp only[loc,cellAt_nil] at hl
   split at hl<;>cases hl
  |dead=>simp[loc] at hl
  |int=>simp[loc] at hl
  |bool=>simp[loc] at hl
  |str=>simp[loc] at hl
  |pnil=>simp[loc] at hl
  |pt=>simp[loc] at hl
theorem loc_frame {h':Array Obj} {col':Nat→Color}:∀(ix π:List (Nat×Nat)) {d d1:D} {v v1:Value},loc h col s o π d v ix=some (d1,v1)→
  (∀b π,col b= .arr s o π→h'[b]? =h[b]? ∧(col' b=col b∨col' b= .stable))→(∀b,col b= .stable→h'[b]? =h[b]? ∧col' b= .stable)→
  loc h' col' s o π d v ix=some (d1,v1):=by
 intro ix
 induction ix with
 |nil=>intro π d d1 v v1 hl _ _;rw[loc_nil] at hl ⊢;exact hl
 |cons p ix ih=>
  obtain ⟨i,q⟩:=p
  intro π d d1 v v1 hl h1 h2
  unfold loc at hl
  split at hl
  ·simp_all
  ·rename_i π' sz rows a _ _ i' o' w heq
   simp at heq
   obtain ⟨⟨rfl,rfl⟩,rfl⟩:=heq
   split at hl
   ·rename_i hok
    split at hl
    ·rename_i d2 cs _ _ hc hb
     have key:∀ρ,okB col s o ρ a.block=true→h'[a.block]? =h[a.block]? ∧okB col' s o ρ a.block=true:=by
      intro ρ hok
      unfold okB at hok ⊢
      simp only[Bool.or_eq_true,decide_eq_true_eq] at hok ⊢
      rcases hok with hok|hok
      ·obtain ⟨g1,g2⟩:=h1 _ _ hok
       refine ⟨g1,?_⟩
       rcases g2 with g2|g2
       ·exact .inl (g2.trans hok)
       ·exact .inr g2
      ·exact ⟨(h2 _ hok).1, .inr (h2 _ hok).2⟩
     have k2:=key _ hok
     rw[← k2.1] at hb
     simp only[loc,k2.2,if_true,hc,hb]
     exact ih _ hl h1 h2
    ·cases hl
   ·cases hl
  ·cases hl
theorem loc_append:∀(ix jx π:List (Nat×Nat)) {d d1:D} {v v1:Value},loc h col s o π d v ix=some (d1,v1)→
  loc h col s o π d v (ix++jx)=loc h col s o (π++ix) d1 v1 jx:=by
 intro ix
 induction ix with
 |nil=>intro jx π d d1 v v1 hl;rw[loc_nil] at hl;simp at hl;obtain ⟨rfl,rfl⟩:=hl;simp
 |cons p ix ih=>
  obtain ⟨i,q⟩:=p
  intro jx π d d1 v v1 hl
  unfold loc at hl
  split at hl
  ·simp_all
  ·rename_i π' sz rows a _ _ i' o' w heq
   simp at heq
   obtain ⟨⟨rfl,rfl⟩,rfl⟩:=heq
   split at hl
   ·rename_i hok
    split at hl
    ·rename_i d2 cs _ _ hc hb
     rw[List.cons_append]
     simp only[loc,hok,if_true,hc,hb]
     rw[ih jx _ hl]
     simp
    ·cases hl
   ·cases hl
  ·cases hl
end loc
theorem O.hole {h h':Array Obj}:∀(ix:List (Nat×Nat)) {good good':Good} {d d':D} {v:Value},O h good d v→ix≠[]→
  d.setAt ix (fun _=>some .dead)=some d'→(∀π b,¬ ix<+:π→good π b→h'[b]? =h[b]? ∧good' π b)→O h' good' d' v:=by
 intro ix
 induction ix with
 |nil=>intro _ _ _ _ _ _ hne;exact absurd rfl hne
 |cons p ix ih=>
  obtain ⟨i,o⟩:=p
  intro good good' d d' v ho _ hd hf
  cases ho with
  | @sl _ sz rows b off len cap cs ty fr hg hb hlen hc ho hr he=>
   have h0:=hf [] b (by simp) hg
   simp only[D.setAt] at hd
   split at hd
   ·rename_i row hrow
    split at hd
    ·rename_i x hx
     split at hd
     ·rename_i x' hx'
      simp at hd
      subst hd
      refine .sl h0.2 (by rw[h0.1,hb]) (by simpa using hlen) hc ho ?_ ?_
      ·intro j r hj
       by_cases e:i=j
       ·subst e
        have hi:i<rows.length:=by
         rcases zJ i rows.length with h'|h'
         ·exact h'
         ·simp[zG h'] at hrow
        simp[zO hi] at hj
        subst hj
        simpa using hr i row hrow
       ·rw[zN e] at hj
        exact hr j r hj
      ·intro j q y hy
       obtain ⟨r,hr1,hr2⟩:=cellAt_lt hy
       by_cases e:i=j
       ·subst e
        have hi:i<rows.length:=by
         rcases zJ i rows.length with h'|h'
         ·exact h'
         ·simp[zG h'] at hrow
        simp[zO hi] at hr1
        subst hr1
        by_cases e2:o=q
        ·subst e2
         have ho2:o<row.length:=by
          rcases zJ o row.length with h'|h'
          ·exact h'
          ·simp[zG h'] at hx
         simp[zO ho2] at hr2
         subst hr2
         have hcell:cellAt rows i o=some x:=by simp[cellAt,hrow,hx]
         by_cases hn:ix=[]
         ·subst hn
          simp[D.setAt] at hx'
          subst hx'
          exact .dead (he i o x hcell).one
         ·exact ih (he i o x hcell) hn hx' fun π b' hπ hg'=>hf _ _ (by simpa using hπ) hg'
        ·rw[zN e2] at hr2
         have hcell:cellAt rows i q=some y:=by simp[cellAt,hrow,hr2]
         exact (he i q y hcell).frame fun π b' hg'=>hf _ _ (by simp;intro h1;exact absurd h1 e2) hg'
       ·rw[zN e] at hr1
        have hcell:cellAt rows j q=some y:=by simp[cellAt,hr1,hr2]
        exact (he j q y hcell).frame fun π b' hg'=>hf _ _ (by simp;intro h1;exact absurd h1 e) hg'
     ·cases hd
    ·cases hd
   ·cases hd
  |nil=>simp[D.setAt] at hd
  |_=>simp[D.setAt] at hd
theorem O.node {h h':Array Obj} {col:Nat→Color} {s o0:Nat}:∀(ix π:List (Nat×Nat)) {good good':Good} {d d' d1:D} {v v1:Value} {f:D→Option D},O h good d v→
  loc h col s o0 π d v ix=some (d1,v1)→d.setAt ix f=some d'→(∀π b,¬ ix<+:π→good π b→h'[b]? =h[b]? ∧good' π b)→
  (∀d1',f d1=some d1'→O h' (good'.subs ix) d1' v1)→O h' good' d' v:=by
 intro ix
 induction ix with
 |nil=>
  intro π good good' d d' d1 v v1 f _ hl hd _ hn
  rw[loc_nil] at hl
  simp at hl
  obtain ⟨rfl,rfl⟩:=hl
  have:f d=some d':=by cases d<;>simpa[D.setAt] using hd
  exact hn d' this
 |cons p ix ih=>
  obtain ⟨i,o⟩:=p
  intro π good good' d d' d1 v v1 f ho hl hd hf hn
  cases ho with
  | @sl _ sz rows b off len cap cs ty fr hg hb hlen hc ho hr he=>
   have h0:=hf [] b (by simp) hg
   simp only[D.setAt] at hd
   split at hd
   ·rename_i row hrow
    split at hd
    ·rename_i x hx
     split at hd
     ·rename_i x' hx'
      simp at hd
      subst hd
      have hcell:cellAt rows i o=some x:=by simp[cellAt,hrow,hx]
      simp only[loc,hcell,hb] at hl
      have hl:loc h col s o0 (π++[(i,o)]) x (cs.getD (off+i*sz+o) undef) ix=some (d1,v1):=by
       split at hl
       ·exact hl
       ·cases hl
      have hi:i<rows.length:=by
       rcases zJ i rows.length with h'|h'
       ·exact h'
       ·simp[zG h'] at hrow
      have ho2:o<row.length:=by
       rcases zJ o row.length with h'|h'
       ·exact h'
       ·simp[zG h'] at hx
      have other:∀j q,(j,q)≠(i,o)→∀π b',good ((j,q)::π) b'→h'[b']? =h[b']? ∧good' ((j,q)::π) b':=by
       intro j q hjq π b' hg'
       refine hf _ _ ?_ hg'
       simp only[List.cons_prefix_cons,not_and]
       intro e
       exact absurd e.symm hjq
      refine .sl h0.2 (by rw[h0.1,hb]) (by simpa using hlen) hc ho ?_ ?_
      ·intro j r hj
       by_cases e:i=j
       ·subst e
        simp[zO hi] at hj
        subst hj
        simpa using hr i row hrow
       ·rw[zN e] at hj
        exact hr j r hj
      ·intro j q y hy
       obtain ⟨r,hr1,hr2⟩:=cellAt_lt hy
       by_cases e:i=j
       ·subst e
        simp[zO hi] at hr1
        subst hr1
        by_cases e2:o=q
        ·subst e2
         simp[zO ho2] at hr2
         subst hr2
         exact ih _ (he i o x hcell) hl hx' (fun π b' hπ hg'=>hf _ _ (by simpa using hπ) hg') hn
        ·rw[zN e2] at hr2
         exact (he i q y (by simp[cellAt,hrow,hr2])).frame (other i q (by simp;exact fun h1=>e2 h1.symm))
       ·rw[zN e] at hr1
        exact (he j q y (by simp[cellAt,hr1,hr2])).frame (other j q (by simp;exact fun h1=>absurd h1.symm e))
     ·cases hd
    ·cases hd
   ·cases hd
  |nil=>simp[D.setAt] at hd
  |_=>simp[D.setAt] at hd
structure K where
 P:Program
 h0:Array Obj
 col0:Nat→Color
 S:Nat→Nat→Prop
def K.fresh (k:K) (b:Nat):Prop:=k.col0 b≠ .stable
structure M where
 σ:St
 c:Nat→Value
 h:Array Obj
 col:Nat→Color
def deepOk (k:K) (col:Nat→Color) (rs:Rts) (b:Nat):Prop:=
 (col b= .stable∧(k.fresh b∨∃r∈rs,∃j,r.1=PAR+j∧k.S j b))∨∃r∈rs,∃π,col b= .arr r.1 r.2.1 π
def gd (k:K) (col:Nat→Color) (s o n:Nat) (rs:Rts):Good:=fun π b=>
 if owns n π.length=true then col b= .arr s o π else deepOk k col rs b
def gl (k:K) (col:Nat→Color) (v n:Nat) (rs:Rts):Good:=fun π b=>
 if owns n π.length=true then col b= .lim v π else deepOk k col rs b
def tupCells:List (Bool×Nat)→List Value→Option (List Value)
 | [],[]=>some []
 |(true,n)::l, .agg cs::vs=>if cs.size=n then (tupCells l vs).map (cs.toList++·) else none
 |(false,n)::l,v::vs=>if n=1 then (tupCells l vs).map (v::·) else none
 |_,_=>none
def cellsV:Shape→Value→Option (List Value)
 | .one,v=>some [v]
 | .agg, .agg cs=>some cs.toList
 | .tup l, .tuple vs=>tupCells l vs.toList
 |_,_=>none
def boxCells (h:Array Obj):Value→Option (List Value)
 | .pointer (some ⟨b,0,none⟩)=>match h[b]? with
  |some (.cells cs _ _)=>some cs.toList
  |_=>none
 |_=>none
def conc (h:Array Obj) (e:Ent) (v:Value):Option (List Value):=
 match e with
 | .val sh _=>cellsV sh v
 | .box _ _=>boxCells h v
 |_=>none
def root (g:G) (m:M) (s o:Nat):Option (D×Value):=
 match (m.σ s)[o]?,(conc m.h (g.ent s) (m.c s)).bind (·[o]?) with
 |some d,some v=>some (d,v)
 |_,_=>none
def CellOk (k:K) (g:G) (m:M) (s o:Nat) (d:D) (v:Value):Tag→Prop
 | .dead=>True
 | .sc=>d.flat=true∧O m.h (fun _ _=>False) d v
 | .own n rs=>d.flat=false∧(curR g rs=true→O m.h (gd k m.col s o n rs) d v)
 | .loan s' o' v' w=>curL g s' v' w=true→∃d0 v0 ix d1,root g m s' o'=some (d0,v0)∧wayOf m.σ (wayW w)=some ix∧loc m.h m.col s' o' [] d0 v0 ix=some (d1,v)∧d1.flat=false
 | .pre s' o' v'=>g.ver s'=v'→∃sz rows n a len cap,root g m s' o'=some (.sl sz rows, .slice a len cap)∧d= .sl sz (rows.take n)∧n≤rows.length∧v= .slice a n cap
def CellsOk (k:K) (g:G) (m:M) (s:Nat) (ts:List Tag) (vs:List Value):Prop:=
 vs.length=ts.length∧(m.σ s).length=ts.length∧(∀v∈vs,v.oneCell'=true)∧∀(o:Nat) (t:Tag) (d:D) (v:Value),ts[o]? =some t→(m.σ s)[o]? =some d→vs[o]? =some v→CellOk k g m s o d v t
def MapOk (m:List (Int×Bool)) (es:Array MapEntry):Prop:=
 es.toList.map (fun e=>(e.key,e.val))=m.map (fun x=>(Value.int .i64 x.1,Value.bool x.2))
def EntOk (k:K) (g:G) (m:M) (s:Nat):Ent→Prop
 | .none=>True
 | .val sh ts=>m.σ s=[]∨∃vs,cellsV sh (m.c s)=some vs∧CellsOk k g m s ts vs
 | .box ty ts=>m.σ s=[]∨∃(b:Nat) (cs:Array Value),m.c s= .pointer (some ⟨b,0,none⟩)∧m.col b= .box s∧m.h[b]? =some (.cells cs ty (0,0))∧CellsOk k g m s ts cs.toList
 | .ptr b v off=>m.σ s=[]∨(g.idv b=v→∃blk,m.c b= .pointer (some ⟨blk,0,none⟩)∧m.c s= .pointer (some ⟨blk,off,none⟩))
 | .eptr s' o' v w i iv off sz=>m.σ s=[]∨(curL g s' v w=true→g.ver i=iv→∃d0 v0 ix rows b off1 len cap n,root g m s' o'=some (d0,v0)∧wayOf m.σ (wayW w)=some ix∧
  loc m.h m.col s' o' [] d0 v0 ix=some (.sl sz rows, .slice (some ⟨b,off1,none⟩) len cap)∧idxOf m.σ i=some n∧n<len∧m.c s= .pointer (some ⟨b,off1+n*sz+off,none⟩))
 | .rptr rs off=>m.σ s=[]∨(curR g rs=true→∃(b o0:Nat) (cs:Array Value) (ty:Nat) (fr:Nat×Nat),m.h[b]? =some (.cells cs ty fr)∧m.c s= .pointer (some ⟨b,o0+off,none⟩)∧deepOk k m.col rs b∧
  o0+(m.σ s).length≤cs.size∧∀(o:Nat) (d:D),(m.σ s)[o]? =some d→O m.h (fun _=>deepOk k m.col rs) d (cs.getD (o0+o) undef))
 | .map=>m.σ s=[]∨∃r l es clk,m.σ s=[.mp l]∧m.c s= .map (some r)∧m.col r= .mp s∧m.h[r]? =some (.map es clk)∧MapOk l es
 | .mal s' v=>m.σ s=[]∨(g.idv s'=v→m.c s=m.c s')
structure Kin (d d':D):Prop where
 flat:d'.flat=false
 sl:∀sz rows,d= .sl sz rows→∃rows',d'= .sl sz rows'
theorem Kin.refl {d:D} (h:d.flat=false):Kin d d:=⟨h,fun _ rows e=>⟨rows,e⟩⟩
theorem Kin.trans {a b c:D} (h:Kin a b) (h':Kin b c):Kin a c:=⟨h'.flat,fun sz rows e=>by obtain ⟨r',e'⟩:=h.sl sz rows e;exact h'.sl sz r' e'⟩
structure Keep (g g':G) (m m':M) (x:Nat):Prop where
 id:g'.idv x=g.idv x→m'.c x=m.c x
 hd:g'.hv x=g.hv x→∀o d v,root g m x o=some (d,v)→d.flat=false→∃d',root g' m' x o=some (d',v)∧Kin d d'
 dp:g'.dv x=g.dv x→∀o d v ix d1 v1,root g m x o=some (d,v)→loc m.h m.col x o [] d v ix=some (d1,v1)→d1.flat=false→
  ∃d' d1',root g' m' x o=some (d',v)∧loc m'.h m'.col x o [] d' v ix=some (d1',v1)∧Kin d1 d1'
 vr:g'.ver x=g.ver x→m'.σ x=m.σ x∧(∀o,root g' m' x o=root g m x o)∧∀b o π,m.col b= .arr x o π→m'.h[b]? =m.h[b]? ∧(m'.col b=m.col b∨m'.col b= .stable)
structure Mem (k:K) (m:M):Prop where
 size:k.h0.size≤m.h.size
 free:∀b,m.h.size≤b↔m.col b= .free
 fresh:∀b s,(m.col b).own=some s→k.fresh b
 arr:∀b s o π,m.col b= .arr s o π→s<PAR∧∃cs ty,m.h[b]? =some (.cells cs ty (0,0))
 lm:∀b v π,m.col b= .lim v π→PAR≤v∧∃cs ty,m.h[b]? =some (.cells cs ty (0,0))
 bx:∀b s,m.col b= .box s→∃cs ty,m.h[b]? =some (.cells cs ty (0,0))
 kept:∀b,k.col0 b= .stable→m.h[b]? =k.h0[b]? ∧m.col b= .stable
def WfR (g:G) (rs:Rts):Prop:=∀r∈rs,r.2.2≤g.ver r.1
def WfW (g:G) (w:List (Nat×Nat×Nat)):Prop:=∀x∈w,x.2.1≤g.ver x.1
def WfL (g:G) (s v:Nat) (w:List (Nat×Nat×Nat)):Prop:=(v≤if w.isEmpty then g.hv s else g.dv s)∧WfW g w
def TagWf (g:G):Tag→Prop
 | .own _ rs=>WfR g rs
 | .loan s _ v w=>WfL g s v w
 | .pre s _ v=>v≤g.ver s
 |_=>True
def EntWf (g:G):Ent→Prop
 | .val _ ts| .box _ ts=>∀t∈ts,TagWf g t
 | .ptr b v _=>v≤g.idv b
 | .eptr s _ v w i iv _ _=>WfL g s v w∧iv≤g.ver i
 | .rptr rs _=>WfR g rs
 | .mal s v=>v≤g.idv s
 |_=>True
structure Rel (k:K) (g:G) (m:M):Prop where
 small:g.length≤PAR
 mem:Mem k m
 wf:∀s,EntWf g (g.ent s)
 ent:∀s,EntOk k g m s (g.ent s)
def Stays (m m':M):Prop:=∀b,m.col b= .stable→m'.h[b]? =m.h[b]? ∧m'.col b= .stable
structure Phys (m m':M) (x:Nat):Prop where
 c:m'.c x=m.c x
 σ:m'.σ x=m.σ x
 blk:∀b,(m.col b).own=some x→m'.h[b]? =m.h[b]? ∧m'.col b=m.col b
theorem curR_mem {g:G} {rs:Rts} (h:curR g rs=true) {r:Nat×Nat×Nat} (hr:r∈rs):g.ver r.1=r.2.2:=by
 unfold curR at h
 rw[zL] at h
 simpa using h r hr
theorem deepOk_keep {k:K} {g g':G} {m m':M} {rs:Rts} (hm:Mem k m) (hk:∀x,Keep g g' m m' x) (hs:Stays m m')
  (hv:∀r∈rs,g'.ver r.1=g.ver r.1) {b:Nat} (h:deepOk k m.col rs b):m'.h[b]? =m.h[b]? ∧deepOk k m'.col rs b:=by
 rcases h with ⟨hc,hf⟩|⟨r,hr,π,hc⟩
 ·exact ⟨(hs b hc).1, .inl ⟨(hs b hc).2,hf⟩⟩
 ·obtain ⟨h1,h2⟩:=((hk r.1).vr (hv r hr)).2.2 b r.2.1 π hc
  rcases h2 with h2|h2
  ·exact ⟨h1, .inr ⟨r,hr,π,by rw[h2,hc]⟩⟩
  ·exact ⟨h1, .inl ⟨h2, .inl (hm.fresh b r.1 (by rw[hc];rfl))⟩⟩
theorem wayOf_keep {σ σ':St} {w:List (Nat×Nat)} (h:∀x∈w,σ' x.1=σ x.1):wayOf σ' w=wayOf σ w:=by
 induction w with
 |nil=>rfl
 |cons p w ih=>
  obtain ⟨r,o⟩:=p
  simp only[wayOf,idxOf]
  rw[h (r,o) (by simp),ih fun x hx=>h x (by simp[hx])]
theorem curW_mem {g:G} {w:List (Nat×Nat×Nat)} (h:curW g w=true) {x:Nat×Nat×Nat} (hx:x∈w):g.ver x.1=x.2.1:=by
 unfold curW at h
 rw[zL] at h
 simpa using h x hx
theorem mem_wayW {w:List (Nat×Nat×Nat)} {p:Nat×Nat} (h:p∈wayW w):∃x∈w,x.1=p.1:=by
 simp only[wayW,List.mem_map] at h
 obtain ⟨x,hx,rfl⟩:=h
 exact ⟨x,hx,rfl⟩
structure Older (g g':G):Prop where
 ver:∀x,g.ver x≤g'.ver x
 dv:∀x,g.dv x≤g'.dv x
 hv:∀x,g.hv x≤g'.hv x
 idv:∀x,g.idv x≤g'.idv x
theorem WfR.older {g g':G} (h:Older g g') {rs:Rts} (w:WfR g rs):WfR g' rs:=fun r hr=>zS (w r hr) (h.ver _)
theorem WfW.older {g g':G} (h:Older g g') {w:List (Nat×Nat×Nat)} (hw:WfW g w):WfW g' w:=fun r hr=>zS (hw r hr) (h.ver _)
theorem WfL.older {g g':G} (h:Older g g') {s v:Nat} {w:List (Nat×Nat×Nat)} (hw:WfL g s v w):WfL g' s v w:=by
 refine ⟨zS hw.1 ?_,hw.2.older h⟩
 split
 ·exact h.hv _
 ·exact h.dv _
theorem TagWf.older {g g':G} (h:Older g g') {t:Tag} (w:TagWf g t):TagWf g' t:=by
 cases t with
 |own n rs=>exact WfR.older h w
 |loan=>exact WfL.older h w
 |pre=>exact zS w (h.ver _)
 |_=>trivial
theorem EntWf.older {g g':G} (h:Older g g') {e:Ent} (w:EntWf g e):EntWf g' e:=by
 cases e with
 |val sh ts=>exact fun t ht=>(w t ht).older h
 |box ty ts=>exact fun t ht=>(w t ht).older h
 |ptr=>exact zS w (h.idv _)
 |eptr=>exact ⟨w.1.older h,zS w.2 (h.ver _)⟩
 |rptr=>exact WfR.older h w
 |mal=>exact zS w (h.idv _)
 |_=>trivial
theorem curR_back {g g':G} (h:Older g g') {rs:Rts} (w:WfR g rs) (c:curR g' rs=true):curR g rs=true∧∀r∈rs,g'.ver r.1=g.ver r.1:=by
 have e:∀r∈rs,g'.ver r.1=g.ver r.1:=fun r hr=>by have:=curR_mem c hr;have:=w r hr;have:=h.ver r.1;omega
 refine ⟨?_,e⟩
 unfold curR
 rw[zL]
 intro r hr
 have:=curR_mem c hr
 have:=e r hr
 simp
 omega
theorem curW_back {g g':G} (h:Older g g') {w:List (Nat×Nat×Nat)} (hw:WfW g w) (c:curW g' w=true):curW g w=true∧∀x∈w,g'.ver x.1=g.ver x.1:=by
 have e:∀r∈w,g'.ver r.1=g.ver r.1:=fun r hr=>by have:=curW_mem c hr;have:=hw r hr;have:=h.ver r.1;omega
 refine ⟨?_,e⟩
 unfold curW
 rw[zL]
 intro r hr
 have:=curW_mem c hr
 have:=e r hr
 simp
 omega
theorem curL_back {g g':G} (h:Older g g') {s v:Nat} {w:List (Nat×Nat×Nat)} (hw:WfL g s v w) (c:curL g' s v w=true):
  curL g s v w=true∧(∀x∈w,g'.ver x.1=g.ver x.1)∧(if w.isEmpty then g'.hv s=g.hv s else g'.dv s=g.dv s):=by
 unfold curL at c ⊢
 rw[zD] at c ⊢
 obtain ⟨c1,c2⟩:=c
 have hb:=curW_back h hw.2 c2
 have hw1:=hw.1
 by_cases e:w.isEmpty=true
 ·simp only[e,if_true] at c1 hw1 ⊢
  have:=h.hv s
  simp at c1
  refine ⟨⟨by simp;omega,hb.1⟩,hb.2,by omega⟩
 ·simp only[e,if_false,Bool.false_eq_true] at c1 hw1 ⊢
  have:=h.dv s
  simp at c1
  refine ⟨⟨by simp;omega,hb.1⟩,hb.2,by omega⟩
theorem loc_keep {g g':G} {m m':M} (hk:∀x,Keep g g' m m' x) {s' o':Nat} {w:List (Nat×Nat×Nat)} {ix:List (Nat×Nat)} {d0 d1:D} {v0 v1:Value}
  (hx:∀x∈w,g'.ver x.1=g.ver x.1) (he:if w.isEmpty then g'.hv s'=g.hv s' else g'.dv s'=g.dv s')
  (hr:root g m s' o'=some (d0,v0)) (hw:wayOf m.σ (wayW w)=some ix) (hl:loc m.h m.col s' o' [] d0 v0 ix=some (d1,v1)) (hfl:d1.flat=false):
  ∃d0' d1',root g' m' s' o'=some (d0',v0)∧wayOf m'.σ (wayW w)=some ix∧loc m'.h m'.col s' o' [] d0' v0 ix=some (d1',v1)∧Kin d1 d1':=by
 have hw':wayOf m'.σ (wayW w)=some ix:=by
  rw[← hw]
  exact wayOf_keep fun p hp=>by
   obtain ⟨x,hx1,hx2⟩:=mem_wayW hp
   rw[← hx2]
   exact ((hk x.1).vr (hx x hx1)).1
 by_cases e:w.isEmpty=true
 ·simp only[e,if_true] at he
  have:w=[]:=by simpa using e
  subst this
  simp[wayW,wayOf] at hw
  subst hw
  rw[loc_nil] at hl
  simp at hl
  obtain ⟨rfl,rfl⟩:=hl
  obtain ⟨d',h1,h2⟩:=(hk s').hd he o' d0 v0 hr hfl
  exact ⟨d',d',h1,hw',loc_nil _ _ _,h2⟩
 ·simp only[e,if_false,Bool.false_eq_true] at he
  obtain ⟨d',d1',h1,h2,h3⟩:=(hk s').dp he o' d0 v0 ix d1 v1 hr hl hfl
  exact ⟨d',d1',h1,hw',h2,h3⟩
theorem gd_keep {k:K} {g g':G} {m m':M} {s o n:Nat} {rs:Rts} (hm:Mem k m) (hk:∀x,Keep g g' m m' x) (hs:Stays m m')
  (hr:∀b π,m.col b= .arr s o π→m'.h[b]? =m.h[b]? ∧m'.col b=m.col b) (hv:∀r∈rs,g'.ver r.1=g.ver r.1):∀π b,gd k m.col s o n rs π b→m'.h[b]? =m.h[b]? ∧gd k m'.col s o n rs π b:=by
 intro π b hg
 unfold gd at hg ⊢
 split at hg
 ·rename_i ho
  obtain ⟨h1,h2⟩:=hr b π hg
  exact ⟨h1,by simp only[ho,if_true];rw[h2,hg]⟩
 ·rename_i ho
  obtain ⟨h1,h2⟩:=deepOk_keep hm hk hs hv hg
  exact ⟨h1,by simp only[ho,if_false,Bool.false_eq_true];exact h2⟩
theorem gl_keep {k:K} {g g':G} {m m':M} {v n:Nat} {rs:Rts} (hm:Mem k m) (hk:∀x,Keep g g' m m' x) (hs:Stays m m')
  (hr:∀b π,m.col b= .lim v π→m'.h[b]? =m.h[b]? ∧m'.col b=m.col b) (hv:∀r∈rs,g'.ver r.1=g.ver r.1):∀π b,gl k m.col v n rs π b→m'.h[b]? =m.h[b]? ∧gl k m'.col v n rs π b:=by
 intro π b hg
 unfold gl at hg ⊢
 split at hg
 ·rename_i ho
  obtain ⟨h1,h2⟩:=hr b π hg
  exact ⟨h1,by simp only[ho,if_true];rw[h2,hg]⟩
 ·rename_i ho
  obtain ⟨h1,h2⟩:=deepOk_keep hm hk hs hv hg
  exact ⟨h1,by simp only[ho,if_false,Bool.false_eq_true];exact h2⟩
theorem CellOk.keep {k:K} {g g':G} {m m':M} {s o:Nat} {d:D} {v:Value} {t:Tag} (hm:Mem k m) (ho:Older g g') (hk:∀x,Keep g g' m m' x) (hs:Stays m m')
  (hr:∀b π,m.col b= .arr s o π→m'.h[b]? =m.h[b]? ∧m'.col b=m.col b) (hw:TagWf g t) (h:CellOk k g m s o d v t):CellOk k g' m' s o d v t:=by
 cases t with
 |dead=>trivial
 |sc=>exact ⟨h.1,h.2.flat h.1⟩
 |own n rs=>
  refine ⟨h.1,fun hc=> ?_⟩
  obtain ⟨c1,c2⟩:=curR_back ho hw hc
  exact (h.2 c1).frame (gd_keep hm hk hs hr c2)
 |loan s' o' v' w=>
  intro hc
  obtain ⟨c1,c2,c3⟩:=curL_back ho hw hc
  obtain ⟨d0,v0,ix,d1,h1,h2,h3,hfl⟩:=h c1
  obtain ⟨d0',d1',h4,h5,h6,hk'⟩:=loc_keep hk c2 c3 h1 h2 h3 hfl
  exact ⟨d0',v0,ix,d1',h4,h5,h6,hk'.flat⟩
 |pre s' o' v'=>
  intro hc
  have hc':g.ver s'=v':=by have:=ho.ver s';simp only[TagWf] at hw;omega
  obtain ⟨sz,rows,n,a,len,cap,h1,h2,h3,h4⟩:=h hc'
  have hvr:=(hk s').vr (by omega)
  exact ⟨sz,rows,n,a,len,cap,by rw[hvr.2.1,h1],h2,h3,h4⟩
theorem Phys.arr {m m':M} {s:Nat} (h:Phys m m' s) {b o:Nat} {π:List (Nat×Nat)} (e:m.col b= .arr s o π):m'.h[b]? =m.h[b]? ∧m'.col b=m.col b:=
 h.blk b (by rw[e];rfl)
theorem CellsOk.keep {k:K} {g g':G} {m m':M} {s:Nat} {ts:List Tag} {vs:List Value} (hm:Mem k m) (ho:Older g g') (hk:∀x,Keep g g' m m' x) (hs:Stays m m')
  (hr:Phys m m' s) (hw:∀t∈ts,TagWf g t) (h:CellsOk k g m s ts vs):CellsOk k g' m' s ts vs:=by
 refine ⟨h.1,by rw[hr.σ];exact h.2.1,h.2.2.1,fun o t d v h1 h2 h3=> ?_⟩
 rw[hr.σ] at h2
 exact (h.2.2.2 o t d v h1 h2 h3).keep hm ho hk hs (fun b π hb=>hr.arr hb) (hw t (zF h1))
theorem EntOk.keep {k:K} {g g':G} {m m':M} {s:Nat} {e:Ent} (hm:Mem k m) (ho:Older g g') (hk:∀x,Keep g g' m m' x) (hs:Stays m m')
  (hr:Phys m m' s) (hw:EntWf g e) (h:EntOk k g m s e):EntOk k g' m' s e:=by
 cases e with
 |none=>trivial
 |val sh ts=>
  rcases h with h|⟨vs,h1,h2⟩
  ·exact .inl (by rw[hr.σ];exact h)
  ·exact .inr ⟨vs,by rw[hr.c];exact h1,h2.keep hm ho hk hs hr hw⟩
 |box ty ts=>
  rcases h with h|⟨b,cs,h1,h2,h3,h4⟩
  ·exact .inl (by rw[hr.σ];exact h)
  ·obtain ⟨b1,b2⟩:=hr.blk b (by rw[h2];rfl)
   exact .inr ⟨b,cs,by rw[hr.c];exact h1,by rw[b2,h2],by rw[b1,h3],h4.keep hm ho hk hs hr hw⟩
 |ptr b v off=>
  rcases h with h|h
  ·exact .inl (by rw[hr.σ];exact h)
  ·refine .inr fun hc=> ?_
   have hc':g.idv b=v:=by have:=ho.idv b;simp only[EntWf] at hw;omega
   obtain ⟨blk,h1,h2⟩:=h hc'
   exact ⟨blk,by rw[(hk b).id (by omega),h1],by rw[hr.c,h2]⟩
 |eptr s' o' v w i iv off sz=>
  rcases h with h|h
  ·exact .inl (by rw[hr.σ];exact h)
  ·refine .inr fun hc hi=> ?_
   obtain ⟨c1,c2,c3⟩:=curL_back ho hw.1 hc
   have hi':g.ver i=iv:=by have:=ho.ver i;have:=hw.2;omega
   obtain ⟨d0,v0,ix,rows,b,off1,len,cap,n,h1,h2,h3,h4,h5,h6⟩:=h c1 hi'
   obtain ⟨d0',d1',h7,h8,h9,h10⟩:=loc_keep hk c2 c3 h1 h2 h3 rfl
   obtain ⟨rows',rfl⟩:=h10.sl sz rows rfl
   refine ⟨d0',v0,ix,rows',b,off1,len,cap,n,h7,h8,h9,?_,h5,by rw[hr.c,h6]⟩
   have:m'.σ i=m.σ i:=((hk i).vr (by omega)).1
   simp only[idxOf] at h4 ⊢
   rw[this]
   exact h4
 |rptr rs off=>
  rcases h with h|h
  ·exact .inl (by rw[hr.σ];exact h)
  ·refine .inr fun hc=> ?_
   obtain ⟨c1,c2⟩:=curR_back ho hw hc
   obtain ⟨b,o0,cs,ty,fr,h1,h2,h3,h4,h5⟩:=h c1
   obtain ⟨h6,h7⟩:=deepOk_keep hm hk hs c2 h3
   refine ⟨b,o0,cs,ty,fr,by rw[h6,h1],by rw[hr.c,h2],h7,by rw[hr.σ];exact h4,fun o d hd=> ?_⟩
   rw[hr.σ] at hd
   exact (h5 o d hd).frame fun _ _ hb=>deepOk_keep hm hk hs c2 hb
 |map=>
  rcases h with h|⟨r,l,es,clk,h1,h2,h3,h4,h5⟩
  ·exact .inl (by rw[hr.σ];exact h)
  ·obtain ⟨b1,b2⟩:=hr.blk r (by rw[h3];rfl)
   exact .inr ⟨r,l,es,clk,by rw[hr.σ,h1],by rw[hr.c,h2],by rw[b2,h3],by rw[b1,h4],h5⟩
 |mal s' v=>
  rcases h with h|h
  ·exact .inl (by rw[hr.σ];exact h)
  ·refine .inr fun hc=> ?_
   have hc':g.idv s'=v:=by have:=ho.idv s';simp only[EntWf] at hw;omega
   rw[hr.c,h hc',(hk s').id (by omega)]
theorem Phys.keep {k:K} {g g':G} {m m':M} {x:Nat} (hr:Rel k g m) (ha:g'.at x=g.at x) (h:Phys m m' x) (hs:Stays m m'):Keep g g' m m' x:=by
 have he:g'.ent x=g.ent x:=by unfold G.ent;rw[ha]
 have hroot:∀o,root g' m' x o=root g m x o:=by
  intro o
  unfold root
  rw[he,h.σ,h.c]
  have hE:=hr.ent x
  cases e:g.ent x<;>rw[e] at hE<;>try rfl
  rcases hE with hE|⟨b,cs,h1,h2,h3,h4⟩
  ·simp[hE]
  ·have:=(h.blk b (by rw[h2];rfl)).1
   simp only[conc,boxCells,h1,this]
 refine ⟨fun _=>h.c,fun _ o d v h1 hfl=>⟨d,by rw[hroot,h1], .refl hfl⟩,fun _ o d v ix d1 v1 h1 h2 hfl=>⟨d,d1,by rw[hroot,h1],?_, .refl hfl⟩,
  fun _=>⟨h.σ,hroot,fun b o π hb=>⟨(h.arr hb).1, .inl (h.arr hb).2⟩⟩⟩
 exact loc_frame ix [] h2 (fun b π hb=>⟨(h.arr hb).1, .inl (h.arr hb).2⟩) hs
structure Step (k:K) (g:G) (m:M) (g':G) (m':M) (T:Nat→Prop):Prop where
 older:Older g g'
 len:g'.length=g.length
 stays:Stays m m'
 mem:Mem k m'
 rest:∀x,¬ T x→g'.at x=g.at x∧Phys m m' x
 keep:∀x,T x→Keep g g' m m' x
 ent:∀x,T x→EntWf g' (g'.ent x)∧EntOk k g' m' x (g'.ent x)
theorem Step.keeps {k:K} {g g':G} {m m':M} {T:Nat→Prop} (s:Step k g m g' m' T) (hr:Rel k g m) (x:Nat):Keep g g' m m' x:=by
 by_cases h:T x
 ·exact s.keep x h
 ·exact (s.rest x h).2.keep hr (s.rest x h).1 s.stays
theorem Step.rel {k:K} {g g':G} {m m':M} {T:Nat→Prop} (s:Step k g m g' m' T) (hr:Rel k g m):Rel k g' m':=by
 have key:∀x,EntWf g' (g'.ent x)∧EntOk k g' m' x (g'.ent x):=by
  intro x
  by_cases h:T x
  ·exact s.ent x h
  ·have he:g'.ent x=g.ent x:=by unfold G.ent;rw[(s.rest x h).1]
   rw[he]
   exact ⟨(hr.wf x).older s.older,EntOk.keep hr.mem s.older (s.keeps hr) s.stays (s.rest x h).2 (hr.wf x) (hr.ent x)⟩
 exact ⟨by rw[s.len];exact hr.small,s.mem,fun x=>(key x).1,fun x=>(key x).2⟩
theorem Keep.trans {g g1 g2:G} {m m1 m2:M} {x:Nat} (o1:Older g g1) (o2:Older g1 g2) (s2:Stays m1 m2) (h1:Keep g g1 m m1 x) (h2:Keep g1 g2 m1 m2 x):Keep g g2 m m2 x:=by
 refine ⟨fun e=> ?_,fun e o d v hr hfl=> ?_,fun e o d v ix d1 v1 hr hl hfl=> ?_,fun e=> ?_⟩
 ·have:=o1.idv x;have:=o2.idv x
  rw[h2.id (by omega),h1.id (by omega)]
 ·have:=o1.hv x;have:=o2.hv x
  obtain ⟨d',a1,a2⟩:=h1.hd (by omega) o d v hr hfl
  obtain ⟨d'',b1,b2⟩:=h2.hd (by omega) o d' v a1 a2.flat
  exact ⟨d'',b1,a2.trans b2⟩
 ·have:=o1.dv x;have:=o2.dv x
  obtain ⟨d',d1',a1,a2,a3⟩:=h1.dp (by omega) o d v ix d1 v1 hr hl hfl
  obtain ⟨d'',d1'',b1,b2,b3⟩:=h2.dp (by omega) o d' v ix d1' v1 a1 a2 a3.flat
  exact ⟨d'',d1'',b1,b2,a3.trans b3⟩
 ·have:=o1.ver x;have:=o2.ver x
  obtain ⟨a1,a2,a3⟩:=h1.vr (by omega)
  obtain ⟨b1,b2,b3⟩:=h2.vr (by omega)
  refine ⟨by rw[b1,a1],fun o=>by rw[b2,a2],fun b o π hb=> ?_⟩
  obtain ⟨c1,c2⟩:=a3 b o π hb
  rcases c2 with c2|c2
  ·obtain ⟨d1,d2⟩:=b3 b o π (c2.trans hb)
   exact ⟨by rw[d1,c1],by rw[← c2];exact d2⟩
  ·obtain ⟨d1,d2⟩:=s2 b c2
   exact ⟨by rw[d1,c1], .inr d2⟩
theorem Older.refl (g:G):Older g g:=⟨fun _=>Nat.le_refl _,fun _=>Nat.le_refl _,fun _=>Nat.le_refl _,fun _=>Nat.le_refl _⟩
theorem Older.trans {g g1 g2:G} (h:Older g g1) (h':Older g1 g2):Older g g2:=
 ⟨fun x=>zS (h.ver x) (h'.ver x),fun x=>zS (h.dv x) (h'.dv x),fun x=>zS (h.hv x) (h'.hv x),fun x=>zS (h.idv x) (h'.idv x)⟩
theorem Phys.refl (m:M) (x:Nat):Phys m m x:=⟨rfl,rfl,fun _ _=>⟨rfl,rfl⟩⟩
theorem Phys.trans {m m1 m2:M} {x:Nat} (h:Phys m m1 x) (h':Phys m1 m2 x):Phys m m2 x:=by
 refine ⟨by rw[h'.c,h.c],by rw[h'.σ,h.σ],fun b hb=> ?_⟩
 obtain ⟨a1,a2⟩:=h.blk b hb
 obtain ⟨b1,b2⟩:=h'.blk b (by rw[a2];exact hb)
 exact ⟨by rw[b1,a1],by rw[b2,a2]⟩
theorem Step.refl {k:K} {g:G} {m:M} (hr:Rel k g m):Step k g m g m fun _=>False:=
 ⟨.refl g,rfl,fun _ h=>⟨rfl,h⟩,hr.mem,fun x _=>⟨rfl, .refl m x⟩,fun _ h=>h.elim,fun _ h=>h.elim⟩
theorem Step.trans {k:K} {g g1 g2:G} {m m1 m2:M} {T1 T2:Nat→Prop} (hr:Rel k g m) (s1:Step k g m g1 m1 T1) (s2:Step k g1 m1 g2 m2 T2):
  Step k g m g2 m2 fun x=>T1 x∨T2 x:=by
 have hr1:=s1.rel hr
 refine ⟨s1.older.trans s2.older,s2.len.trans s1.len,fun b hb=> ?_,s2.mem,fun x hx=> ?_,fun x _=>(s1.keeps hr x).trans s1.older s2.older s2.stays (s2.keeps hr1 x),fun x hx=> ?_⟩
 ·obtain ⟨a1,a2⟩:=s1.stays b hb
  obtain ⟨b1,b2⟩:=s2.stays b a2
  exact ⟨by rw[b1,a1],b2⟩
 ·have h1:=s1.rest x fun h=>hx (.inl h)
  have h2:=s2.rest x fun h=>hx (.inr h)
  exact ⟨by rw[h2.1,h1.1],h1.2.trans h2.2⟩
 ·have:=s2.rel hr1
  exact ⟨this.wf x,this.ent x⟩
theorem Step.mono {k:K} {g g':G} {m m':M} {T T':Nat→Prop} (hr:Rel k g m) (s:Step k g m g' m' T) (h:∀x,T x→T' x):Step k g m g' m' T':=by
 have hr':=s.rel hr
 exact ⟨s.older,s.len,s.stays,s.mem,fun x hx=>s.rest x fun h'=>hx (h x h'),fun x _=>s.keeps hr x,fun x _=>⟨hr'.wf x,hr'.ent x⟩⟩
section slots
variable {g:G} {s t:Nat} {x:Slot}
theorem at_set_ne (h:t≠s):G.at (g.set s x) t=g.at t:=by
 unfold G.at
 rw[zN (Ne.symm h)]
theorem at_set_self (h:s<g.length):G.at (g.set s x) s=x:=by
 unfold G.at
 rw[zO h]
 rfl
theorem at_out (h:g.length≤s):g.at s={ent:= .none}:=by
 unfold G.at
 rw[zG h]
 rfl
theorem set_out (h:g.length≤s):g.set s x=g:=List.set_eq_of_length_le h
theorem lt_of_ent (h:g.ent s≠ .none):s<g.length:=by
 rcases zJ s g.length with h'|h'
 ·exact h'
 ·exact absurd (by simp[G.ent,at_out h']) h
end slots
inductive Turn where
 |tch|trn|elm|scal|same
def Turn.of:Turn→G→Nat→Ent→G
 | .tch=>G.tch
 | .trn=>G.trn
 | .elm=>G.elm
 | .scal=>G.scal
 | .same=>G.same
theorem Turn.at_ne (u:Turn) {g:G} {s t:Nat} {e:Ent} (h:t≠s):(u.of g s e).at t=g.at t:=by
 cases u<;>exact at_set_ne h
theorem Turn.ent_ne (u:Turn) {g:G} {s t:Nat} {e:Ent} (h:t≠s):(u.of g s e).ent t=g.ent t:=by unfold G.ent;rw[u.at_ne h]
theorem Turn.ver_ne (u:Turn) {g:G} {s t:Nat} {e:Ent} (h:t≠s):(u.of g s e).ver t=g.ver t:=by unfold G.ver;rw[u.at_ne h]
theorem Turn.ent_self (u:Turn) {g:G} {s:Nat} {e:Ent} (h:s<g.length):(u.of g s e).ent s=e:=by
 cases u<;>(unfold G.ent;simp only[Turn.of,G.tch,G.trn,G.elm,G.scal,G.same];rw[at_set_self h])
theorem Turn.length (u:Turn) {g:G} {s:Nat} {e:Ent}:(u.of g s e).length=g.length:=by
 cases u<;>simp[Turn.of,G.tch,G.trn,G.elm,G.scal,G.same]
theorem Turn.older (u:Turn) (g:G) (s:Nat) (e:Ent):Older g (u.of g s e):=by
 rcases zJ s g.length with hl|hl
 ·have key:∀x,(g.at x).ver≤((u.of g s e).at x).ver∧(g.at x).dv≤((u.of g s e).at x).dv∧(g.at x).hv≤((u.of g s e).at x).hv∧(g.at x).idv≤((u.of g s e).at x).idv:=by
   intro x
   by_cases hx:x=s
   ·subst hx
    cases u<;>(simp only[Turn.of,G.tch,G.trn,G.elm,G.scal,G.same];rw[at_set_self hl];simp only[G.ver,G.dv,G.hv,G.idv];omega)
   ·rw[u.at_ne hx];omega
  exact ⟨fun x=>(key x).1,fun x=>(key x).2.1,fun x=>(key x).2.2.1,fun x=>(key x).2.2.2⟩
 ·have:u.of g s e=g:=by cases u<;>exact set_out hl
  rw[this]
  exact ⟨fun _=>Nat.le_refl _,fun _=>Nat.le_refl _,fun _=>Nat.le_refl _,fun _=>Nat.le_refl _⟩
theorem Turn.ver_self (u:Turn) (hu:u≠ .same) {g:G} {s:Nat} {e:Ent} (h:s<g.length):(u.of g s e).ver s≠g.ver s:=by
 cases u<;>first|exact absurd rfl hu|(unfold G.ver;simp only[Turn.of,G.tch,G.trn,G.elm,G.scal];rw[at_set_self h];simp[G.ver])
theorem Turn.dv_self (u:Turn) (hu:u≠ .same) (hu2:u≠ .scal) {g:G} {s:Nat} {e:Ent} (h:s<g.length):(u.of g s e).dv s≠g.dv s:=by
 cases u<;>first|exact absurd rfl hu|exact absurd rfl hu2|(unfold G.dv;simp only[Turn.of,G.tch,G.trn,G.elm];rw[at_set_self h];simp[G.dv])
theorem Turn.hv_self {u:Turn} (hu:u= .tch∨u= .trn) {g:G} {s:Nat} {e:Ent} (h:s<g.length):(u.of g s e).hv s≠g.hv s:=by
 rcases hu with rfl|rfl<;>(unfold G.hv;simp only[Turn.of,G.tch,G.trn];rw[at_set_self h];simp[G.hv])
theorem Turn.idv_self {g:G} {s:Nat} {e:Ent} (h:s<g.length):(Turn.tch.of g s e).idv s≠g.idv s:=by
 unfold G.idv;simp only[Turn.of,G.tch];rw[at_set_self h];simp[G.idv]
def Color.celled (c:Color):Prop:=(∃s o π,s<PAR∧c= .arr s o π)∨(∃v π,PAR≤v∧c= .lim v π)∨∃s,c= .box s
theorem Mem.turn {k:K} {m m':M} (h:Mem k m) (hh:m'.h=m.h)
  (hc:∀b,m'.col b=m.col b∨((m.col b).own≠none∧(m'.col b= .stable∨((m'.col b).celled∧(m.col b).celled)))):Mem k m':=by
 have cells:∀b,(m.col b).celled→∃cs ty,m.h[b]? =some (.cells cs ty (0,0)):=by
  intro b hb
  rcases hb with ⟨s,o,π,_,e⟩|⟨v,π,_,e⟩|⟨s,e⟩
  ·exact (h.arr b s o π e).2
  ·exact (h.lm b v π e).2
  ·exact h.bx b s e
 refine ⟨by rw[hh];exact h.size,fun b=> ?_,fun b s hb=> ?_,fun b s o π hb=> ?_,fun b v π hb=> ?_,fun b s hb=> ?_,fun b hb=> ?_⟩
 ·rw[hh,h.free b]
  constructor
  ·intro this
   rcases hc b with e|⟨e,_⟩
   ·rw[e,this]
   ·rw[this] at e;exact absurd rfl e
  ·intro this
   rcases hc b with e|⟨_,e|⟨e,_⟩⟩
   ·rw[← e,this]
   ·rw[this] at e;cases e
   ·rw[this] at e
    rcases e with ⟨s,o,π,_,e⟩|⟨v,π,_,e⟩|⟨s,e⟩<;>cases e
 ·rcases hc b with e|⟨e,_⟩
  ·rw[e] at hb;exact h.fresh b s hb
  ·cases e':(m.col b).own with
   |none=>exact absurd e' e
   |some t=>exact h.fresh b t e'
 ·rw[hh]
  rcases hc b with e|⟨_,e|⟨e1,e⟩⟩
  ·rw[e] at hb;exact h.arr b s o π hb
  ·rw[hb] at e;cases e
  ·refine ⟨?_,cells b e⟩
   rcases e1 with ⟨s',o',π',hs,e1⟩|⟨v,π',_,e1⟩|⟨s',e1⟩
   ·rw[hb] at e1;injection e1 with e1;rw[e1];exact hs
   ·rw[hb] at e1;cases e1
   ·rw[hb] at e1;cases e1
 ·rw[hh]
  rcases hc b with e|⟨_,e|⟨e1,e⟩⟩
  ·rw[e] at hb;exact h.lm b v π hb
  ·rw[hb] at e;cases e
  ·refine ⟨?_,cells b e⟩
   rcases e1 with ⟨s',o',π',hs,e1⟩|⟨v',π',hv,e1⟩|⟨s',e1⟩
   ·rw[hb] at e1;cases e1
   ·rw[hb] at e1;injection e1 with e1;rw[e1];exact hv
   ·rw[hb] at e1;cases e1
 ·rw[hh]
  rcases hc b with e|⟨_,e|⟨e1,e⟩⟩
  ·rw[e] at hb;exact h.bx b s hb
  ·rw[hb] at e;cases e
  ·exact cells b e
 ·obtain ⟨h1,h2⟩:=h.kept b hb
  refine ⟨by rw[hh];exact h1,?_⟩
  rcases hc b with e|⟨e,_⟩
  ·rw[e,h2]
  ·rw[h2] at e;exact absurd rfl e
theorem Step.ghost {k:K} {g:G} {m:M} (hr:Rel k g m) (u:Turn) {s:Nat} {e':Ent} (hs:s<g.length) {σ':St} {col':Nat→Color} (hσ:∀x,x≠s→σ' x=m.σ x)
  (hcol:∀b,(m.col b).own≠some s→col' b=m.col b) (hmem:Mem k {m with col:=col',σ:=σ'})
  (hkeep:Keep g (u.of g s e') m {m with col:=col',σ:=σ'} s)
  (hent:EntWf (u.of g s e') e'∧EntOk k (u.of g s e') {m with col:=col',σ:=σ'} s e'):
  Step k g m (u.of g s e') {m with col:=col',σ:=σ'} (·=s):=by
 refine ⟨u.older g s e',u.length,fun b hb=>⟨rfl,?_⟩,hmem,fun x hx=>⟨u.at_ne hx,rfl,hσ x hx,fun b hb=>⟨rfl,hcol b ?_⟩⟩,fun x hx=>by subst hx;exact hkeep,fun x hx=>by subst hx;rw[u.ent_self hs];exact hent⟩
 ·show col' b=_
  rw[hcol b (by rw[hb];simp[Color.own])]
  exact hb
 ·rw[hb];simp;exact hx
def recol (col:Nat→Color) (s o:Nat) (ix:List (Nat×Nat)) (to:List (Nat×Nat)→Color):Nat→Color:=fun b=>
 match col b with
 | .arr s' o' π=>if s'=s∧o'=o∧ix<+:π then to (π.drop ix.length) else .arr s' o' π
 |c=>c
theorem recol_ne {col:Nat→Color} {s o:Nat} {ix:List (Nat×Nat)} {to:List (Nat×Nat)→Color} {b:Nat}
  (h:∀π,ix<+:π→col b≠ .arr s o π):recol col s o ix to b=col b:=by
 unfold recol
 split
 ·rename_i s' o' π e
  split
  ·rename_i hc
   obtain ⟨rfl,rfl,hp⟩:=hc
   exact absurd e (h π hp)
  ·exact e.symm
 ·rfl
theorem recol_eq {col:Nat→Color} {s o:Nat} {ix π:List (Nat×Nat)} {to:List (Nat×Nat)→Color} {b:Nat} (h:col b= .arr s o (ix++π)):
  recol col s o ix to b=to π:=by
 unfold recol
 rw[h]
 simp
theorem recol_cases {col:Nat→Color} {s o:Nat} {ix:List (Nat×Nat)} {to:List (Nat×Nat)→Color} (b:Nat):
  recol col s o ix to b=col b∨(∃π,col b= .arr s o (ix++π)∧recol col s o ix to b=to π):=by
 unfold recol
 split
 ·rename_i s' o' π e
  split
  ·rename_i hc
   obtain ⟨rfl,rfl,hp⟩:=hc
   obtain ⟨r,rfl⟩:=hp
   exact .inr ⟨r,e,by simp⟩
  ·exact .inl e.symm
 ·exact .inl rfl
theorem recol_own {col:Nat→Color} {s o:Nat} {ix:List (Nat×Nat)} {to:List (Nat×Nat)→Color} {b:Nat} (h:(col b).own≠some s):recol col s o ix to b=col b:=
 recol_ne fun π _ e=>h (by rw[e];rfl)
theorem Mem.recol {k:K} {m:M} (h:Mem k m) {s o:Nat} {ix:List (Nat×Nat)} {to:List (Nat×Nat)→Color} (ht:∀π,to π= .stable∨(to π).celled) (σ':St):
  Mem k {m with col:=Own.recol m.col s o ix to,σ:=σ'}:=by
 refine h.turn rfl fun b=> ?_
 rcases recol_cases (col:=m.col) (s:=s) (o:=o) (ix:=ix) (to:=to) b with e|⟨π,e,e2⟩
 ·exact .inl e
 ·refine .inr ⟨by rw[e];simp[Color.own],?_⟩
  rcases ht π with e3|e3
  ·exact .inl (e2.trans e3)
  ·refine .inr ⟨?_, .inl ⟨s,o,_,(h.arr b s o _ e).1,e⟩⟩
   show (Own.recol m.col s o ix to b).celled
   rw[e2];exact e3
theorem tagAt_ent {g:G} {s o:Nat} {t:Tag} (h:tagAt g s o=t) (ht:t≠ .dead):s<g.length∧∃ts,(∃sh,g.ent s= .val sh ts)∨(∃ty,g.ent s= .box ty ts):=by
 have hl:s<g.length:=lt_of_ent (fun e=>by unfold tagAt at h;rw[e] at h;exact ht h.symm)
 refine ⟨hl,?_⟩
 unfold tagAt at h
 split at h
 ·rename_i sh ts e;exact ⟨ts, .inl ⟨sh,e⟩⟩
 ·rename_i ty ts e;exact ⟨ts, .inr ⟨ty,e⟩⟩
 ·exact absurd h.symm ht
def entTags:Ent→Option (List Tag)
 | .val _ ts| .box _ ts=>some ts
 |_=>none
def Ent.withTags:Ent→List Tag→Ent
 | .val sh _,ts=> .val sh ts
 | .box ty _,ts=> .box ty ts
 |e,_=>e
theorem reTag_eq {f:G→Nat→Ent→G} {g:G} {s o:Nat} {t:Tag} {ts:List Tag} (h:entTags (g.ent s)=some ts):
  reTag f g s o t=f g s ((g.ent s).withTags (ts.set o t)):=by
 unfold reTag
 unfold entTags at h
 split at h<;>first|(rename_i e;rw[e];simp at h;subst h;rfl)|cases h
theorem conc_withTags {h:Array Obj} {e:Ent} {ts ts':List Tag} {v:Value} (he:entTags e=some ts):conc h (e.withTags ts') v=conc h e v:=by
 cases e<;>simp[entTags] at he<;>rfl
theorem EntOk.cells {k:K} {g:G} {m:M} {s:Nat} {e:Ent} {ts:List Tag} (he:entTags e=some ts) (h:EntOk k g m s e):
  m.σ s=[]∨∃vs,conc m.h e (m.c s)=some vs∧CellsOk k g m s ts vs:=by
 cases e<;>simp[entTags] at he
 ·subst he;exact h
 ·subst he
  rcases h with h|⟨b,cs,h1,h2,h3,h4⟩
  ·exact .inl h
  ·exact .inr ⟨cs.toList,by simp[conc,boxCells,h1,h3],h4⟩
theorem EntOk.recells {k:K} {g g':G} {m m':M} {s:Nat} {e:Ent} {ts ts':List Tag} (he:entTags e=some ts) (h:EntOk k g m s e)
  (hc:m'.c s=m.c s) (hσ:m.σ s=[]→m'.σ s=[]) (hh:m'.h=m.h) (hb:∀b,m.col b= .box s→m'.col b= .box s)
  (hcs:∀vs,conc m.h e (m.c s)=some vs→CellsOk k g m s ts vs→CellsOk k g' m' s ts' vs):EntOk k g' m' s (e.withTags ts'):=by
 cases e<;>simp[entTags] at he
 ·subst he
  rcases h with h|⟨vs,h1,h2⟩
  ·exact .inl (hσ h)
  ·exact .inr ⟨vs,by rw[hc];exact h1,hcs vs h1 h2⟩
 ·subst he
  rcases h with h|⟨b,cs,h1,h2,h3,h4⟩
  ·exact .inl (hσ h)
  ·exact .inr ⟨b,cs,by rw[hc];exact h1,hb b h2,by rw[hh];exact h3,hcs _ (by simp[conc,boxCells,h1,h3]) h4⟩
theorem wayApart_spec {σ:St}:∀{w w':List (Nat×Nat)} {ix ix':List (Nat×Nat)},wayApart w w'=true→wayOf σ w=some ix→wayOf σ w'=some ix'→
  ∀π,¬ ix<+:ix'++π:=by
 intro w
 induction w with
 |nil=>intro w' ix ix' h;simp[wayApart] at h
 |cons p w ih=>
  obtain ⟨r,o⟩:=p
  intro w' ix ix' h h1 h2 π hp
  cases w' with
  |nil=>simp[wayApart] at h
  |cons p' w'=>
   obtain ⟨r',o'⟩:=p'
   simp only[wayApart,zD,Bool.or_eq_true,beq_iff_eq,bne_iff_ne] at h
   obtain ⟨rfl,h⟩:=h
   simp only[wayOf] at h1 h2
   cases hi:idxOf σ r with
   |none=>simp[hi] at h1
   |some i=>
    cases hw:wayOf σ w with
    |none=>simp[hi,hw] at h1
    |some l=>
     cases hw':wayOf σ w' with
     |none=>simp[hi,hw'] at h2
     |some l'=>
      simp[hi,hw] at h1
      simp[hi,hw'] at h2
      subst h1 h2
      simp only[List.cons_append,List.cons_prefix_cons] at hp
      rcases h with h|h
      ·have:=hp.1;simp at this;exact h this
      ·exact ih h hw hw' π hp.2
theorem hole_idx {env:Env} {σ σ':St} {s o:Nat} {w:List (Nat×Nat)} (hw:w≠[]) (h:(I.hole s o w).ev env σ=some σ'):
  (∀r,idxOf σ' r=idxOf σ r)∧(∀x,x≠s→σ' x=σ x)∧∃d d' ix,(σ s)[o]? =some d∧wayOf σ w=some ix∧ix≠[]∧d.setAt ix (fun _=>some .dead)=some d'∧σ' s=(σ s).set o d'∧∃sz rows rows',d= .sl sz rows∧d'= .sl sz rows':=by
 simp only[I.ev] at h
 cases hd:(σ s)[o]? with
 |none=>simp[hd] at h
 |some d=>
  cases hx:wayOf σ w with
  |none=>simp[hd,hx] at h
  |some ix=>
   simp only[hd,hx,zC] at h
   obtain ⟨d',h1,rfl⟩:=h
   have hix:ix≠[]:=by
    rintro rfl
    cases w with
    |nil=>exact hw rfl
    |cons p w=>
     obtain ⟨r,q⟩:=p
     simp only[wayOf] at hx
     split at hx<;>simp at hx
   have hsl:∃sz rows rows',d= .sl sz rows∧d'= .sl sz rows':=by
    cases ix with
    |nil=>exact absurd rfl hix
    |cons p ix=>
     obtain ⟨i,q⟩:=p
     cases d<;>simp only[D.setAt] at h1<;>try cases h1
     rename_i sz rows
     split at h1
     ·split at h1
      ·split at h1
       ·simp at h1;exact ⟨sz,rows,_,rfl,h1.symm⟩
       ·cases h1
      ·cases h1
     ·cases h1
   refine ⟨fun r=> ?_,fun x hx=>by simp[St.upd,hx],d,d',ix,rfl,rfl,hix,h1,by simp[St.upd],hsl⟩
   by_cases hr:r=s
   ·subst hr
    obtain ⟨sz,rows,rows',rfl,rfl⟩:=hsl
    have e1:idxOf (σ.upd r ((σ r).set o (.sl sz rows'))) r=none:=by
     unfold idxOf
     simp only[St.upd,if_true]
     split
     ·rename_i i e
      have:((σ r).set o (.sl sz rows'))[o]? =some (.sl sz rows'):=by
       rw[zO]
       rcases zJ o (σ r).length with h'|h'
       ·exact h'
       ·simp[zG h'] at hd
      rw[e] at this
      cases o<;>simp at this
     ·rfl
    have e2:idxOf σ r=none:=by
     unfold idxOf
     split
     ·rename_i i e
      rw[e] at hd
      cases o<;>simp at hd
     ·rfl
    rw[e1,e2]
   ·unfold idxOf
    simp[St.upd,hr]
theorem wayOf_idx {σ σ':St} (h:∀r,idxOf σ' r=idxOf σ r):∀w,wayOf σ' w=wayOf σ w:=by
 intro w
 induction w with
 |nil=>rfl
 |cons p w ih=>obtain ⟨r,o⟩:=p;simp only[wayOf];rw[h,ih]
def Held (k:K) (m:M) (v n:Nat) (rs:Rts) (d:D) (x:Value):Prop:=O m.h (gl k m.col v n rs) d x
theorem Held.step {k:K} {g g':G} {m m':M} {T:Nat→Prop} {v n:Nat} {rs:Rts} {d:D} {x:Value} (h:Held k m v n rs d x) (hr:Rel k g m) (s:Step k g m g' m' T)
  (hv:¬ T v) (hrs:∀r∈rs,g'.ver r.1=g.ver r.1):Held k m' v n rs d x:=
 O.frame h (gl_keep hr.mem (s.keeps hr) s.stays (fun b _ hb=>(s.rest v hv).2.blk b (by rw[hb];rfl)) hrs)
def srcGood (k:K) (σ:St) (col:Nat→Color) (mv:Mv) (good:Good):Prop:=
 match mv.frm with
 |none=>good=fun _ b=>deepOk k col mv.rs b
 |some (s,o,w)=>if o=BOX then good=(fun π b=>if owns mv.n π.length=true then (match π with| []=>col b= .box s|(_,o')::π'=>col b= .arr s o' π') else deepOk k col mv.rs b)
  else∃ix,wayOf σ w=some ix∧good=fun π b=>if owns mv.n π.length=true then col b= .arr s o (ix++π) else deepOk k col mv.rs b
def SrcOk (k:K) (m:M) (mv:Mv) (d:D) (x:Value):Prop:=∃good,srcGood k m.σ m.col mv good∧O m.h good d x
theorem Keep.elmSelf {g:G} {m m':M} {s:Nat} {e:Ent} (hs:s<g.length) (hc:m'.c s=m.c s)
  (hr:∀o d v,root g m s o=some (d,v)→d.flat=false→∃d',root (Turn.elm.of g s e) m' s o=some (d',v)∧Kin d d'):
  Keep g (Turn.elm.of g s e) m m' s:=
 ⟨fun _=>hc,fun _=>hr,fun h=>absurd h (Turn.dv_self .elm (by simp) (by simp) hs),fun h=>absurd h (Turn.ver_self .elm (by simp) hs)⟩
theorem entTags_mem {g:G} {m:M} {k:K} {s:Nat} {ts:List Tag} (hr:Rel k g m) (ht:entTags (g.ent s)=some ts):∀t∈ts,TagWf g t:=by
 have hwf:=hr.wf s
 cases he:g.ent s<;>rw[he] at ht hwf<;>simp[entTags] at ht<;>subst ht<;>exact hwf
theorem set_same_len {α:Type} {l:List α} {o:Nat} {a b:α} (h:(l.set o a)[o]? =some b):b=a:=by
 have:o<l.length:=by
  rcases zJ o l.length with h'|h'
  ·exact h'
  ·rw[zG (by simpa using h')] at h;cases h
 rw[zO this] at h
 simpa using h.symm
theorem Step.cell {k:K} {g:G} {m:M} (hr:Rel k g m) (u:Turn) {s o:Nat} {ts:List Tag} (ht:entTags (g.ent s)=some ts) {t':Tag} {ix:List (Nat×Nat)}
  {to:List (Nat×Nat)→Color} (hto:∀π,to π= .stable∨(to π).celled) {σ':St} (hσ:∀x,x≠s→σ' x=m.σ x) (hσs:∀q,q≠o→(σ' s)[q]? =(m.σ s)[q]?)
  (hlen:(σ' s).length=(m.σ s).length)
  (hkeep:Keep g (u.of g s ((g.ent s).withTags (ts.set o t'))) m {m with col:=Own.recol m.col s o ix to,σ:=σ'} s) (hwt:TagWf g t')
  (hcell:∀t d d' x,ts[o]? =some t→(m.σ s)[o]? =some d→(σ' s)[o]? =some d'→CellOk k g m s o d x t→
   CellOk k (u.of g s ((g.ent s).withTags (ts.set o t'))) {m with col:=Own.recol m.col s o ix to,σ:=σ'} s o d' x t'):
  Step k g m (u.of g s ((g.ent s).withTags (ts.set o t'))) {m with col:=Own.recol m.col s o ix to,σ:=σ'} (·=s):=by
 have hs:s<g.length:=lt_of_ent fun e=>by rw[e] at ht;cases ht
 have hold:=u.older g s ((g.ent s).withTags (ts.set o t'))
 have hmem:=entTags_mem hr ht
 have hphys:∀x,x≠s→Phys m {m with col:=Own.recol m.col s o ix to,σ:=σ'} x:=fun x hx=>⟨rfl,hσ x hx,fun b hb=>⟨rfl,recol_own (by rw[hb];simp;exact hx)⟩⟩
 have hstays:Stays m {m with col:=Own.recol m.col s o ix to,σ:=σ'}:=fun b hb=>⟨rfl,by
  show Own.recol m.col s o ix to b=_
  rw[recol_own (by rw[hb];simp[Color.own])];exact hb⟩
 refine Step.ghost hr u hs hσ (fun b hb=>recol_own hb) (hr.mem.recol hto σ') hkeep ⟨?_,?_⟩
 ·have:∀t∈ts.set o t',TagWf (u.of g s ((g.ent s).withTags (ts.set o t'))) t:=by
   intro t h
   rcases List.mem_or_eq_of_mem_set h with h|rfl
   ·exact (hmem t h).older hold
   ·exact hwt.older hold
  cases he:g.ent s<;>rw[he] at ht this<;>simp[entTags] at ht<;>exact this
 ·refine EntOk.recells ht (hr.ent s) rfl (fun h=> ?_) rfl (fun b hb=> ?_) fun vs _ hcs=> ?_
  ·show σ' s=[]
   rw[h] at hlen
   exact List.eq_nil_of_length_eq_zero (by simpa using hlen)
  ·show Own.recol m.col s o ix to b=_
   rw[recol_ne fun π _ e=>by rw[hb] at e;cases e]
   exact hb
  ·refine ⟨by simpa using hcs.1,by show (σ' s).length=_;rw[hlen];simpa using hcs.2.1,hcs.2.2.1,fun q t d x h1 h2 h3=> ?_⟩
   change (σ' s)[q]? =some d at h2
   by_cases hq:q=o
   ·subst hq
    have hlt:q<ts.length:=by
     rcases zJ q ts.length with h'|h'
     ·exact h'
     ·rw[zG (by simpa using h')] at h1;cases h1
    have ht':=set_same_len h1
    subst ht'
    have hd:q<(m.σ s).length:=by rw[hcs.2.1];exact hlt
    exact hcell ts[q] (m.σ s)[q] d x (zB hlt) (zB hd) h2
     (hcs.2.2.2 q ts[q] (m.σ s)[q] x (zB hlt) (zB hd) h3)
   ·rw[zN (Ne.symm hq)] at h1
    rw[hσs q hq] at h2
    have hc:=hcs.2.2.2 q t d x h1 h2 h3
    refine CellOk.keep (m:=m) hr.mem hold (fun x=> ?_) hstays (fun b π hb=>⟨rfl,?_⟩) (hmem t (zF h1)) hc
    ·by_cases hx:x=s
     ·subst hx;exact hkeep
     ·exact (hphys x hx).keep hr (u.at_ne hx) hstays
    ·exact recol_ne fun π' _ e=>by rw[hb] at e;injection e with _ e2;exact hq e2
theorem root_re {g:G} {m:M} {s o q:Nat} {ts ts':List Tag} (u:Turn) (ht:entTags (g.ent s)=some ts) {σ':St} {col':Nat→Color} (h:(σ' s)[q]? =(m.σ s)[q]?):
  root (u.of g s ((g.ent s).withTags ts')) {m with col:=col',σ:=σ'} s q=root g m s q:=by
 have hs:s<g.length:=lt_of_ent fun e=>by rw[e] at ht;cases ht
 unfold root
 rw[u.ent_self hs]
 simp only[conc_withTags ht,h]
theorem Step.kill {k:K} {g:G} {m:M} (hr:Rel k g m) {s o:Nat} (ho:o≠BOX) {ts:List Tag} (ht:entTags (g.ent s)=some ts) {v:Nat} (hv:PAR≤v):
  Step k g m (killTag g s o) {m with col:=Own.recol m.col s o [] (fun π=> .lim v π)} (·=s):=by
 have hs:s<g.length:=lt_of_ent fun e=>by rw[e] at ht;cases ht
 have e1:killTag g s o=Turn.elm.of g s ((g.ent s).withTags (ts.set o .dead)):=by
  unfold killTag
  rw[if_neg ho,reTag_eq ht]
  rfl
 rw[e1]
 exact Step.cell hr .elm ht (σ':=m.σ) (fun π=> .inr (.inr (.inl ⟨v,π,hv,rfl⟩))) (fun _ _=>rfl) (fun _ _=>rfl) rfl
  (Keep.elmSelf hs rfl fun q d x h hfl=>⟨d,by rw[root_re .elm ht (o:=o) rfl,h], .refl hfl⟩) trivial
  (fun _ _ _ _ _ _ _ _=>trivial)
theorem withTags_self {e:Ent} {ts:List Tag} (h:entTags e=some ts):e.withTags ts=e:=by
 cases e<;>simp[entTags] at h<;>subst h<;>rfl
theorem Step.hole {k:K} {g:G} {m:M} (hr:Rel k g m) {s o n:Nat} {rs:Rts} {ts:List Tag} (ht:entTags (g.ent s)=some ts) (hto:ts[o]? =some (.own n rs))
  {v:Nat} (hv:PAR≤v) {env:Env} {w:List (Nat×Nat)} (hw:w≠[]) {σ':St} (hh:(I.hole s o w).ev env m.σ=some σ'):
  ∃ix,wayOf m.σ w=some ix∧Step k g m (g.elm s (g.ent s)) {m with col:=Own.recol m.col s o ix (fun π=> .lim v π),σ:=σ'} (·=s):=by
 have hs:s<g.length:=lt_of_ent fun e=>by rw[e] at ht;cases ht
 obtain ⟨_,hσ,d0,d0',ix,h1,h2,h3,h4,h5,sz,rows,rows',h6,h7⟩:=hole_idx hw hh
 refine ⟨ix,h2,?_⟩
 have e0:ts.set o (.own n rs)=ts:=by
  apply List.ext_getElem?
  intro q
  by_cases e:o=q
  ·subst e
   have:o<ts.length:=by
    rcases zJ o ts.length with h'|h'
    ·exact h'
    ·rw[zG h'] at hto;cases hto
   rw[zO this,hto]
  ·rw[zN e]
 have e1:g.elm s (g.ent s)=Turn.elm.of g s ((g.ent s).withTags (ts.set o (.own n rs))):=by rw[e0,withTags_self ht];rfl
 rw[e1]
 have hself:∀q,q≠o→(σ' s)[q]? =(m.σ s)[q]? :=fun q hq=>by rw[h5,zN (Ne.symm hq)]
 refine Step.cell hr .elm ht (fun π=> .inr (.inr (.inl ⟨v,π,hv,rfl⟩))) hσ hself (by rw[h5];simp) (Keep.elmSelf hs rfl fun q d x h hfl=> ?_)
  (entTags_mem hr ht _ (zF hto)) fun t d d' x g1 g2 g3 g4=> ?_
 ·by_cases hq:q=o
  ·subst hq
   have hd:d=d0:=by
    unfold root at h
    rw[h1] at h
    split at h
    ·rename_i e _;simp at h e;rw[← h.1,← e]
    ·cases h
   subst hd
   have hlt:q<(m.σ s).length:=by
    rcases zJ q (m.σ s).length with h'|h'
    ·exact h'
    ·rw[zG h'] at h1;cases h1
   refine ⟨d0',?_,by rw[h7];rfl,fun sz' r' e=> ?_⟩
   ·unfold root at h ⊢
    rw[Turn.ent_self .elm hs,conc_withTags ht]
    simp only[h5,zO hlt]
    rw[h1] at h
    revert h
    cases (conc m.h (g.ent s) (m.c s)).bind (·[q]?)<;>simp
   ·rw[h6] at e;injection e with e2 e3;subst e2;exact ⟨rows',h7⟩
  ·exact ⟨d,by rw[root_re .elm ht (o:=o) (hself q hq),h], .refl hfl⟩
 ·rw[hto] at g1
  simp at g1
  subst g1
  rw[h1] at g2
  simp at g2
  subst g2
  have hlt:o<(m.σ s).length:=by
   rcases zJ o (m.σ s).length with h'|h'
   ·exact h'
   ·rw[zG h'] at h1;cases h1
  rw[h5,zO hlt] at g3
  simp at g3
  subst g3
  refine ⟨by rw[h7];rfl,fun hc=> ?_⟩
  have hold:=Turn.older .elm g s ((g.ent s).withTags (ts.set o (.own n rs)))
  obtain ⟨c1,c2⟩:=curR_back hold (entTags_mem hr ht _ (zF hto)) hc
  refine O.hole ix (g4.2 c1) h3 h4 fun π b hp hg=>⟨rfl,?_⟩
  unfold gd at hg ⊢
  split at hg
  ·rename_i ho
   simp only[ho,if_true]
   show Own.recol m.col s o ix _ b=_
   rw[recol_ne fun π' hp' e=> ?_]
   ·exact hg
   ·rw[hg] at e;injection e with _ _ e;exact hp (e ▸ hp')
  ·rename_i ho
   simp only[ho,if_false,Bool.false_eq_true]
   rcases hg with ⟨hc1,hf⟩|⟨r,hr',π',hc1⟩
   ·refine .inl ⟨?_,hf⟩
    show Own.recol m.col s o ix _ b=_
    rw[recol_ne fun π' hp' e=>by rw[hc1] at e;cases e]
    exact hc1
   ·refine .inr ⟨r,hr',π',?_⟩
    show Own.recol m.col s o ix _ b=_
    have hne:r.1≠s:=fun e=>by
     have:=c2 r hr'
     rw[e] at this
     exact Turn.ver_self .elm (by simp) hs this
    rw[recol_ne fun π'' _ e=>by rw[hc1] at e;injection e with e1;exact hne e1]
    exact hc1
def recolBox (col:Nat→Color) (s v n:Nat):Nat→Color:=fun b=>
 match col b with
 | .box s'=>if s'=s then .lim v [] else .box s'
 | .arr s' o π=>if s'=s then (if owns n (π.length+1)=true then .lim v ((0,o)::π) else .stable) else .arr s' o π
 |c=>c
theorem recolBox_ne {col:Nat→Color} {s v n b:Nat} (h1:col b≠ .box s) (h2:∀o π,col b≠ .arr s o π):recolBox col s v n b=col b:=by
 unfold recolBox
 split
 ·rename_i s' e
  split
  ·rename_i e';exact absurd (e'.symm ▸ e) h1
  ·exact e.symm
 ·rename_i s' o π e
  split
  ·rename_i e';exact absurd (e'.symm ▸ e) (h2 o π)
  ·exact e.symm
 ·rfl
theorem recolBox_box {col:Nat→Color} {s v n b:Nat} (h:col b= .box s):recolBox col s v n b= .lim v []:=by
 unfold recolBox;rw[h];simp
theorem recolBox_arr {col:Nat→Color} {s v n b o:Nat} {π:List (Nat×Nat)} (h:col b= .arr s o π):
  recolBox col s v n b=if owns n (π.length+1)=true then .lim v ((0,o)::π) else .stable:=by
 unfold recolBox;rw[h];simp
theorem recolBox_own {col:Nat→Color} {s v n b:Nat} (h:(col b).own≠some s):recolBox col s v n b=col b:=
 recolBox_ne (fun e=>h (by rw[e];rfl)) fun o π e=>h (by rw[e];rfl)
theorem Step.killBox {k:K} {g:G} {m:M} (hr:Rel k g m) {s:Nat} (hs:s<g.length) {v:Nat} (hv:PAR≤v) (n:Nat):
  Step k g m (killTag g s BOX) {m with col:=recolBox m.col s v n} (·=s):=by
 have e1:killTag g s BOX=Turn.tch.of g s .none:=by unfold killTag;rw[if_pos rfl];rfl
 rw[e1]
 refine Step.ghost hr .tch hs (σ':=m.σ) (fun _ _=>rfl) (fun b hb=>recolBox_own hb) (hr.mem.turn rfl fun b=> ?_) ?_ ⟨trivial,trivial⟩
 ·by_cases h1:m.col b= .box s
  ·refine .inr ⟨by rw[h1];simp[Color.own], .inr ⟨?_, .inr (.inr ⟨s,h1⟩)⟩⟩
   show (recolBox m.col s v n b).celled
   rw[recolBox_box h1];exact .inr (.inl ⟨v,_,hv,rfl⟩)
  ·by_cases h2:∃o π,m.col b= .arr s o π
   ·obtain ⟨o,π,h2⟩:=h2
    refine .inr ⟨by rw[h2];simp[Color.own],?_⟩
    by_cases h3:owns n (π.length+1)=true
    ·refine .inr ⟨?_, .inl ⟨s,o,π,(hr.mem.arr b s o π h2).1,h2⟩⟩
     show (recolBox m.col s v n b).celled
     rw[recolBox_arr h2,if_pos h3];exact .inr (.inl ⟨v,_,hv,rfl⟩)
    ·left
     show recolBox m.col s v n b=_
     rw[recolBox_arr h2,if_neg h3]
   ·exact .inl (recolBox_ne h1 fun o π e=>h2 ⟨o,π,e⟩)
 ·exact ⟨fun h=>absurd h (Turn.idv_self hs),fun h=>absurd h (Turn.hv_self (.inl rfl) hs),fun h=>absurd h (Turn.dv_self .tch (by simp) (by simp) hs),fun h=>absurd h (Turn.ver_self .tch (by simp) hs)⟩
theorem Older.same (g:G) (s:Nat) (e:Ent):∀x,(g.same s e).ver x=g.ver x∧(g.same s e).dv x=g.dv x∧(g.same s e).hv x=g.hv x∧(g.same s e).idv x=g.idv x:=by
 intro x
 rcases zJ s g.length with hl|hl
 ·by_cases hx:x=s
  ·subst hx
   unfold G.ver G.dv G.hv G.idv G.same
   rw[at_set_self hl]
   exact ⟨rfl,rfl,rfl,rfl⟩
  ·have:(g.same s e).at x=g.at x:=Turn.at_ne .same hx
   unfold G.ver G.dv G.hv G.idv
   rw[this]
   exact ⟨rfl,rfl,rfl,rfl⟩
 ·have:g.same s e=g:=set_out hl
  rw[this]
  exact ⟨rfl,rfl,rfl,rfl⟩
theorem Step.stay {k:K} {g:G} {m:M} (hr:Rel k g m) {s o n n':Nat} {rs:Rts} {ts:List Tag} (ht:entTags (g.ent s)=some ts) (hto:ts[o]? =some (.own n rs))
  (hn:∀q,owns n' q=true→owns n q=true):
  Step k g m (reTag G.same g s o (.own n' rs)) {m with col:=Own.recol m.col s o [] (fun π=>if owns n' π.length=true then .arr s o π else .stable)} (·=s):=by
 have hs:s<g.length:=lt_of_ent fun e=>by rw[e] at ht;cases ht
 rw[reTag_eq ht]
 have hto2:∀π,(fun π=>if owns n' π.length=true then Color.arr s o π else .stable) π= .stable∨((fun π=>if owns n' π.length=true then Color.arr s o π else .stable) π).celled:=by
  intro π
  by_cases h:owns n' π.length=true
  ·exact .inr (.inl ⟨s,o,π,Nat.lt_of_lt_of_le hs hr.small,by simp[h]⟩)
  ·exact .inl (by simp[h])
 have hcol:∀b o' π,m.col b= .arr s o' π→Own.recol m.col s o [] (fun π=>if owns n' π.length=true then .arr s o π else .stable) b=m.col b∨
   (Own.recol m.col s o [] (fun π=>if owns n' π.length=true then .arr s o π else .stable) b= .stable∧k.fresh b):=by
  intro b o' π hb
  rcases recol_cases (col:=m.col) (s:=s) (o:=o) (ix:=[]) (to:=fun π=>if owns n' π.length=true then .arr s o π else .stable) b with e|⟨π',e,e2⟩
  ·exact .inl e
  ·rw[e2]
   by_cases h:owns n' π'.length=true
   ·left;simp only[h,if_true];rw[e];rfl
   ·right;simp only[h,if_false,Bool.false_eq_true];exact ⟨trivial,hr.mem.fresh b s (by rw[e];rfl)⟩
 have hwt:=entTags_mem hr ht _ (zF hto)
 refine Step.cell hr .same ht (σ':=m.σ) hto2 (fun _ _=>rfl) (fun _ _=>rfl) rfl ?_ hwt fun t d d' x g1 g2 g3 g4=> ?_
 ·have hroot:∀q,root (Turn.same.of g s ((g.ent s).withTags (ts.set o (.own n' rs)))) {m with col:=Own.recol m.col s o [] (fun π=>if owns n' π.length=true then .arr s o π else .stable)} s q=root g m s q:=
   fun q=>root_re .same ht (o:=o) (σ':=m.σ) rfl
  exact ⟨fun _=>rfl,fun _ q d x h hfl=>⟨d,by rw[hroot,h], .refl hfl⟩,fun _ q d x ix d1 v1 h h1 hfl=>⟨d,d1,by rw[hroot,h],loc_frame ix [] h1 (fun b π hb=>⟨rfl,(hcol b q π hb).imp id (·.1)⟩) (fun b hb=>⟨rfl,(recol_own (col:=m.col) (s:=s) (o:=o) (ix:=[]) (to:=fun π=>if owns n' π.length=true then Color.arr s o π else Color.stable) (by rw[hb];simp[Color.own])).trans hb⟩), .refl hfl⟩,
   fun _=>⟨rfl,hroot,fun b o' π hb=>⟨rfl,(hcol b o' π hb).imp id (·.1)⟩⟩⟩
 ·rw[hto] at g1
  simp at g1
  subst g1
  have:d'=d:=by rw[g2] at g3;simpa using g3.symm
  subst this
  refine ⟨g4.1,fun hc=> ?_⟩
  obtain ⟨c1,c2⟩:=curR_back (Turn.older .same g s _) hwt hc
  refine O.frame (g4.2 c1) fun π b hg=>⟨rfl,?_⟩
  unfold gd at hg ⊢
  by_cases h1:owns n' π.length=true
  ·simp only[h1,if_true,hn _ h1] at hg ⊢
   show Own.recol m.col s o [] _ b=_
   rw[recol_eq (ix:=[]) (π:=π) (by simpa using hg)]
   simp[h1]
  ·simp only[h1,if_false,Bool.false_eq_true]
   split at hg
   ·rename_i h2
    refine .inl ⟨?_, .inl (hr.mem.fresh b s (by rw[hg];rfl))⟩
    show Own.recol m.col s o [] _ b=_
    rw[recol_eq (ix:=[]) (π:=π) (by simpa using hg)]
    simp[h1]
   ·rcases hg with ⟨hc1,hf⟩|⟨r,hr',π',hc1⟩
    ·refine .inl ⟨?_,hf⟩
     show Own.recol m.col s o [] _ b=_
     rw[recol_ne fun π' hp' e=>by rw[hc1] at e;cases e]
     exact hc1
    ·by_cases e:r.1=s
     ·have:=hcol b r.2.1 π' (by rw[← e];exact hc1)
      rcases this with h|⟨h,h'⟩
      ·exact .inr ⟨r,hr',π',by show Own.recol m.col s o [] _ b=_;rw[h];exact hc1⟩
      ·exact .inl ⟨h, .inl h'⟩
     ·refine .inr ⟨r,hr',π',?_⟩
      show Own.recol m.col s o [] _ b=_
      rw[recol_ne fun π'' _ e2=>by rw[hc1] at e2;injection e2 with e3;exact e e3]
      exact hc1
def vl (m:M):Operand→Value
 | .tmp t=>m.c t
 | .const v=>v
 |_=>undef
theorem owns_mono {n a b:Nat} (h:owns n b=true) (hab:a≤b):owns n a=true:=by
 unfold owns at*
 simp only[Bool.or_eq_true,decide_eq_true_eq] at*
 omega
theorem owns_zero (a:Nat):owns 0 a=false:=by
 unfold owns
 simp[DEEP]
theorem owns_sub {n a b:Nat} (h:owns n a=true):owns (subN n a) b=owns n (a+b):=by
 unfold owns subN at*
 simp only[Bool.or_eq_true,decide_eq_true_eq] at*
 by_cases hd:DEEP≤n
 ·simp[hd]
 ·simp only[hd,if_false,decide_false,Bool.false_or]
  have:¬ DEEP≤n-a:=by omega
  simp only[this,decide_false,Bool.false_or]
  rw[decide_eq_decide]
  omega
theorem owns_add {n a:Nat}:owns (addN n 1) (a+1)=true→owns n a=true:=by
 unfold owns addN
 by_cases hd:DEEP≤n
 ·simp[hd]
 ·simp only[hd,if_false,Bool.or_eq_true,decide_eq_true_eq]
  intro h
  right
  rcases h with h|h
  ·exfalso;unfold DEEP at*;omega
  ·omega
inductive CelOk (k:K) (g:G) (m:M):Cel→Value→Prop
 |c {s o:Nat} {ts:List Tag} {d:D} {x:Value} {tag:Tag} (ht:entTags (g.ent s)=some ts) (hto:ts[o]? =some tag) (hd:(m.σ s)[o]? =some d)
  (hx:(conc m.h (g.ent s) (m.c s)).bind (·[o]?)=some x) (h1:x.oneCell'=true) (hc:CellOk k g m s o d x tag):CelOk k g m ⟨tag, .c s o,s,o⟩ x
 |cst {d:D} {x:Value} {tag:Tag} {s o:Nat} (ht:(tag= .sc∧d.flat=true)∨tag= .own DEEP []) (ho:∀(h:Array Obj) (good:Good),O h good d x):CelOk k g m ⟨tag, .cst d,s,o⟩ x
 |bx {b ty n:Nat} {ts:List Tag} {rs:Rts} {x:Value} (he:g.ent b= .box ty ts) (ht:boxTag g ts=some (n,rs)) (hx:m.σ b≠[]→x=m.c b) (h1:x.oneCell'=true):
  CelOk k g m ⟨.own (addN n 1) rs, .bx b,b,BOX⟩ x
theorem celsFrom_get {s:Nat}:∀(ts:List Tag) (i j:Nat),(celsFrom s i ts)[j]? =(ts[j]?).map fun t=>⟨t, .c s (i+j),s,i+j⟩:=by
 intro ts
 induction ts with
 |nil=>intro i j;simp[celsFrom]
 |cons t ts ih=>
  intro i j
  cases j with
  |zero=>simp[celsFrom]
  |succ j=>
   simp only[celsFrom,List.getElem?_cons_succ]
   rw[ih]
   have:i+1+j=i+(j+1):=by omega
   rw[this]
theorem celsOf_get {s:Nat} {ts:List Tag} {j:Nat}:(celsOf s ts)[j]? =(ts[j]?).map fun t=>⟨t, .c s j,s,j⟩:=by
 unfold celsOf
 rw[celsFrom_get]
 simp
theorem celsOf_len {s:Nat} {ts:List Tag}:(celsOf s ts).length=ts.length:=by
 unfold celsOf
 generalize 0=i
 induction ts generalizing i with
 |nil=>rfl
 |cons t ts ih=>simp[celsFrom,ih]
def CelsOk (k:K) (g:G) (m:M) (cs:List Cel) (vs:List Value):Prop:=
 vs.length=cs.length∧∀(i:Nat) (c:Cel),cs[i]? =some c→∃x,vs[i]? =some x∧CelOk k g m c x
theorem celsOf_ok {k:K} {g:G} {m:M} (hr:Rel k g m) {s:Nat} {ts:List Tag} (ht:entTags (g.ent s)=some ts) (hp:m.σ s≠[]):
  ∃vs,conc m.h (g.ent s) (m.c s)=some vs∧CelsOk k g m (celsOf s ts) vs:=by
 rcases EntOk.cells ht (hr.ent s) with h|⟨vs,h1,h2,h3,hone,h4⟩
 ·exact absurd h hp
 ·refine ⟨vs,h1,by rw[h2,celsOf_len],fun i c hc=> ?_⟩
  rw[celsOf_get] at hc
  cases hti:ts[i]? with
  |none=>simp[hti] at hc
  |some t=>
   simp[hti] at hc
   subst hc
   have hlt:i<ts.length:=by
    rcases zJ i ts.length with h'|h'
    ·exact h'
    ·rw[zG h'] at hti;cases hti
   have hv:vs[i]? =some vs[i]:=zB (by omega)
   have hd:(m.σ s)[i]? =some (m.σ s)[i]:=zB (by omega)
   exact ⟨vs[i],hv, .c ht hti hd (by rw[h1];exact hv) (hone _ (List.getElem_mem (by omega))) (h4 i t _ _ hti hd hv)⟩
theorem isZeroOf_ok {d:D} {v:Value} (h:d.isZeroOf v=true) (mem:Array Obj) (good:Good):O mem good d v:=by
 unfold D.isZeroOf at h
 split at h
 ·simp at h;obtain ⟨rfl,rfl⟩:=h;exact .int
 ·simp at h;subst h;exact .bool
 ·rename_i s b
  simp only[zD,List.isEmpty_iff] at h
  obtain ⟨rfl,h2⟩:=h
  have:b=⟨⟨[]⟩⟩:=by
   cases b with
   |mk d=>
    cases d with
    |mk l=>simp at h2;subst h2;rfl
  rw[this]
  exact .str
 ·rename_i rows
  have:rows=[]:=by simpa using h
  subst this
  exact .nil
 ·rename_i rows
  have:rows=[]:=by simpa using h
  subst this
  exact .pnil
 ·cases h
theorem zerosFit_get:∀{ds:List D} {vs:List Value},zerosFit ds vs=true→vs.length=ds.length∧∀(i:Nat) (d:D),ds[i]? =some d→∃v,vs[i]? =some v∧d.isZeroOf v=true:=by
 intro ds
 induction ds with
 |nil=>intro vs h;cases vs<;>simp[zerosFit] at h ⊢
 |cons d ds ih=>
  intro vs h
  cases vs with
  |nil=>simp[zerosFit] at h
  |cons v vs=>
   simp only[zerosFit,zD] at h
   obtain ⟨h1,h2⟩:=ih h.2
   refine ⟨by simp[h1],fun i d' hd=> ?_⟩
   cases i with
   |zero=>simp at hd;subst hd;exact ⟨v,rfl,h.1⟩
   |succ i=>exact h2 i d' (by simpa using hd)
theorem zeroCels_ok {k:K} {g:G} {m:M} {ds:List D} {vs:List Value} (h:zerosFit ds vs=true):CelsOk k g m (zeroCels ds) vs:=by
 obtain ⟨h1,h2⟩:=zerosFit_get h
 refine ⟨by rw[h1];simp[zeroCels],fun i c hc=> ?_⟩
 unfold zeroCels at hc
 rw[zK] at hc
 cases hd:ds[i]? with
 |none=>simp[hd] at hc
 |some d=>
  simp[hd] at hc
  subst hc
  obtain ⟨v,hv,hz⟩:=h2 i d hd
  refine ⟨v,hv, .cst ?_ fun h good=>isZeroOf_ok hz h good⟩
  unfold zeroTag
  split
  ·rename_i hf;exact .inl ⟨rfl,hf⟩
  ·exact .inr rfl
theorem constCel_ok {k:K} {g:G} {m:M} {P:Program} {ty:TypeId} {v:Value} {c:Cel} (h:constCel P ty v=some c):CelOk k g m c v:=by
 unfold constCel at h
 split at h
 ·simp at h;subst h;exact .cst (.inl ⟨rfl,rfl⟩) fun _ _=> .int
 ·simp at h;subst h;exact .cst (.inl ⟨rfl,rfl⟩) fun _ _=> .bool
 ·rename_i s
  simp at h;subst h
  refine .cst (.inl ⟨rfl,rfl⟩) fun _ _=> ?_
  have:s=⟨⟨s.data.toList⟩⟩:=by cases s;simp
  conv=>arg 4;rw[this]
  exact .str
 ·rw[zC] at h
  obtain ⟨e,_,rfl⟩:=h
  exact .cst (.inr rfl) fun _ _=> .nil
 ·simp at h;subst h;exact .cst (.inr rfl) fun _ _=> .pnil
 ·cases h
theorem boxAt_ok {k:K} {g:G} {m:M} (hr:Rel k g m) {t b off:Nat} (h:boxAt g t=some (b,off)) (hp:m.σ t≠[]):
  ∃ty ts,g.ent b= .box ty ts∧(m.σ b≠[]→∃(blk:Nat) (cs:Array Value),m.c b= .pointer (some ⟨blk,0,none⟩)∧m.c t= .pointer (some ⟨blk,off,none⟩)∧m.col blk= .box b∧
   m.h[blk]? =some (.cells cs ty (0,0))∧CellsOk k g m b ts cs.toList):=by
 unfold boxAt at h
 split at h
 ·rename_i ty ts e
  simp at h
  obtain ⟨rfl,rfl⟩:=h
  refine ⟨ty,ts,e,fun _=> ?_⟩
  have:=hr.ent t
  rw[e] at this
  rcases this with h|⟨b,cs,h1,h2,h3,h4⟩
  ·exact absurd h hp
  ·exact ⟨b,cs,h1,h1,h2,h3,h4⟩
 ·rename_i b' v off' e
  split at h
  ·rename_i hv
   split at h
   ·rename_i ty ts e2
    simp at h
    obtain ⟨rfl,rfl⟩:=h
    refine ⟨ty,ts,e2,fun hb=> ?_⟩
    have h1:=hr.ent b'
    rw[e2] at h1
    have h2:=hr.ent t
    rw[e] at h2
    rcases h1 with h1|⟨blk,cs,h3,h4,h5,h6⟩
    ·exact absurd h1 hb
    ·rcases h2 with h2|h2
     ·exact absurd h2 hp
     ·obtain ⟨blk',h7,h8⟩:=h2 hv
      rw[h3] at h7
      simp at h7
      subst h7
      exact ⟨blk,cs,h3,h8,h4,h5,h6⟩
   ·cases h
  ·cases h
 ·cases h
theorem boxAt_one {k:K} {g:G} {m:M} (hr:Rel k g m) {t b off:Nat} (h:boxAt g t=some (b,off)) (hp:m.σ t≠[]):(m.c t).oneCell'=true:=by
 have hE:=hr.ent t
 unfold boxAt at h
 split at h
 ·rename_i e
  rw[e] at hE
  rcases hE with hE|⟨b,cs,h1,_⟩
  ·exact absurd hE hp
  ·rw[h1];rfl
 ·rename_i b' v off' e
  rw[e] at hE
  split at h
  ·rename_i hv
   rcases hE with hE|hE
   ·exact absurd hE hp
   ·obtain ⟨blk,_,h2⟩:=hE hv
    rw[h2];rfl
  ·cases h
 ·cases h
theorem CelOk.one {k:K} {g:G} {m:M} {c:Cel} {x:Value} (h:CelOk k g m c x):x.oneCell'=true:=by
 cases h with
 |c ht hto hd hx h1 hc=>exact h1
 |cst ht ho=>exact (ho #[] fun _ _=>True).one
 |bx he ht hx h1=>exact h1
theorem cels_ok {k:K} {g:G} {m:M} (hr:Rel k g m) {P:Program} {ty:TypeId} {x:Operand} {sh:Shape} {cs:List Cel} (h:cels P g ty x=some (sh,cs))
  (hp:∀t,x= .tmp t→m.σ t≠[]):∃vs,cellsV sh (vl m x)=some vs∧CelsOk k g m cs vs:=by
 unfold cels at h
 split at h
 ·rename_i t
  split at h
  ·rename_i sh' ts e
   simp at h
   obtain ⟨rfl,rfl⟩:=h
   have:=celsOf_ok hr (s:=t) (ts:=ts) (by rw[e];rfl) (hp t rfl)
   rw[e] at this
   exact this
  ·split at h
   ·rename_i b hb
    rw[zC] at h
    obtain ⟨c,hc,h⟩:=h
    simp at h
    obtain ⟨rfl,rfl⟩:=h
    obtain ⟨ty',ts,e,hbox⟩:=boxAt_ok hr hb (hp t rfl)
    unfold boxCel at hc
    rw[zC] at hc
    obtain ⟨⟨n,rs⟩,hn,rfl⟩:=hc
    have hts:boxTags g b=ts:=by unfold boxTags;rw[e]
    rw[hts] at hn
    refine ⟨[m.c t],rfl,rfl,fun i c hc=> ?_⟩
    cases i with
    |succ i=>simp at hc
    |zero=>
     simp at hc
     subst hc
     refine ⟨m.c t,rfl, .bx e hn (fun hb'=> ?_) ?_⟩
     ·obtain ⟨blk,cs,h1,h2,_⟩:=hbox hb'
      rw[h1,h2]
     ·exact boxAt_one hr hb (hp t rfl)
   ·cases h
 ·rename_i cs'
  simp only[zA,guardO_some] at h
  obtain ⟨z,hz,h1,h2⟩:=h
  simp at h2
  obtain ⟨rfl,rfl⟩:=h2
  exact ⟨cs'.toList,rfl,zeroCels_ok h1⟩
 ·rename_i v _
  rw[zC] at h
  obtain ⟨c,hc,h⟩:=h
  simp at h
  obtain ⟨rfl,rfl⟩:=h
  refine ⟨[v],rfl,rfl,fun i c' hc'=> ?_⟩
  cases i with
  |succ i=>simp at hc'
  |zero=>simp at hc';subst hc';exact ⟨v,rfl,constCel_ok hc⟩
 ·cases h
theorem cel1_ok {k:K} {g:G} {m:M} (hr:Rel k g m) {P:Program} {ty:TypeId} {x:Operand} {c:Cel} (h:cel1 P g ty x=some c)
  (hp:∀t,x= .tmp t→m.σ t≠[]):CelOk k g m c (vl m x):=by
 unfold cel1 at h
 split at h
 ·rename_i c' e
  simp at h
  subst h
  obtain ⟨vs,h1,h2,h3⟩:=cels_ok hr e hp
  simp[cellsV] at h1
  subst h1
  obtain ⟨y,hy,hc⟩:=h3 0 c' rfl
  simp at hy
  subst hy
  exact hc
 ·cases h
theorem mem_unionR {a b:Rts} {r:Nat×Nat×Nat}:r∈unionR a b↔r∈a∨r∈b:=by
 unfold unionR
 simp only[zT,List.mem_filter,Bool.not_eq_true',List.contains_eq_mem,decide_eq_false_iff_not]
 constructor
 ·rintro (h|⟨h,_⟩)
  ·exact .inl h
  ·exact .inr h
 ·rintro (h|h)
  ·exact .inl h
  ·by_cases ha:r∈a
   ·exact .inl ha
   ·exact .inr ⟨h,ha⟩
theorem curR_iff {g:G} {rs:Rts}:curR g rs=true↔∀r∈rs,g.ver r.1=r.2.2:=by
 unfold curR
 rw[zL]
 constructor
 ·intro h r hr;simpa using h r hr
 ·intro h r hr;simpa using h r hr
theorem curR_union {g:G} {a b:Rts} (ha:curR g a=true) (hb:curR g b=true):curR g (unionR a b)=true:=by
 rw[curR_iff] at*
 intro r hr
 rcases mem_unionR.1 hr with h|h
 ·exact ha r h
 ·exact hb r h
theorem curR_one {g:G} {s o:Nat}:curR g [(s,o,g.ver s)]=true:=by
 rw[curR_iff]
 intro r hr
 simp at hr
 subst hr
 rfl
theorem deepOk.mono {k:K} {col:Nat→Color} {rs rs':Rts} {b:Nat} (h:deepOk k col rs b) (hs:∀r∈rs,r∈rs'):deepOk k col rs' b:=by
 rcases h with ⟨h1,h2|⟨r,hr,j,h3⟩⟩|⟨r,hr,π,h1⟩
 ·exact .inl ⟨h1, .inl h2⟩
 ·exact .inl ⟨h1, .inr ⟨r,hs r hr,j,h3⟩⟩
 ·exact .inr ⟨r,hs r hr,π,h1⟩
theorem gd_deep {k:K} {col:Nat→Color} {s o n v:Nat} {rs:Rts} {π:List (Nat×Nat)} {b:Nat} (h:gd k col s o n rs π b):
  deepOk k col (if n=0 then rs else unionR [(s,o,v)] rs) b:=by
 unfold gd at h
 split at h
 ·rename_i ho
  have:n≠0:=fun e=>by rw[e,owns_zero] at ho;cases ho
  rw[if_neg this]
  exact .inr ⟨(s,o,v),mem_unionR.2 (.inl (by simp)),π,h⟩
 ·refine h.mono fun r hr=> ?_
  split
  ·exact hr
  ·exact mem_unionR.2 (.inr hr)
theorem ownAt_ok {g:G} {s o n:Nat} {rs:Rts} (h:ownAt g s o=some (n,rs)):
  o≠BOX∧∃ts,entTags (g.ent s)=some ts∧ts[o]? =some (.own n rs)∧curR g rs=true:=by
 unfold ownAt at h
 split at h
 ·cases h
 ·rename_i ho
  refine ⟨ho,?_⟩
  split at h
  ·rename_i n' rs' ht
   split at h
   ·rename_i hc
    simp at h
    obtain ⟨rfl,rfl⟩:=h
    unfold tagAt at ht
    split at ht
    ·rename_i sh ts e
     refine ⟨ts,by rw[e];rfl,?_,hc⟩
     rw[zM] at ht
     cases e2:ts[o]? with
     |none=>simp[e2] at ht
     |some t=>simp[e2] at ht;rw[ht]
    ·rename_i ty ts e
     refine ⟨ts,by rw[e];rfl,?_,hc⟩
     rw[zM] at ht
     cases e2:ts[o]? with
     |none=>simp[e2] at ht
     |some t=>simp[e2] at ht;rw[ht]
    ·cases ht
   ·cases h
  ·cases h
theorem root_cell {k:K} {g:G} {m:M} (hr:Rel k g m) {s o:Nat} {d:D} {v:Value} (h:root g m s o=some (d,v)) {ts:List Tag} (ht:entTags (g.ent s)=some ts) {t:Tag} (hto:ts[o]? =some t):
  CellOk k g m s o d v t:=by
 unfold root at h
 split at h
 ·rename_i d' v' h1 h2
  simp at h
  obtain ⟨rfl,rfl⟩:=h
  rcases EntOk.cells ht (hr.ent s) with h|⟨vs,h3,h4,h5,_,h6⟩
  ·rw[h] at h1;simp at h1
  ·rw[h3] at h2
   exact h6 o t d' v' hto h1 h2
 ·cases h
theorem root_own {k:K} {g:G} {m:M} (hr:Rel k g m) {s o n:Nat} {rs:Rts} {d:D} {v:Value} (h:root g m s o=some (d,v)) (ho:ownAt g s o=some (n,rs)):
  O m.h (gd k m.col s o n rs) d v:=by
 obtain ⟨_,ts,h1,h2,h3⟩:=ownAt_ok ho
 exact (root_cell hr h h1 h2).2 h3
theorem wayW_len (w:List (Nat×Nat×Nat)):(wayW w).length=w.length:=by simp[wayW]
theorem wayOf_len {σ:St}:∀{w:List (Nat×Nat)} {ix:List (Nat×Nat)},wayOf σ w=some ix→ix.length=w.length:=by
 intro w
 induction w with
 |nil=>intro ix h;simp[wayOf] at h;subst h;rfl
 |cons p w ih=>
  obtain ⟨r,o⟩:=p
  intro ix h
  simp only[wayOf] at h
  split at h
  ·rename_i i l h1 h2
   simp at h
   subst h
   simp[ih h2]
  ·cases h
theorem O.take {h:Array Obj} {good:Good} {sz n len cap:Nat} {rows:List (List D)} {a:Option Addr} (ho:O h good (.sl sz rows) (.slice a len cap)) (hn:n≤rows.length):
  O h good (.sl sz (rows.take n)) (.slice a n cap):=by
 cases ho with
 |nil=>simp at hn;subst hn;exact .nil
 |emp=>simp at hn;subst hn;exact .emp
 |sl hg hb hl hc ho hr he=>
  refine .sl hg hb (by simp;omega) (by omega) ho (fun i row h=> ?_) fun i o d h=> ?_
  ·rw[List.getElem?_take] at h
   split at h
   ·exact hr i row h
   ·cases h
  ·obtain ⟨row,h1,h2⟩:=cellAt_lt h
   rw[List.getElem?_take] at h1
   split at h1
   ·exact he i o d (by simp[cellAt,h1,h2])
   ·cases h1
theorem loan_ok {k:K} {g:G} {m:M} (hr:Rel k g m) {s o v n:Nat} {w:List (Nat×Nat×Nat)} {rs:Rts} {d:D} {x:Value} {s' o':Nat}
  (hc:CellOk k g m s' o' d x (.loan s o v w)) (hl:curL g s v w=true) (ho:ownAt g s o=some (n,rs)):
  ∃d0 v0 ix d1,(m.σ s)[o]? =some d0∧root g m s o=some (d0,v0)∧wayOf m.σ (wayW w)=some ix∧ix.length=w.length∧d0.at ix=some d1∧
   (∀src:Src,src=(if w.isEmpty then Src.c s o else .p s o (wayW w))→src.ev m.σ=some d1)∧
   O m.h (fun π b=>gd k m.col s o n rs (ix++π) b) d1 x:=by
 obtain ⟨d0,v0,ix,d1,h1,h2,h3,_⟩:=hc hl
 have hs:(m.σ s)[o]? =some d0:=by
  unfold root at h1
  split at h1
  ·rename_i e _;simp at h1;rw[← h1.1];exact e
  ·cases h1
 have hat:=loc_at ix [] h3
 refine ⟨d0,v0,ix,d1,hs,h1,h2,by rw[wayOf_len h2,wayW_len],hat,fun src e=> ?_,O.at ix [] (root_own hr h1 ho) h3⟩
 subst e
 split
 ·rename_i he
  have:w=[]:=by simpa using he
  subst this
  simp[wayW,wayOf] at h2
  subst h2
  simp[D.at] at hat
  subst hat
  exact hs
 ·simp only[Src.ev,hs,h2]
  exact hat
theorem curR_zero {g:G} {s o n:Nat} {rs:Rts} (h:curR g rs=true):curR g (if n=0 then rs else unionR [(s,o,g.ver s)] rs)=true:=by
 split
 ·exact h
 ·exact curR_union curR_one h
theorem rd_ok {k:K} {g:G} {m:M} (hr:Rel k g m) {c:Cel} {x:Value} (h:CelOk k g m c x) {src:Src} {rs:Rts} (hrd:c.rd g=some (src,rs)):
  curR g rs=true∧∀d,src.ev m.σ=some d→O m.h (fun _=>deepOk k m.col rs) d x:=by
 cases h with
 | @c s o ts d x tag ht hto hd hx _ hc=>
  unfold Cel.rd at hrd
  cases tag with
  |dead=>simp at hrd
  |sc=>
   simp at hrd
   obtain ⟨rfl,rfl⟩:=hrd
   refine ⟨rfl,fun d' hd'=> ?_⟩
   simp only[Src.ev] at hd'
   rw[hd] at hd'
   simp at hd'
   subst hd'
   exact hc.2.flat hc.1
  |own n rs0=>
   simp only[guardO_some] at hrd
   obtain ⟨h1,h2⟩:=hrd
   simp at h2
   obtain ⟨rfl,rfl⟩:=h2
   refine ⟨curR_zero h1,fun d' hd'=> ?_⟩
   simp only[Src.ev] at hd'
   rw[hd] at hd'
   simp at hd'
   subst hd'
   exact (hc.2 h1).mono fun π b hb=>gd_deep hb
  |loan s' o' v w=>
   simp only[guardO_some,zC] at hrd
   obtain ⟨h1,⟨n,rs0⟩,h2,h3⟩:=hrd
   simp only[Prod.mk.injEq] at h3
   obtain ⟨rfl,rfl⟩:=h3
   obtain ⟨d0,v0,ix,d1,g1,g2,g3,g4,g5,g6,g7⟩:=loan_ok hr hc h1 h2
   obtain ⟨_,ts',_,_,hcur⟩:=ownAt_ok h2
   refine ⟨?_,fun d' hd'=> ?_⟩
   ·split
    ·exact curR_union curR_one hcur
    ·exact hcur
   ·rw[g6 _ rfl] at hd'
    simp at hd'
    subst hd'
    refine g7.mono fun π b hb=> ?_
    unfold gd at hb
    split at hb
    ·rename_i ho
     have:owns n w.length=true:=owns_mono ho (by simp;omega)
     simp only[this,if_true]
     exact .inr ⟨(s',o',g.ver s'),mem_unionR.2 (.inl (by simp)),_,hb⟩
    ·refine hb.mono fun r hr'=> ?_
     split
     ·exact mem_unionR.2 (.inr hr')
     ·exact hr'
  |pre s' o' v=>
   simp only[guardO_some,zC,beq_iff_eq] at hrd
   obtain ⟨h1,⟨n,rs0⟩,h2,h3⟩:=hrd
   simp only[Prod.mk.injEq] at h3
   obtain ⟨rfl,rfl⟩:=h3
   obtain ⟨_,ts',_,_,hcur⟩:=ownAt_ok h2
   refine ⟨by rw[← h1];exact curR_zero hcur,fun d' hd'=> ?_⟩
   simp only[Src.ev] at hd'
   rw[hd] at hd'
   simp at hd'
   subst hd'
   obtain ⟨sz,rows,n',a,len,cap,g1,rfl,g3,rfl⟩:=hc h1
   exact ((root_own hr g1 h2).take g3).mono fun π b hb=>gd_deep hb
 | @cst d x tag s o ht ho=>
  have:src= .cst d∧rs=[]:=by
   unfold Cel.rd at hrd
   rcases ht with ⟨rfl,_⟩|rfl
   ·simp at hrd;exact ⟨hrd.1.symm,hrd.2⟩
   ·simp only[guardO_some] at hrd
    simp at hrd
    exact ⟨hrd.2.1.symm,hrd.2.2⟩
  obtain ⟨rfl,rfl⟩:=this
  refine ⟨rfl,fun d' hd'=> ?_⟩
  simp[Src.ev] at hd'
  subst hd'
  exact ho _ _
 |bx=>simp[Cel.rd,guardO] at hrd
theorem sc_ok {k:K} {g:G} {m:M} {c:Cel} {x:Value} (h:CelOk k g m c x) (ht:isScT c.tag=true) {d:D} (hd:c.src.ev m.σ=some d):
  d.flat=true∧∀(mem:Array Obj) (good:Good),O mem good d x:=by
 cases h with
 | @c s o ts d' x tag ht' hto hd' hx _ hc=>
  simp only[Src.ev] at hd
  rw[hd'] at hd
  simp at hd
  subst hd
  cases tag<;>simp[isScT] at ht
  exact ⟨hc.1,fun mem good=>hc.2.flat hc.1⟩
 | @cst d' x tag s o ht' ho=>
  simp[Src.ev] at hd
  subst hd
  rcases ht' with ⟨_,hf⟩|rfl
  ·exact ⟨hf,fun mem good=>ho mem good⟩
  ·simp[isScT] at ht
 |bx=>simp[isScT] at ht
theorem cel1_here {m:M} {g:G} {P:Program} {ty:TypeId} {x:Operand} {c:Cel} (h:cel1 P g ty x=some c) (ht:isScT c.tag=true) {d:D} (hd:c.src.ev m.σ=some d) (t:Nat) (hx:x= .tmp t):
  m.σ t≠[]:=by
 subst hx
 unfold cel1 at h
 split at h
 ·rename_i c' e
  simp at h
  subst h
  unfold cels at e
  simp only at e
  split at e
  ·rename_i sh ts e2
   simp at e
   obtain ⟨_,e⟩:=e
   have:(celsOf t ts)[0]? =some c':=by rw[e];rfl
   rw[celsOf_get] at this
   cases h0:ts[0]? with
   |none=>simp[h0] at this
   |some t0=>
    simp[h0] at this
    subst this
    simp only[Src.ev] at hd
    intro he
    rw[he] at hd
    simp at hd
  ·split at e
   ·rw[zC] at e
    obtain ⟨c2,e3,e4⟩:=e
    simp at e4
    obtain ⟨_,rfl⟩:=e4
    unfold boxCel at e3
    rw[zC] at e3
    obtain ⟨_,_,rfl⟩:=e3
    simp[isScT] at ht
   ·cases e
 ·cases h
theorem scSrc_ok {k:K} {g:G} {m:M} (hr:Rel k g m) {P:Program} {ty:TypeId} {x:Operand} {src:Src} (h:scSrc P g ty x=some src)
  {d:D} (hd:src.ev m.σ=some d):d.flat=true∧∀(mem:Array Obj) (good:Good),O mem good d (vl m x):=by
 unfold scSrc at h
 simp only[zA,guardO_some] at h
 obtain ⟨c,h1,h2,h3⟩:=h
 simp at h3
 subst h3
 exact sc_ok (cel1_ok hr h1 (cel1_here h1 h2 hd)) h2 hd
theorem slSrc_ok {k:K} {g:G} {m:M} (hr:Rel k g m) {P:Program} {ty:TypeId} {x:Operand} {src:Src} {rs:Rts} (h:slSrc P g ty x=some (src,rs))
  (hp:∀t,x= .tmp t→m.σ t≠[]):curR g rs=true∧∀d,src.ev m.σ=some d→O m.h (fun _=>deepOk k m.col rs) d (vl m x):=by
 unfold slSrc at h
 rw[zA] at h
 obtain ⟨c,h1,h2⟩:=h
 exact rd_ok hr (cel1_ok hr h1 hp) h2
theorem owns_le {n n' a:Nat} (h:n≤n') (ho:owns n a=true):owns n' a=true:=by
 unfold owns at*
 simp only[Bool.or_eq_true,decide_eq_true_eq] at*
 omega
def partGood (k:K) (col:Nat→Color) (s o n:Nat) (rs:Rts) (ix:List (Nat×Nat)):Good:=fun π b=>
 if owns n π.length=true then col b= .arr s o (ix++π) else deepOk k col rs b
def boxGood (k:K) (col:Nat→Color) (s n:Nat) (rs:Rts):Good:=fun π b=>
 match π with
 | []=>col b= .box s
 |(i,o)::π'=>i=0∧(col b= .arr s o π'∨(owns n (π'.length+1)=false∧deepOk k col rs b))
def frmOk (k:K) (g:G) (m:M) (mv:Mv) (d:D) (x:Value):Option (Nat×Nat×List (Nat×Nat))→Prop
 |none=>(mv.n=0∧O m.h (fun _=>deepOk k m.col mv.rs) d x)∨∀(h:Array Obj) (good:Good),O h good d x
 |some (s,o,w)=>s<g.length∧mv.n≠0∧if o=BOX then w=[]∧O m.h (boxGood k m.col s mv.n mv.rs) d x
  else∃ts n rs ix,entTags (g.ent s)=some ts∧ts[o]? =some (.own n rs)∧wayOf m.σ w=some ix∧O m.h (partGood k m.col s o mv.n mv.rs ix) d x
structure MvOk (k:K) (g:G) (m:M) (mv:Mv) (d:D) (x:Value):Prop where
 cur:curR g mv.rs=true
 frm:frmOk k g m mv d x mv.frm
theorem boxTag_ok {g:G}:∀{ts:List Tag} {n:Nat} {rs:Rts},boxTag g ts=some (n,rs)→curR g rs=true∧
  ∀t∈ts,t= .sc∨∃n' rs',t= .own n' rs'∧curR g rs'=true∧n≤n'∧∀r∈rs',r∈rs:=by
 intro ts
 induction ts with
 |nil=>intro n rs h;simp[boxTag] at h;obtain ⟨rfl,rfl⟩:=h;exact ⟨rfl,by simp⟩
 |cons t ts ih=>
  intro n rs h
  cases t with
  |sc=>
   simp only[boxTag] at h
   obtain ⟨h1,h2⟩:=ih h
   refine ⟨h1,fun t ht=> ?_⟩
   rcases List.mem_cons.1 ht with rfl|ht
   ·exact .inl rfl
   ·exact h2 t ht
  |own n1 rs1=>
   simp only[boxTag] at h
   split at h
   ·rename_i hc
    rw[zC] at h
    obtain ⟨⟨n2,rs2⟩,h3,h4⟩:=h
    simp at h4
    obtain ⟨rfl,rfl⟩:=h4
    obtain ⟨h1,h2⟩:=ih h3
    refine ⟨curR_union hc h1,fun t ht=> ?_⟩
    rcases List.mem_cons.1 ht with rfl|ht
    ·exact .inr ⟨n1,rs1,rfl,hc,Nat.min_le_left _ _,fun r hr=>mem_unionR.2 (.inl hr)⟩
    ·rcases h2 t ht with h|⟨n',rs',a1,a2,a3,a4⟩
     ·exact .inl h
     ·exact .inr ⟨n',rs',a1,a2,zS (Nat.min_le_right _ _) a3,fun r hr=>mem_unionR.2 (.inr (a4 r hr))⟩
   ·cases h
  |_=>simp[boxTag] at h
theorem addN_ne {n:Nat}:addN n 1≠0:=by
 unfold addN
 split
 ·intro e;rename_i h;rw[e] at h;simp[DEEP] at h
 ·unfold DEEP;omega
theorem box_datum {k:K} {g:G} {m:M} (hr:Rel k g m) {b ty n:Nat} {ts:List Tag} {rs:Rts} (he:g.ent b= .box ty ts) (ht:boxTag g ts=some (n,rs)) (hp:m.σ b≠[]):
  O m.h (boxGood k m.col b (addN n 1) rs) (.pt [m.σ b]) (m.c b):=by
 have:=hr.ent b
 rw[he] at this
 rcases this with h|⟨blk,cs,h1,h2,h3,h4,h5,_,h6⟩
 ·exact absurd h hp
 ·rw[h1]
  obtain ⟨_,hb⟩:=boxTag_ok ht
  refine .pt h2 h3 (by simp at h4;omega) fun o d hd=> ?_
  have hlt:o<ts.length:=by
   rw[← h5]
   rcases zJ o (m.σ b).length with h'|h'
   ·exact h'
   ·rw[zG h'] at hd;cases hd
  have hlt2:o<cs.size:=by simp at h4;omega
  have hv:cs.toList[o]? =some (cs.getD (0+o) undef):=by
   simp[Array.getD,hlt2]
  have hc:=h6 o ts[o] d _ (zB hlt) hd hv
  rcases hb ts[o] (List.getElem_mem hlt) with h|⟨n',rs',a1,a2,a3,a4⟩
  ·rw[h] at hc
   exact hc.2.flat hc.1
  ·rw[a1] at hc
   refine (hc.2 a2).mono fun π b' hg=>⟨rfl,?_⟩
   unfold gd at hg
   split at hg
   ·exact .inl hg
   ·rename_i ho
    refine .inr ⟨?_,hg.mono a4⟩
    cases e:owns (addN n 1) (π.length+1) with
    |false=>rfl
    |true=>exact absurd (owns_le a3 (owns_add e)) ho
theorem mv_ok {k:K} {g:G} {m:M} (hr:Rel k g m) {c:Cel} {x:Value} (h:CelOk k g m c x) {mv:Mv} (hm:c.mv g=some mv) {d:D} (hd:mv.src.ev m.σ=some d):
  MvOk k g m mv d x:=by
 have hlen:∀{s:Nat} {ts:List Tag},entTags (g.ent s)=some ts→s<g.length:=fun h=>lt_of_ent fun e=>by rw[e] at h;cases h
 cases h with
 | @c s o ts d' x tag ht hto hd' hx _ hc=>
  unfold Cel.mv at hm
  cases tag with
  |dead=>simp at hm
  |sc=>
   simp at hm
   subst hm
   simp only[Src.ev] at hd
   rw[hd'] at hd
   simp at hd
   subst hd
   exact ⟨rfl, .inr fun h good=>hc.2.flat hc.1⟩
  |own n rs=>
   simp only[guardO_some] at hm
   obtain ⟨h1,h2,h3⟩:=hm
   simp at h2 h3
   subst h3
   simp only[Src.ev] at hd
   rw[hd'] at hd
   simp at hd
   subst hd
   by_cases hn:n=0
   ·subst hn
    refine ⟨h1, .inl ⟨rfl,(hc.2 h1).mono fun π b hb=> ?_⟩⟩
    unfold gd at hb
    simp only[owns_zero,Bool.false_eq_true,if_false] at hb
    exact hb
   ·refine ⟨h1,?_⟩
    simp only[hn,if_false]
    refine ⟨hlen ht,hn,?_⟩
    rw[if_neg h2]
    exact ⟨ts,n,rs,[],ht,hto,rfl,(hc.2 h1).mono fun π b hb=>hb⟩
  |loan s' o' v w=>
   simp only[guardO_some,zC] at hm
   obtain ⟨h1,⟨n,rs⟩,h2,h3⟩:=hm
   obtain ⟨d0,v0,ix,d1,g1,g2,g3,g4,g5,g6,g7⟩:=loan_ok hr hc h1 h2
   obtain ⟨hbox,ts',ht',hto',hcur⟩:=ownAt_ok h2
   by_cases he:w.isEmpty=true
   ·have hw:w=[]:=by simpa using he
    subst hw
    simp at h3
    subst h3
    have:=g6 (.c s' o') (by simp)
    rw[this] at hd
    simp at hd
    subst hd
    have hix:ix=[]:=by simpa using g4
    subst hix
    by_cases hn:n=0
    ·subst hn
     refine ⟨hcur, .inl ⟨rfl,g7.mono fun π b hb=> ?_⟩⟩
     unfold gd at hb
     simp only[owns_zero,Bool.false_eq_true,if_false] at hb
     exact hb
    ·refine ⟨hcur,?_⟩
     simp only[hn,if_false]
     refine ⟨hlen ht',hn,?_⟩
     rw[if_neg hbox]
     exact ⟨ts',n,rs,[],ht',hto',rfl,g7.mono fun π b hb=>hb⟩
   ·simp only[he,if_false,Bool.false_eq_true] at h3
    by_cases hown:owns n w.length=true
    ·simp only[hown,if_true] at h3
     subst h3
     have:=g6 (.p s' o' (wayW w)) (by simp[he])
     rw[this] at hd
     simp at hd
     subst hd
     refine ⟨hcur,hlen ht',?_,?_⟩
     ·show subN n w.length≠0
      unfold subN
      unfold owns at hown
      simp only[Bool.or_eq_true,decide_eq_true_eq] at hown
      split
      ·unfold DEEP at*;omega
      ·omega
     ·rw[if_neg hbox]
      refine ⟨ts',n,rs,ix,ht',hto',g3,g7.mono fun π b hb=> ?_⟩
      unfold gd at hb
      unfold partGood
      rw[owns_sub hown]
      rw[List.length_append,g4] at hb
      exact hb
    ·simp only[hown,if_false,Bool.false_eq_true] at h3
     subst h3
     have:=g6 (.p s' o' (wayW w)) (by simp[he])
     rw[this] at hd
     simp at hd
     subst hd
     refine ⟨hcur, .inl ⟨rfl,g7.mono fun π b hb=> ?_⟩⟩
     unfold gd at hb
     split at hb
     ·rename_i ho
      exact absurd (owns_mono ho (by rw[List.length_append,g4];omega)) hown
     ·exact hb
  |pre s' o' v=>
   simp only[guardO_some,zA,beq_iff_eq] at hm
   obtain ⟨h1,⟨n,rs⟩,h2,h3,h4⟩:=hm
   simp at h3 h4
   subst h4
   obtain ⟨hbox,ts',ht',hto',hcur⟩:=ownAt_ok h2
   simp only[Src.ev] at hd
   rw[hd'] at hd
   simp at hd
   subst hd
   obtain ⟨sz,rows,n',a,len,cap,e1,rfl,e3,rfl⟩:=hc h1
   refine ⟨hcur,hlen ht',h3,?_⟩
   rw[if_neg hbox]
   exact ⟨ts',n,rs,[],ht',hto',rfl,((root_own hr e1 h2).take e3).mono fun π b hb=>hb⟩
 | @cst d' x tag s o ht ho=>
  have:mv=⟨.cst d',DEEP,[],none⟩:=by
   unfold Cel.mv at hm
   rcases ht with ⟨rfl,_⟩|rfl
   ·simp at hm;exact hm.symm
   ·simp only[guardO_some] at hm;simp at hm;exact hm.2.symm
  subst this
  simp[Src.ev] at hd
  subst hd
  exact ⟨rfl, .inr fun h good=>ho h good⟩
 | @bx b ty n ts rs x he ht hx _=>
  unfold Cel.mv at hm
  simp only[guardO_some] at hm
  obtain ⟨h1,h2,h3⟩:=hm
  simp at h3
  subst h3
  simp only[Src.ev] at hd
  split at hd
  ·cases hd
  ·rename_i hne
   simp at hd
   subst hd
   have hp:m.σ b≠[]:=by intro e;rw[e] at hne;simp at hne
   refine ⟨h1,lt_of_ent fun e=>(by rw[he] at e;cases e),addN_ne,?_⟩
   rw[if_pos rfl,hx hp]
   exact ⟨rfl,box_datum hr he ht hp⟩
theorem cp_ok {k:K} {g:G} {m:M} (hr:Rel k g m) {c:Cel} {x:Value} (h:CelOk k g m c x) {mv:Mv} (hm:c.cp g=some mv) {d:D} (hd:mv.src.ev m.σ=some d):
  MvOk k g m mv d x∧mv.frm=none:=by
 unfold Cel.cp at hm
 rw[zC] at hm
 obtain ⟨⟨src,rs⟩,h1,rfl⟩:=hm
 obtain ⟨h2,h3⟩:=rd_ok hr h h1
 refine ⟨⟨h2,?_⟩,rfl⟩
 simp only at hd
 cases h with
 | @c s o ts d' x tag ht hto hd' hx _ hc=>
  cases tag with
  |sc=>
   simp[Cel.rd] at h1
   obtain ⟨rfl,rfl⟩:=h1
   simp only[Src.ev] at hd
   rw[hd'] at hd
   simp at hd
   subst hd
   exact .inr fun h good=>hc.2.flat hc.1
  |_=>exact .inl ⟨rfl,h3 d hd⟩
 | @cst d' x tag s o ht ho=>
  have:src= .cst d':=by
   unfold Cel.rd at h1
   rcases ht with ⟨rfl,_⟩|rfl
   ·simp at h1;exact h1.1.symm
   ·simp only[guardO_some] at h1;simp at h1;exact h1.2.1.symm
  subst this
  simp[Src.ev] at hd
  subst hd
  exact .inr fun h good=>ho h good
 |bx=>simp[Cel.rd,guardO] at h1
theorem deepOk_other {k:K} {m m':M} {s b:Nat} {rs:Rts} (hcol:∀b,(m.col b).own≠some s→m'.col b=m.col b) (hrs:∀r∈rs,r.1≠s)
  (h:deepOk k m.col rs b):deepOk k m'.col rs b:=by
 rcases h with ⟨h1,h2⟩|⟨r,hr,π,h1⟩
 ·exact .inl ⟨by rw[hcol b (by rw[h1];simp[Color.own]),h1],h2⟩
 ·exact .inr ⟨r,hr,π,by rw[hcol b (by rw[h1];simp[Color.own];exact hrs r hr),h1]⟩
theorem MvOk.turn {k:K} {g g':G} {m m':M} {mv:Mv} {d:D} {x:Value} {s:Nat} (h:MvOk k g m mv d x) (hh:m'.h=m.h)
  (hcol:∀b,(m.col b).own≠some s→m'.col b=m.col b) (hidx:∀s o w,mv.frm=some (s,o,w)→wayOf m'.σ w=wayOf m.σ w) (hat:∀x,x≠s→g'.at x=g.at x) (hlen:g'.length=g.length)
  (hrs:∀r∈mv.rs,r.1≠s)
  (hfrm:∀sj oj wj,mv.frm=some (sj,oj,wj)→sj≠s∨(oj≠BOX∧(∀ts,entTags (g.ent s)=some ts→∃ts',entTags (g'.ent s)=some ts'∧ts'[oj]? =ts[oj]?)∧
   ∀ixj,wayOf m.σ wj=some ixj→∀b π,m.col b= .arr s oj (ixj++π)→m'.col b=m.col b)):MvOk k g' m' mv d x:=by
 have hd:∀b,deepOk k m.col mv.rs b→deepOk k m'.col mv.rs b:=fun b=>deepOk_other hcol hrs
 refine ⟨?_,?_⟩
 ·rw[curR_iff]
  intro r hr
  have:=curR_iff.1 h.cur r hr
  unfold G.ver at*
  rw[hat r.1 (hrs r hr)]
  exact this
 ·have h2:=h.frm
  cases hf:mv.frm with
  |none=>
   rw[hf] at h2
   unfold frmOk at h2 ⊢
   rcases h2 with ⟨h3,h4⟩|h3
   ·exact .inl ⟨h3,by rw[hh];exact h4.mono fun _ b hb=>hd b hb⟩
   ·exact .inr h3
  |some p=>
   obtain ⟨sj,oj,wj⟩:=p
   rw[hf] at h2
   unfold frmOk at h2 ⊢
   obtain ⟨h3,h4,h5⟩:=h2
   refine ⟨by rw[hlen];exact h3,h4,?_⟩
   rcases hfrm sj oj wj hf with hs|⟨ho,ht,hc⟩
   ·by_cases ho:oj=BOX
    ·rw[if_pos ho] at h5 ⊢
     obtain ⟨h6,h7⟩:=h5
     refine ⟨h6,?_⟩
     rw[hh]
     refine h7.mono fun π b hb=> ?_
     unfold boxGood at hb ⊢
     split at hb
     ·rw[hcol b (by rw[hb];simp[Color.own];exact hs)];exact hb
     ·refine ⟨hb.1,hb.2.imp (fun h=> ?_) fun h=>⟨h.1,hd b h.2⟩⟩
      rw[hcol b (by rw[h];simp[Color.own];exact hs)];exact h
    ·rw[if_neg ho] at h5 ⊢
     obtain ⟨ts,n,rs,ix,h6,h7,h8,h9⟩:=h5
     refine ⟨ts,n,rs,ix,?_,h7,by rw[hidx _ _ _ hf,h8],?_⟩
     ·unfold G.ent at*;rw[hat sj hs];exact h6
     ·rw[hh]
      refine h9.mono fun π b hb=> ?_
      unfold partGood at hb ⊢
      by_cases e:owns mv.n π.length=true
      ·simp only[e,if_true] at hb ⊢
       rw[hcol b (by rw[hb];simp[Color.own];exact hs)];exact hb
      ·simp only[e,if_false,Bool.false_eq_true] at hb ⊢
       exact hd b hb
   ·rw[if_neg ho] at h5 ⊢
    obtain ⟨ts,n,rs,ix,h6,h7,h8,h9⟩:=h5
    by_cases hs:sj=s
    ·subst hs
     obtain ⟨ts',a1,a2⟩:=ht ts h6
     refine ⟨ts',n,rs,ix,a1,by rw[a2];exact h7,by rw[hidx _ _ _ hf,h8],?_⟩
     rw[hh]
     refine h9.mono fun π b hb=> ?_
     unfold partGood at hb ⊢
     by_cases e:owns mv.n π.length=true
     ·simp only[e,if_true] at hb ⊢
      rw[hc ix h8 b π hb];exact hb
     ·simp only[e,if_false,Bool.false_eq_true] at hb ⊢
      exact hd b hb
    ·refine ⟨ts,n,rs,ix,by unfold G.ent at*;rw[hat sj hs];exact h6,h7,by rw[hidx _ _ _ hf,h8],?_⟩
     rw[hh]
     refine h9.mono fun π b hb=> ?_
     unfold partGood at hb ⊢
     by_cases e:owns mv.n π.length=true
     ·simp only[e,if_true] at hb ⊢
      rw[hcol b (by rw[hb];simp[Color.own];exact hs)];exact hb
     ·simp only[e,if_false,Bool.false_eq_true] at hb ⊢
      exact hd b hb
theorem frmApart_spec {a b:Nat×Nat×List (Nat×Nat)} (h:frmApart a b=true):b.1≠a.1∨(a.2.1≠b.2.1∧a.2.1≠BOX∧b.2.1≠BOX)∨(a.2.1=b.2.1∧wayApart a.2.2 b.2.2=true):=by
 unfold frmApart at h
 simp only[Bool.or_eq_true,zD,bne_iff_ne,beq_iff_eq] at h
 rcases h with (h|h)|h
 ·exact .inl (Ne.symm h)
 ·exact .inr (.inl ⟨h.1.1,h.1.2,h.2⟩)
 ·exact .inr (.inr h)
theorem wayApart_ne {w w':List (Nat×Nat)} (h:wayApart w w'=true):w≠[]∧w'≠[]:=by
 cases w<;>cases w'<;>simp[wayApart] at h ⊢
theorem root_split' {g:G} {m:M} {s o:Nat} {d:D} {v:Value} (h:root g m s o=some (d,v)):(m.σ s)[o]? =some d∧(conc m.h (g.ent s) (m.c s)).bind (·[o]?)=some v:=by
 unfold root at h
 split at h
 ·rename_i e1 e2;simp at h;exact ⟨by rw[e1,h.1],by rw[e2,h.2]⟩
 ·cases h
def LocAt (g:G) (m:M) (s o:Nat) (ix:List (Nat×Nat)) (v0 x:Value):Prop:=∃d0 d1,root g m s o=some (d0,v0)∧loc m.h m.col s o [] d0 v0 ix=some (d1,x)
theorem loc_frame3 {h:Array Obj} {col col':Nat→Color} {s o:Nat}:∀(jx π:List (Nat×Nat)) {d d1:D} {v v1:Value},loc h col s o π d v jx=some (d1,v1)→
  (∀ρ b,π<+:ρ→okB col s o ρ b=true→okB col' s o ρ b=true)→loc h col' s o π d v jx=some (d1,v1):=by
 intro jx
 induction jx with
 |nil=>intro π d d1 v v1 hl _;rw[loc_nil] at hl ⊢;exact hl
 |cons p jx ih=>
  obtain ⟨i,q⟩:=p
  intro π d d1 v v1 hl hf
  unfold loc at hl
  split at hl
  ·simp_all
  ·rename_i π' sz rows a _ _ i' o' w heq
   simp at heq
   obtain ⟨⟨rfl,rfl⟩,rfl⟩:=heq
   split at hl
   ·rename_i hok
    split at hl
    ·rename_i d2 cs _ _ hc hb
     simp only[loc,hf _ _ (List.prefix_refl _) hok,if_true,hc,hb]
     exact ih _ hl fun ρ b hp=>hf ρ b ((List.prefix_append _ _).trans hp)
    ·cases hl
   ·cases hl
  ·cases hl
theorem loc_hole {h:Array Obj} {col col':Nat→Color} {s o:Nat} {f:D→Option D}:∀(ix π jx:List (Nat×Nat)) {d d' d1:D} {v v1:Value},loc h col s o π d v jx=some (d1,v1)→d.setAt ix f=some d'→
  (¬ ix<+:jx∨jx=ix)→(∀ρ b,¬ (π++ix)<+:ρ→okB col s o ρ b=true→okB col' s o ρ b=true)→∃d1',loc h col' s o π d' v jx=some (d1',v1):=by
 intro ix
 induction ix with
 |nil=>
  intro π jx d d' d1 v v1 hl hd hx hc
  rcases hx with hx|rfl
  ·exact absurd (List.nil_prefix) hx
  ·rw[loc_nil] at hl
   simp at hl
   exact ⟨d',by rw[loc_nil,hl.2]⟩
 |cons p ix ih=>
  obtain ⟨i,q⟩:=p
  intro π jx d d' d1 v v1 hl hd hx hc
  cases jx with
  |nil=>
   rw[loc_nil] at hl
   simp at hl
   exact ⟨d',by rw[loc_nil,hl.2]⟩
  |cons p2 jx=>
   obtain ⟨i2,q2⟩:=p2
   unfold loc at hl
   split at hl
   ·simp_all
   ·rename_i π' sz0 rows0 a _ _ i' o' w heq
    simp at heq
    obtain ⟨⟨rfl,rfl⟩,rfl⟩:=heq
    split at hl
    ·rename_i hok
     split at hl
     ·rename_i x cs0 ty0 fr0 hcell hb0
      have hok':=hc _ _ (fun hp=>by have:=hp.length_le;simp at this;omega) hok
      simp only[D.setAt] at hd
      split at hd
      ·rename_i row hr1
       split at hd
       ·rename_i y hr2
        split at hd
        ·rename_i y' hy'
         cases hd
         have hil:i<rows0.length:=(zE.1 hr1).1
         have hql:q<row.length:=(zE.1 hr2).1
         by_cases e:(i2,q2)=(i,q)
         ·cases e
          have hcy:x=y:=by simp[cellAt,hr1,hr2] at hcell;exact hcell.symm
          subst hcy
          have hc':cellAt (rows0.set i (row.set q y')) i q=some y':=by simp[cellAt,hil,hql]
          obtain ⟨d1',g1⟩:=ih _ _ hl hy' (by
           rcases hx with hx|hx
           ·exact .inl fun hp=>hx (by rw[List.cons_prefix_cons];exact ⟨rfl,hp⟩)
           ·simp at hx;exact .inr hx) fun ρ b hn=>hc ρ b (by simpa using hn)
          exact ⟨d1',by simp only[loc,hok',if_true,hc',hb0];exact g1⟩
         ·have hc':cellAt (rows0.set i (row.set q y')) i2 q2=some x:=by
           obtain ⟨row2,a1,a2⟩:=cellAt_lt hcell
           by_cases e2:i=i2
           ·subst e2
            rw[hr1] at a1
            cases a1
            have:q≠q2:=fun e3=>e (by rw[e3])
            simp[cellAt,hil,zN this,a2]
           ·simp[cellAt,zN e2,a1,a2]
          refine ⟨d1,?_⟩
          simp only[loc,hok',if_true,hc',hb0]
          refine loc_frame3 _ _ hl fun ρ b hp hok2=>hc ρ b (fun hp2=> ?_) hok2
          obtain ⟨t1,e1⟩:=hp
          obtain ⟨t2,e2⟩:=hp2
          rw[← e1] at e2
          simp at e2
          exact e (by rw[Prod.mk.injEq];exact ⟨e2.1.1.symm,e2.1.2.symm⟩)
        ·cases hd
       ·cases hd
      ·cases hd
     ·cases hl
    ·cases hl
   ·cases hl
theorem okB_recol {col:Nat→Color} {s o oj:Nat} {ix ρ:List (Nat×Nat)} {to:List (Nat×Nat)→Color} {b:Nat} (h:okB col s oj ρ b=true) (hn:oj≠o∨¬ ix<+:ρ):okB (Own.recol col s o ix to) s oj ρ b=true:=by
 unfold okB at h ⊢
 simp only[Bool.or_eq_true,decide_eq_true_eq] at h ⊢
 rcases h with h|h
 ·left
  rw[recol_ne fun π' hp e=> ?_]
  ·exact h
  ·rw[h] at e
   injection e with _ e1 e2
   rcases hn with hn|hn
   ·exact hn e1
   ·exact hn (e2 ▸ hp)
 ·right
  rw[recol_ne fun π' hp e=>by rw[h] at e;cases e]
  exact h
theorem frmApart_comm {a b:Nat×Nat×List (Nat×Nat)} (h:frmApart a b=true):frmApart b a=true:=by
 have way:∀(w w':List (Nat×Nat)),wayApart w w'=true→wayApart w' w=true:=by
  intro w
  induction w with
  |nil=>intro w' h;simp[wayApart] at h
  |cons p w ih=>
   intro w' h
   cases w' with
   |nil=>simp[wayApart] at h
   |cons p' w'=>
    simp only[wayApart,zD,Bool.or_eq_true,beq_iff_eq,bne_iff_ne] at h ⊢
    exact ⟨h.1.symm,h.2.imp Ne.symm (ih w')⟩
 unfold frmApart at*
 simp only[Bool.or_eq_true,zD,bne_iff_ne,beq_iff_eq] at*
 rcases h with (h|h)|h
 ·exact .inl (.inl (Ne.symm h))
 ·exact .inl (.inr ⟨⟨Ne.symm h.1.1,h.2⟩,h.1.2⟩)
 ·exact .inr ⟨h.1.symm,way _ _ h.2⟩
theorem LocAt.keep {k:K} {g g':G} {m m':M} {T:Nat→Prop} (hr:Rel k g m) (S:Step k g m g' m' T) {s o:Nat} {ix:List (Nat×Nat)} {v0 x:Value} (hs:¬ T s) (h:LocAt g m s o ix v0 x):LocAt g' m' s o ix v0 x:=by
 obtain ⟨d0,d1,h1,h2⟩:=h
 obtain ⟨ha,hp⟩:=S.rest s hs
 have he:g'.ent s=g.ent s:=by unfold G.ent;rw[ha]
 have hroot:root g' m' s o=root g m s o:=by
  unfold root
  rw[he,hp.σ,hp.c]
  have hE:=hr.ent s
  cases e:g.ent s<;>rw[e] at hE<;>try rfl
  rcases hE with hE|⟨b,cs,h1,h2,h3,h4⟩
  ·simp[hE]
  ·have:=(hp.blk b (by rw[h2];rfl)).1
   simp only[conc,boxCells,h1,this]
 exact ⟨d0,d1,by rw[hroot,h1],loc_frame ix [] h2 (fun b π hb=>⟨(hp.arr hb).1, .inl (hp.arr hb).2⟩) S.stays⟩
theorem kill_head {k:K} {g:G} {m:M} {env:Env} (hr:Rel k g m) {mv:Mv} {d:D} {x:Value} (h:MvOk k g m mv d x) {s o:Nat} {w:List (Nat×Nat)} (hf:mv.frm=some (s,o,w))
  (hrs:∀r∈mv.rs,r.1≠s) {v:Nat} (hv:PAR≤v) {σ':St} (hσ:match (generalizing:=false) w with| []=>σ'=m.σ|_=>(I.hole s o w).ev env m.σ=some σ'):
  ∃col' g',(g'=match w with| []=>killTag g s o|_=>g.elm s (g.ent s))∧Step k g m g' ⟨σ',m.c,m.h,col'⟩ (·=s)∧Held k ⟨σ',m.c,m.h,col'⟩ v mv.n mv.rs d x∧
   (∀b,(m.col b).own≠some s→col' b=m.col b)∧(∀r,idxOf σ' r=idxOf m.σ r)∧(∀x,x≠s→σ' x=m.σ x)∧
   (∀oj wj,frmApart (s,o,w) (s,oj,wj)=true→oj≠BOX∧(∀ts,entTags (g.ent s)=some ts→∃ts',entTags (g'.ent s)=some ts'∧ts'[oj]? =ts[oj]?)∧
    ∀ixj,wayOf m.σ wj=some ixj→∀b π,m.col b= .arr s oj (ixj++π)→col' b=m.col b)∧
   (o≠BOX→∀oj wj ixj,(frmApart (s,o,w) (s,oj,wj)=true∨(oj=o∧wj=w))→wayOf m.σ wj=some ixj→∀v0 x0,LocAt g m s oj ixj v0 x0→LocAt g' ⟨σ',m.c,m.h,col'⟩ s oj ixj v0 x0):=by
 have h2:=h.frm
 rw[hf] at h2
 unfold frmOk at h2
 obtain ⟨hs,hn,h2⟩:=h2
 split at h2
 ·rename_i ho
  subst ho
  obtain ⟨rfl,h3⟩:=h2
  simp only at hσ
  subst hσ
  refine ⟨recolBox m.col s v mv.n,_,rfl,Step.killBox hr hs hv mv.n,?_,fun b hb=>recolBox_own hb,fun _=>rfl,fun _ _=>rfl,fun oj wj hap=> ?_,fun e=>absurd rfl e⟩
  ·refine h3.mono fun π b hb=> ?_
   unfold gl
   unfold boxGood at hb
   split at hb
   ·have:owns mv.n 0=true:=by unfold owns;simp;omega
    simp only[List.length_nil,this,if_true]
    exact recolBox_box hb
   ·rename_i i o' π'
    obtain ⟨rfl,hb⟩:=hb
    have hlen:((0,o')::π').length=π'.length+1:=rfl
    rw[hlen]
    rcases hb with hb|⟨hb1,hb2⟩
    ·split
     ·rename_i ho
      show recolBox m.col s v mv.n b=_
      rw[recolBox_arr hb,if_pos ho]
     ·rename_i ho
      refine .inl ⟨?_, .inl (hr.mem.fresh b s (by rw[hb];rfl))⟩
      show recolBox m.col s v mv.n b=_
      rw[recolBox_arr hb,if_neg ho]
    ·simp only[hb1,Bool.false_eq_true,if_false]
     exact deepOk_other (m:=m) (m':=⟨m.σ,m.c,m.h,recolBox m.col s v mv.n⟩) (fun b hb=>recolBox_own hb) hrs hb2
  ·rcases frmApart_spec hap with h|h|h
   ·exact absurd rfl h
   ·exact absurd rfl h.2.1
   ·exact absurd rfl (wayApart_ne h.2).1
 ·rename_i ho
  obtain ⟨ts,n,rs,ix,ht,hto,hw,h3⟩:=h2
  cases w with
  |nil=>
   simp only at hσ
   subst hσ
   simp[wayOf] at hw
   subst hw
   refine ⟨Own.recol m.col s o [] (fun π=> .lim v π),_,rfl,Step.kill hr ho ht hv,?_,fun b hb=>recol_own hb,fun _=>rfl,fun _ _=>rfl,fun oj wj hap=> ?_,fun _ oj wj ixj hx hwj v0 x0 hloc=> ?_⟩
   ·refine h3.mono fun π b hb=> ?_
    unfold partGood at hb
    unfold gl
    split at hb
    ·rename_i hown
     simp only[hown,if_true]
     exact recol_eq hb
    ·rename_i hown
     simp only[hown,if_false,Bool.false_eq_true]
     exact deepOk_other (m:=m) (m':=⟨m.σ,m.c,m.h,Own.recol m.col s o [] (fun π=> .lim v π)⟩) (fun b hb=>recol_own hb) hrs hb
   ·rcases frmApart_spec hap with h|h|h
    ·exact absurd rfl h
    ·refine ⟨h.2.2,fun ts1 ht1=> ?_,fun ixj _ b π hb=>recol_ne fun π' _ e=> ?_⟩
     ·rw[ht] at ht1
      simp at ht1
      subst ht1
      refine ⟨ts.set o .dead,?_,zN h.1⟩
      show entTags ((killTag g s o).ent s)=_
      unfold killTag
      rw[if_neg ho,reTag_eq ht]
      have:=Turn.ent_self .elm (e:=(g.ent s).withTags (ts.set o .dead)) hs
      simp only[Turn.of] at this
      rw[this]
      cases e:g.ent s<;>rw[e] at ht<;>simp[entTags] at ht<;>rfl
     ·rw[hb] at e
      injection e with _ e
      exact h.1 e.symm
    ·exact absurd rfl (wayApart_ne h.2).1
   ·obtain ⟨d0,d1,a1,a2⟩:=hloc
    have e1:killTag g s o=Turn.elm.of g s ((g.ent s).withTags (ts.set o .dead)):=by
     unfold killTag
     rw[if_neg ho,reTag_eq ht]
     rfl
    refine ⟨d0,d1,by rw[e1,root_re .elm ht (o:=o) (σ':=m.σ) rfl];exact a1,?_⟩
    rcases hx with hx|⟨rfl,rfl⟩
    ·rcases frmApart_spec hx with h|h|h
     ·exact absurd rfl h
     ·exact loc_frame3 _ _ a2 fun ρ b _ hok=>okB_recol hok (.inl (Ne.symm h.1))
     ·exact absurd rfl (wayApart_ne h.2).1
    ·simp[wayOf] at hwj
     subst hwj
     rw[loc_nil] at a2 ⊢
     exact a2
  |cons p w=>
   simp only at hσ
   have hx:=hole_idx (by simp) hσ
   obtain ⟨ix',hw',hst⟩:=Step.hole hr ht hto hv (by simp) hσ
   rw[hw] at hw'
   simp at hw'
   subst hw'
   refine ⟨_,_,rfl,hst,?_,fun b hb=>recol_own hb,hx.1,hx.2.1,fun oj wj hap=> ?_,fun _ oj wj ixj hx' hwj v0 x0 hloc=> ?_⟩
   ·refine h3.mono fun π b hb=> ?_
    unfold partGood at hb
    unfold gl
    split at hb
    ·rename_i hown
     simp only[hown,if_true]
     exact recol_eq hb
    ·rename_i hown
     simp only[hown,if_false,Bool.false_eq_true]
     exact deepOk_other (m:=m) (m':=⟨σ',m.c,m.h,Own.recol m.col s o ix (fun π=> .lim v π)⟩) (fun b hb=>recol_own hb) hrs hb
   ·have hent:∀ts1,entTags (g.ent s)=some ts1→∃ts',entTags ((g.elm s (g.ent s)).ent s)=some ts'∧ts'[oj]? =ts1[oj]? :=by
     intro ts1 ht1
     have:=Turn.ent_self .elm (e:=g.ent s) hs
     simp only[Turn.of] at this
     exact ⟨ts1,by rw[this];exact ht1,rfl⟩
    rcases frmApart_spec hap with h|h|h
    ·exact absurd rfl h
    ·refine ⟨h.2.2,hent,fun ixj _ b π hb=>recol_ne fun π' _ e=> ?_⟩
     rw[hb] at e
     injection e with _ e
     exact h.1 e.symm
    ·refine ⟨fun e=>ho (h.1.trans e),hent,fun ixj hj b π hb=>recol_ne fun π' hp e=> ?_⟩
     rw[hb] at e
     injection e with _ _ e
     subst e
     exact wayApart_spec h.2 hw hj π hp
   ·obtain ⟨d0,d1,a1,a2⟩:=hloc
    obtain ⟨_,_,dh,dh',ixh,b1,b2,_,b4,b5,_⟩:=hx
    rw[hw] at b2
    cases b2
    have hself:(g.elm s (g.ent s))=Turn.elm.of g s ((g.ent s).withTags ts):=by rw[withTags_self ht];rfl
    obtain ⟨a3,a4⟩:=root_split' a1
    by_cases hoj:oj=o
    ·subst hoj
     rw[b1] at a3
     cases a3
     have hol:oj<(m.σ s).length:=(zE.1 b1).1
     have hcond:¬ ix<+:ixj∨ixj=ix:=by
      rcases hx' with hx'|⟨_,rfl⟩
      ·rcases frmApart_spec hx' with h|h|h
       ·exact absurd rfl h
       ·exact absurd rfl h.1
       ·exact .inl fun hp=>wayApart_spec h.2 hw hwj [] (by simpa using hp)
      ·rw[hw] at hwj;cases hwj;exact .inr rfl
     obtain ⟨d1',c1⟩:=loc_hole (col':=Own.recol m.col s oj ix (fun π=> .lim v π)) ix [] ixj a2 b4 hcond fun ρ b hn hok=>okB_recol hok (.inr (by simpa using hn))
     refine ⟨dh',d1',?_,c1⟩
     unfold root
     rw[hself,Turn.ent_self .elm hs,conc_withTags ht]
     simp only[b5,zO hol,a4]
    ·refine ⟨d0,d1,?_,loc_frame3 _ _ a2 fun ρ b _ hok=>okB_recol hok (.inl hoj)⟩
     unfold root
     rw[hself,Turn.ent_self .elm hs,conc_withTags ht]
     simp only[b5,zN (Ne.symm hoj),a3,a4]
theorem Step.of_mono {k:K} {g g':G} {m m':M} {T T':Nat→Prop} (hr:Rel k g m) (s:Step k g m g' m' T) (h:∀x,T x→T' x):Step k g m g' m' T':=s.mono hr h
theorem evIs_append {env:Env}:∀{a b:List I} {σ:St},evIs env (a++b) σ=(evIs env a σ).bind (evIs env b):=by
 intro a
 induction a with
 |nil=>intro b σ;rfl
 |cons i a ih=>
  intro b σ
  simp only[List.cons_append,evIs]
  cases i.ev env σ with
  |none=>rfl
  |some σ1=>simp only[Option.bind_some];exact ih
theorem kills_ok {k:K} {env:Env}:∀(ms:List Mv) (v:Nat) (g:G) (m:M) (ds:List D) (xs:List Value) (σ':St),Rel k g m→PAR≤v→
  (∀(i:Nat) (mv:Mv),ms[i]? =some mv→∃d x,ds[i]? =some d∧xs[i]? =some x∧MvOk k g m mv d x)→
  pairs frmApart (ms.filterMap (·.frm))=true→(∀mv∈ms,∀r∈mv.rs,r.1 ∉ leftSlots ms)→evIs env (liftHoles ms) m.σ=some σ'→
  ∃col',Step k g m (kills g ms) ⟨σ',m.c,m.h,col'⟩ (fun s=>s∈leftSlots ms)∧(∀s∈leftSlots ms,s<g.length)∧
   (∀(i:Nat) (mv:Mv) (d:D) (x:Value),ms[i]? =some mv→ds[i]? =some d→xs[i]? =some x→Held k ⟨σ',m.c,m.h,col'⟩ (v+i) mv.n mv.rs d x)∧
   (∀r,idxOf σ' r=idxOf m.σ r)∧(∀x,x ∉ leftSlots ms→σ' x=m.σ x)∧
   (∀s o w ix v0 x0,(∀q∈ms.filterMap (·.frm),frmApart q (s,o,w)=true∨q=(s,o,w))→o≠BOX→wayOf m.σ w=some ix→LocAt g m s o ix v0 x0→LocAt (kills g ms) ⟨σ',m.c,m.h,col'⟩ s o ix v0 x0):=by
 intro ms
 induction ms with
 |nil=>
  intro v g m ds xs σ' hr hv _ _ _ he
  simp[liftHoles,evIs] at he
  subst he
  refine ⟨m.col,?_,by simp[leftSlots],by simp,fun _=>rfl,fun _ _=>rfl,fun _ _ _ _ _ _ _ _ _ h=>h⟩
  exact (Step.refl hr).mono hr (by simp)
 |cons mv ms ih=>
  intro v g m ds xs σ' hr hv hms hap hrs he
  obtain ⟨d,x,hd,hx,hmv⟩:=hms 0 mv rfl
  cases ds with
  |nil=>simp at hd
  |cons d' ds=>
  cases xs with
  |nil=>simp at hx
  |cons x' xs=>
  simp at hd hx
  subst hd hx
  cases hf:mv.frm with
  |none=>
   have hl:leftSlots (mv::ms)=leftSlots ms:=by simp[leftSlots,hf]
   have hk:kills g (mv::ms)=kills g ms:=by simp[kills,hf]
   have hh:liftHoles (mv::ms)=liftHoles ms:=by simp[liftHoles,hf]
   rw[hh] at he
   rw[hl] at hrs
   obtain ⟨col',h1,h2,h3,h4,h5,h6'⟩:=ih (v+1) g m ds xs σ' hr (by omega) (fun i mv' hi=>hms (i+1) mv' (by simpa using hi)) (by simpa[hf] using hap)
    (fun mv' hm=>hrs mv' (by simp[hm])) he
   rw[hl,hk]
   refine ⟨col',h1,h2,fun i mv' d1 x1 hi hd hx=> ?_,h4,h5,fun s o w ix v0 x0 hq=>h6' s o w ix v0 x0 fun q hq'=>hq q (by simpa[hf] using hq')⟩
   cases i with
   |succ i=>
    have:=h3 i mv' d1 x1 (by simpa using hi) (by simpa using hd) (by simpa using hx)
    have e:v+1+i=v+(i+1):=by omega
    rwa [e] at this
   |zero=>
    simp at hi hd hx
    subst hi hd hx
    have hfr:=hmv.frm
    rw[hf] at hfr
    unfold frmOk at hfr
    rcases hfr with ⟨h6,h7⟩|h6
    ·have:Held k m (v+0) mv.n mv.rs _ _:=h7.mono fun π b hb=>by
      unfold gl
      rw[h6,owns_zero]
      simpa using hb
     refine this.step hr h1 (fun hc=> ?_) fun r hr'=> ?_
     ·have:=h2 _ hc
      have:=hr.small
      omega
     ·have:=(h1.rest r.1 (hrs mv (by simp) r hr')).1
      unfold G.ver
      rw[this]
    ·exact h6 _ _
  |some p=>
   obtain ⟨s,o,w⟩:=p
   have hl:leftSlots (mv::ms)=s::leftSlots ms:=by simp[leftSlots,hf]
   rw[hl] at hrs
   have hσ1:∃σ1,(match (generalizing:=false) w with| []=>σ1=m.σ|_=>(I.hole s o w).ev env m.σ=some σ1)∧evIs env (liftHoles ms) σ1=some σ':=by
    cases w with
    |nil=>
     have hh:liftHoles (mv::ms)=liftHoles ms:=by simp[liftHoles,hf]
     rw[hh] at he
     exact ⟨m.σ,rfl,he⟩
    |cons p w=>
     have hh:liftHoles (mv::ms)= .hole s o (p::w)::liftHoles ms:=by simp[liftHoles,hf]
     rw[hh] at he
     simp only[evIs,zA] at he
     exact he
   obtain ⟨σ1,hσ1,he⟩:=hσ1
   obtain ⟨col1,g1,hg1,hst,hheld,hcol,hidx,hσs,hapart,hlocs⟩:=kill_head hr hmv hf (fun r hr' e=>hrs mv (by simp) r hr' (by simp[e])) hv hσ1
   have hk:kills g (mv::ms)=kills g1 ms:=by
    rw[hg1]
    cases w<;>simp[kills,hf]
   have hr1:=hst.rel hr
   have hap2:(∀q∈ms.filterMap (·.frm),frmApart (s,o,w) q=true)∧pairs frmApart (ms.filterMap (·.frm))=true:=by
    simp only[List.filterMap_cons,hf,pairs,zD,zL] at hap
    exact hap
   obtain ⟨col',h1,h2,h3,h4,h5,h6'⟩:=ih (v+1) g1 ⟨σ1,m.c,m.h,col1⟩ ds xs σ' hr1 (by omega) (fun i mv' hi=>by
     obtain ⟨d1,x1,a1,a2,a3⟩:=hms (i+1) mv' (by simpa using hi)
     have hmem:mv'∈ms:=zF hi
     refine ⟨d1,x1,by simpa using a1,by simpa using a2,a3.turn (s:=s) rfl hcol (fun _ _ w _=>wayOf_idx hidx w) (fun x hx=>(hst.rest x hx).1) hst.len
      (fun r hr' e=>hrs mv' (by simp[hmem]) r hr' (by simp[e])) fun sj oj wj hfj=> ?_⟩
     by_cases hsj:sj=s
     ·subst hsj
      exact .inr (hapart oj wj (hap2.1 _ (List.mem_filterMap.2 ⟨mv',hmem,hfj⟩)))
     ·exact .inl hsj) hap2.2
    (fun mv' hm r hr' hc=>hrs mv' (by simp[hm]) r hr' (by simp[hc])) he
   rw[hl,hk]
   have hs:s<g.length:=by
    have:=hmv.frm
    rw[hf] at this
    exact this.1
   refine ⟨col',((hst.trans hr h1).mono hr fun x hx=> ?_),?_,fun i mv' d1 x1 hi hd hx=> ?_,fun r=>by rw[h4,hidx],fun x hx=> ?_,fun s' o' w' ix v0 x0 hq hbox hw hloc=> ?_⟩
   ·rcases hx with rfl|hx
    ·simp
    ·simp[hx]
   ·intro t ht
    rcases List.mem_cons.1 ht with rfl|ht
    ·exact hs
    ·rw[← hst.len];exact h2 t ht
   ·cases i with
    |succ i=>
     have:=h3 i mv' d1 x1 (by simpa using hi) (by simpa using hd) (by simpa using hx)
     have e:v+1+i=v+(i+1):=by omega
     rwa [e] at this
    |zero=>
     simp at hi hd hx
     subst hi hd hx
     refine hheld.step hr1 h1 (fun hc=> ?_) fun r hr'=> ?_
     ·have:=h2 _ hc
      have:=hr.small
      have:=hst.len
      omega
     ·have:=(h1.rest r.1 fun hc=>hrs mv (by simp) r hr' (by simp[hc])).1
      unfold G.ver
      rw[this]
   ·simp only[List.mem_cons,not_or] at hx
    rw[h5 x hx.2]
    exact hσs x hx.1
   ·refine h6' s' o' w' ix v0 x0 (fun q hq'=>hq q (by simp[hf];exact .inr (by simpa using hq'))) hbox (by rw[wayOf_idx hidx];exact hw) ?_
    by_cases hss:s'=s
    ·subst hss
     have h0:=hq (s',o,w) (by simp[hf])
     have hob:o≠BOX:=by
      rcases h0 with h0|h0
      ·rcases frmApart_spec h0 with h|h|h
       ·exact absurd rfl h
       ·exact h.2.1
       ·exact fun e=>hbox (h.1.symm.trans e)
      ·cases h0;exact hbox
     exact hlocs hob o' w' ix (h0.imp id (fun e=>by cases e;exact ⟨rfl,rfl⟩)) hw v0 x0 hloc
    ·exact hloc.keep hr hst hss
def dropCol (col:Nat→Color) (s:Nat):Nat→Color:=fun b=>if (col b).own=some s then .stable else col b
theorem dropCol_ne {col:Nat→Color} {s b:Nat} (h:(col b).own≠some s):dropCol col s b=col b:=by unfold dropCol;rw[if_neg h]
theorem Step.drop {k:K} {g:G} {m:M} (hr:Rel k g m) {s:Nat} (hs:s<g.length) {σ':St} (hσ:∀x,x≠s→σ' x=m.σ x):
  Step k g m (g.tch s .none) ⟨σ',m.c,m.h,dropCol m.col s⟩ (·=s):=by
 refine Step.ghost hr .tch hs hσ (fun b hb=>dropCol_ne hb) (hr.mem.turn rfl fun b=> ?_) ?_ ⟨trivial,trivial⟩
 ·by_cases h:(m.col b).own=some s
  ·exact .inr ⟨by rw[h];simp, .inl (by show dropCol m.col s b=_;unfold dropCol;rw[if_pos h])⟩
  ·exact .inl (dropCol_ne h)
 ·exact ⟨fun h=>absurd h (Turn.idv_self hs),fun h=>absurd h (Turn.hv_self (.inl rfl) hs),fun h=>absurd h (Turn.dv_self .tch (by simp) (by simp) hs),fun h=>absurd h (Turn.ver_self .tch (by simp) hs)⟩
theorem evs_get {σ:St}:∀{xs:List Src} {ds:List D},evs σ xs=some ds→ds.length=xs.length∧∀(i:Nat) (x:Src),xs[i]? =some x→∃d,ds[i]? =some d∧x.ev σ=some d:=by
 intro xs
 induction xs with
 |nil=>intro ds h;simp[evs] at h;subst h;simp
 |cons x xs ih=>
  intro ds h
  simp only[evs] at h
  split at h
  ·rename_i d l h1 h2
   simp at h
   subst h
   obtain ⟨h3,h4⟩:=ih h2
   refine ⟨by simp[h3],fun i y hy=> ?_⟩
   cases i with
   |zero=>simp at hy;subst hy;exact ⟨d,rfl,h1⟩
   |succ i=>exact h4 i y (by simpa using hy)
  ·cases h
theorem Src.ev_low {base:Nat} {σ σ':St} (h:∀x,x<base→σ' x=σ x):∀{x:Src},x.low base=true→x.ev σ'=x.ev σ:=by
 intro x hx
 cases x with
 |cst=>rfl
 |c s o=>simp[Src.low] at hx;simp only[Src.ev];rw[h s hx]
 |bx s=>simp[Src.low] at hx;simp only[Src.ev];rw[h s hx]
 |p s o w=>
  simp only[Src.low,zD,zL,decide_eq_true_eq] at hx
  simp only[Src.ev]
  rw[h s hx.1,wayOf_keep fun y hy=>h y.1 (hx.2 y hy)]
theorem sets_ok {k:K} {env:Env} {low:Nat}:∀(ms:List Mv) (base:Nat) (g:G) (m:M) (σ1:St),Rel k g m→low≤base→base+ms.length≤g.length→base+ms.length≤PAR→
  (∀mv∈ms,mv.src.low low=true)→evIs env (liftSets base ms) m.σ=some σ1→
  ∃col',Step k g m (forget base ms.length g) ⟨σ1,m.c,m.h,col'⟩ (fun s=>base≤s∧s<base+ms.length)∧(∀x,¬ (base≤x∧x<base+ms.length)→σ1 x=m.σ x)∧
   (∀(i:Nat) (mv:Mv),ms[i]? =some mv→∃d,mv.src.ev m.σ=some d∧σ1 (base+i)=[d])∧
   (∀(mv:Mv) (d:D) (x:Value),MvOk k g m mv d x→(∀r∈mv.rs,r.1<low∨PAR≤r.1)→(∀s o w,mv.frm=some (s,o,w)→s<low∧∀y∈w,y.1<low)→
    MvOk k (forget base ms.length g) ⟨σ1,m.c,m.h,col'⟩ mv d x):=by
 intro ms
 induction ms with
 |nil=>
  intro base g m σ1 hr _ _ _ _ he
  simp[liftSets,evIs] at he
  subst he
  exact ⟨m.col,(Step.refl hr).mono hr (by simp),fun _ _=>rfl,by simp,fun mv d x h _ _=>h⟩
 |cons mv ms ih=>
  intro base g m σ1 hr hlow hlen hpar hsrc he
  simp only[liftSets,evIs,zA] at he
  obtain ⟨σ0,h0,he⟩:=he
  simp only[I.ev,zA] at h0
  obtain ⟨l,h1,h2⟩:=h0
  have hl:∃d,l=[d]∧mv.src.ev m.σ=some d:=by
   simp only[evs] at h1
   split at h1
   ·rename_i d l' h3 h4
    simp at h4 h1
    subst h4
    exact ⟨d,h1.symm,h3⟩
   ·cases h1
  obtain ⟨d,rfl,hd⟩:=hl
  simp[flat] at h2
  subst h2
  have hσ0:∀x,x≠base→(m.σ.upd base [d]) x=m.σ x:=fun x hx=>by simp[St.upd,hx]
  have hb:base<g.length:=by simp at hlen;omega
  have hst:=Step.drop hr hb hσ0
  have hr1:=hst.rel hr
  have hmem:∀mv'∈ms,mv'.src.low low=true:=fun mv' h=>hsrc mv' (by simp[h])
  have hlen1:base+1+ms.length≤(g.tch base .none).length:=by rw[hst.len];simp at hlen;omega
  obtain ⟨col',h3,h4,h5,h6⟩:=ih (base+1) (g.tch base .none) ⟨m.σ.upd base [d],m.c,m.h,dropCol m.col base⟩ σ1 hr1 (by omega) hlen1 (by simp at hpar;omega) hmem he
  refine ⟨col',(hst.trans hr h3).mono hr fun x hx=> ?_,fun x hx=> ?_,fun i mv' hi=> ?_,fun mv' d' x' hmv hrs hfrm=> ?_⟩
  ·simp at hlen ⊢
   rcases hx with rfl|hx<;>omega
  ·simp at hx
   rw[h4 x (by omega)]
   exact hσ0 x (by omega)
  ·cases i with
   |zero=>
    simp at hi
    subst hi
    refine ⟨d,hd,?_⟩
    rw[h4 (base+0) (by omega)]
    simp[St.upd]
   |succ i=>
    obtain ⟨d',a1,a2⟩:=h5 i mv' (by simpa using hi)
    refine ⟨d',?_,by rw[← a2];congr 1;omega⟩
    rw[← a1]
    exact (Src.ev_low (base:=low) (fun x hx=>hσ0 x (by omega)) (hmem mv' (zF (by simpa using hi)))).symm
  ·refine h6 mv' d' x' ?_ hrs hfrm
   refine hmv.turn (s:=base) rfl (fun b hb=>dropCol_ne hb) (fun s o w hf=>wayOf_keep fun y hy=>hσ0 y.1 ?_) (fun x hx=>(hst.rest x hx).1) hst.len (fun r hr'=> ?_) fun sj oj wj hf=> .inl ?_
   ·have:=(hfrm s o w hf).2 y hy;omega
   ·rcases hrs r hr' with h|h
    ·omega
    ·simp at hpar;omega
   ·have:=(hfrm sj oj wj hf).1;omega
theorem liftHoles_noWays {ms:List Mv} (h:noWays ms=true):liftHoles ms=[]:=by
 induction ms with
 |nil=>rfl
 |cons m ms ih=>
  unfold noWays at h
  simp only[List.all_cons,zD] at h
  have:=ih (by unfold noWays;exact h.2)
  simp only[liftHoles]
  split
  ·rename_i e;rw[e] at h;simp at h
  ·exact this
theorem liftRegs_get:∀{ms:List Mv} {base i:Nat} {mv:Mv},ms[i]? =some mv→(liftRegs base ms)[i]? =some (.c (base+i) 0):=by
 intro ms
 induction ms with
 |nil=>intro base i mv h;simp at h
 |cons m ms ih=>
  intro base i mv h
  cases i with
  |zero=>rfl
  |succ i=>
   simp only[liftRegs,List.getElem?_cons_succ]
   rw[ih (by simpa using h)]
   have:base+1+i=base+(i+1):=by omega
   rw[this]
theorem liftRegs_len:∀{ms:List Mv} {base:Nat},(liftRegs base ms).length=ms.length:=by
 intro ms
 induction ms with
 |nil=>intro base;rfl
 |cons m ms ih=>intro base;simp[liftRegs,ih]
theorem mvsOk_spec {base:Nat} {ms:List Mv} (h:mvsOk base ms=true):pairs frmApart (ms.filterMap (·.frm))=true∧(∀mv∈ms,∀r∈mv.rs,r.1 ∉ leftSlots ms)∧
  (noWays ms=true∨(ms.length≤60∧∀mv∈ms,mv.src.low base=true∧(∀r∈mv.rs,r.1<base∨PAR≤r.1)∧∀s o w,mv.frm=some (s,o,w)→s<base∧∀y∈w,y.1<base)):=by
 unfold mvsOk at h
 simp only[zD,zL,Bool.not_eq_true',List.contains_eq_mem,decide_eq_false_iff_not,Bool.or_eq_true,decide_eq_true_eq] at h
 obtain ⟨⟨h1,h2⟩,h3⟩:=h
 refine ⟨h1,h2,h3.imp id fun ⟨h4,h5⟩=>⟨h4,fun mv hm=>⟨(h5 mv hm).1.1,(h5 mv hm).1.2,fun s o w hf=> ?_⟩⟩⟩
 have:=(h5 mv hm).2
 rw[hf] at this
 simpa using this
theorem lifts_ok2 {k:K} {env:Env} {g:G} {m:M} (hr:Rel k g m) {ms:List Mv} {xs:List Value} {base:Nat} (hb:base+60≤g.length)
  (hmv:∀(i:Nat) (mv:Mv),ms[i]? =some mv→∃x,xs[i]? =some x∧∀d,mv.src.ev m.σ=some d→MvOk k g m mv d x) (hok:mvsOk base ms=true)
  {σ1:St} (he:evIs env (lifts base ms).1 m.σ=some σ1) {ds:List D} (hd:evs σ1 (lifts base ms).2=some ds) {v:Nat} (hv:PAR≤v):
  ∃col',Step k g m (leaves base g ms) ⟨σ1,m.c,m.h,col'⟩ (fun s=>s∈leftSlots ms∨(base≤s∧s<base+60))∧ds.length=ms.length∧
   (∀(i:Nat) (mv:Mv) (d:D) (x:Value),ms[i]? =some mv→ds[i]? =some d→xs[i]? =some x→Held k ⟨σ1,m.c,m.h,col'⟩ (v+i) mv.n mv.rs d x∧mv.src.ev m.σ=some d)∧
   (∀x,¬ (base≤x∧x<base+60)→x ∉ leftSlots ms→σ1 x=m.σ x)∧(∀r,¬ (base≤r∧r<base+60)→idxOf σ1 r=idxOf m.σ r)∧(∀s∈leftSlots ms,s<g.length)∧
   (∀mv∈ms,∀r∈mv.rs,(leaves base g ms).ver r.1=g.ver r.1)∧
   (∀s o w ix v0 x0,s<base→(∀q∈ms.filterMap (·.frm),frmApart q (s,o,w)=true∨q=(s,o,w))→o≠BOX→(∀y∈w,y.1<base)→wayOf m.σ w=some ix→LocAt g m s o ix v0 x0→LocAt (leaves base g ms) ⟨σ1,m.c,m.h,col'⟩ s o ix v0 x0):=by
 obtain ⟨hap,hrs,hways⟩:=mvsOk_spec hok
 by_cases hn:noWays ms=true
 ·unfold lifts leaves at*
  simp only[hn,if_true] at he hd ⊢
  simp[evIs] at he
  subst he
  obtain ⟨hlen,hget⟩:=evs_get hd
  have hlen':ds.length=ms.length:=by rw[hlen];simp
  have hsrc:∀(i:Nat) (mv:Mv),ms[i]? =some mv→∃d,ds[i]? =some d∧mv.src.ev m.σ=some d:=fun i mv hi=>hget i mv.src (by rw[zK,hi];rfl)
  obtain ⟨col',h1,h2,h3,h4,h5,h6'⟩:=kills_ok (env:=env) ms v g m ds xs m.σ hr hv (fun i mv hi=>by
   obtain ⟨d,a1,a2⟩:=hsrc i mv hi
   obtain ⟨x,b1,b2⟩:=hmv i mv hi
   exact ⟨d,x,a1,b1,b2 d a2⟩) hap hrs (by rw[liftHoles_noWays hn];rfl)
  refine ⟨col',h1.mono hr fun x hx=> .inl hx,hlen',fun i mv d x hi hd hx=>⟨h3 i mv d x hi hd hx,?_⟩,fun x _ _=>rfl,fun r _=>rfl,h2,fun mv hm r hr'=> ?_,fun s o w ix v0 x0 _ hq hb _ hw hl=>h6' s o w ix v0 x0 hq hb hw hl⟩
  rotate_left
  ·have:=(h1.rest r.1 (hrs mv hm r hr')).1
   unfold G.ver
   rw[this]
  obtain ⟨d',a1,a2⟩:=hsrc i mv hi
  rw[a1] at hd
  simp at hd
  rw[a2,hd]
 ·obtain ⟨h60,hall⟩:=hways.resolve_left hn
  unfold lifts leaves at*
  simp only[hn,if_false,Bool.false_eq_true] at he hd ⊢
  rw[evIs_append,zA] at he
  obtain ⟨σ0,he0,he1⟩:=he
  have hpar:=hr.small
  obtain ⟨col0,h1,h2,h3,h4⟩:=sets_ok (low:=base) ms base g m σ0 hr (Nat.le_refl _) (by omega) (by omega) (fun mv h=>(hall mv h).1) he0
  have hr1:=h1.rel hr
  obtain ⟨hlen,hget⟩:=evs_get hd
  have hlen':ds.length=ms.length:=by rw[hlen,liftRegs_len]
  have hex:∃ds0:List D,ds0.length=ms.length∧∀(i:Nat) (mv:Mv),ms[i]? =some mv→∃d,ds0[i]? =some d∧mv.src.ev m.σ=some d∧σ0 (base+i)=[d]:=by
   refine ⟨ms.map fun mv=>(mv.src.ev m.σ).getD .dead,by simp,fun i mv hi=> ?_⟩
   obtain ⟨d,a1,a2⟩:=h3 i mv hi
   exact ⟨d,by simp[hi,a1],a1,a2⟩
  obtain ⟨ds0,hl0,hds0⟩:=hex
  obtain ⟨col',h5,h6,h7,h8,h9,h10'⟩:=kills_ok (env:=env) ms v (forget base ms.length g) ⟨σ0,m.c,m.h,col0⟩ ds0 xs σ1 hr1 hv (fun i mv hi=>by
   obtain ⟨d,a1,a2,_⟩:=hds0 i mv hi
   obtain ⟨x,b1,b2⟩:=hmv i mv hi
   have hm:=zF hi
   exact ⟨d,x,a1,b1,h4 mv d x (b2 d a2) (hall mv hm).2.1 (hall mv hm).2.2⟩) hap hrs he1
  have hlow:∀s∈leftSlots ms,s<base:=by
   intro s hs
   unfold leftSlots at hs
   rw[List.mem_filterMap] at hs
   obtain ⟨mv,hm,hf⟩:=hs
   rw[zC] at hf
   obtain ⟨⟨s',o,w⟩,hf,rfl⟩:=hf
   exact ((hall mv hm).2.2 s' o w hf).1
  have heq:∀(i:Nat) (mv:Mv) (d:D),ms[i]? =some mv→ds[i]? =some d→ds0[i]? =some d:=by
   intro i mv d hi hd'
   obtain ⟨d0,a1,a2,a3⟩:=hds0 i mv hi
   obtain ⟨d1,b1,b2⟩:=hget i _ (liftRegs_get hi)
   have hbi:σ1 (base+i)=[d0]:=by
    rw[h9 (base+i) fun hc=>by have:=hlow _ hc;omega]
    exact a3
   simp only[Src.ev,hbi] at b2
   simp at b2
   rw[b1] at hd'
   simp at hd'
   rw[a1,b2,hd']
  refine ⟨col',(h1.trans hr h5).mono hr fun x hx=> ?_,hlen',fun i mv d x hi hd' hx=>⟨h7 i mv d x hi (heq i mv d hi hd') hx,?_⟩,fun x hx hx'=> ?_,fun r hr'=> ?_,fun s hs=> ?_,fun mv hm r hr'=> ?_,fun s o w ix v0 x0 hs hq hb hwb hw hl=> ?_⟩
  ·rcases hx with hx|hx
   ·right;omega
   ·exact .inl hx
  ·obtain ⟨d0,a1,a2,a3⟩:=hds0 i mv hi
   rw[heq i mv d hi hd'] at a1
   simp at a1
   rw[a2,a1]
  ·rw[h9 x hx']
   exact h2 x (by omega)
  ·have e:idxOf σ0 r=idxOf m.σ r:=by unfold idxOf;rw[h2 r (by omega)]
   exact (h8 r).trans e
  ·have:=hlow s hs
   omega
  ·have a1:=(h5.rest r.1 (hrs mv hm r hr')).1
   have a2:=(h1.rest r.1 (by have:=(hall mv hm).2.1 r hr';omega)).1
   unfold G.ver
   rw[a1,a2]
  ·refine h10' s o w ix v0 x0 hq hb ?_ (hl.keep hr h1 (by omega))
   rw[← hw]
   exact wayOf_keep fun y hy=>h2 y.1 (by have:=hwb y hy;omega)
theorem lifts_ok {k:K} {env:Env} {g:G} {m:M} (hr:Rel k g m) {ms:List Mv} {xs:List Value} {base:Nat} (hb:base+60≤g.length)
  (hmv:∀(i:Nat) (mv:Mv),ms[i]? =some mv→∃x,xs[i]? =some x∧∀d,mv.src.ev m.σ=some d→MvOk k g m mv d x) (hok:mvsOk base ms=true)
  {σ1:St} (he:evIs env (lifts base ms).1 m.σ=some σ1) {ds:List D} (hd:evs σ1 (lifts base ms).2=some ds) {v:Nat} (hv:PAR≤v):
  ∃col',Step k g m (leaves base g ms) ⟨σ1,m.c,m.h,col'⟩ (fun s=>s∈leftSlots ms∨(base≤s∧s<base+60))∧ds.length=ms.length∧
   (∀(i:Nat) (mv:Mv) (d:D) (x:Value),ms[i]? =some mv→ds[i]? =some d→xs[i]? =some x→Held k ⟨σ1,m.c,m.h,col'⟩ (v+i) mv.n mv.rs d x∧mv.src.ev m.σ=some d)∧
   (∀x,¬ (base≤x∧x<base+60)→x ∉ leftSlots ms→σ1 x=m.σ x)∧(∀r,¬ (base≤r∧r<base+60)→idxOf σ1 r=idxOf m.σ r)∧(∀s∈leftSlots ms,s<g.length)∧
   (∀mv∈ms,∀r∈mv.rs,(leaves base g ms).ver r.1=g.ver r.1):=by
 obtain ⟨col',h1,h2,h3,h4,h5,h6,h7,_⟩:=lifts_ok2 hr hb hmv hok he hd hv
 exact ⟨col',h1,h2,h3,h4,h5,h6,h7⟩
theorem Step.lay {k:K} {g:G} {m m':M} (hr:Rel k g m) {dst:Nat} (hd:dst<g.length) {e:Ent} (hσ:∀x,x≠dst→m'.σ x=m.σ x) (hc:∀x,x≠dst→m'.c x=m.c x)
  (hmem:Mem k m') (hcol:∀b,b<m.h.size→(∀v,(m.col b).own=some v→v≠dst∧v<PAR)→m'.h[b]? =m.h[b]? ∧m'.col b=m.col b)
  (hent:EntWf (g.tch dst e) e∧EntOk k (g.tch dst e) m' dst e):Step k g m (g.tch dst e) m' (fun x=>x=dst∨PAR≤x):=by
 have hlt:∀b,m.col b≠ .free→b<m.h.size:=fun b hb=>by
  rcases zJ b m.h.size with h|h
  ·exact h
  ·exact absurd ((hr.mem.free b).1 h) hb
 have hnone:∀x,PAR≤x→g.ent x= .none:=fun x hx=>by
  have:=hr.small
  unfold G.ent;rw[at_out (by omega)]
 have hnone':∀x,PAR≤x→(g.tch dst e).ent x= .none:=fun x hx=>by
  have:=hr.small
  have h1:(g.tch dst e).ent x=g.ent x:=Turn.ent_ne .tch (by omega)
  rw[h1];exact hnone x hx
 refine ⟨Turn.older .tch g dst e,Turn.length .tch,fun b hb=> ?_,hmem,fun x hx=> ?_,fun x hx=> ?_,fun x hx=> ?_⟩
 ·have:=hcol b (hlt b (by rw[hb];simp)) (by rw[hb];simp[Color.own])
  exact ⟨this.1,this.2.trans hb⟩
 ·simp only[not_or] at hx
  refine ⟨Turn.at_ne .tch hx.1,hc x hx.1,hσ x hx.1,fun b hb=>hcol b (hlt b fun e=>by rw[e] at hb;simp[Color.own] at hb) fun v hv=> ?_⟩
  rw[hb] at hv
  simp at hv
  subst hv
  exact ⟨hx.1,by omega⟩
 ·rcases hx with rfl|hx
  ·exact ⟨fun h=>absurd h (Turn.idv_self hd),fun h=>absurd h (Turn.hv_self (.inl rfl) hd),fun h=>absurd h (Turn.dv_self .tch (by simp) (by simp) hd),fun h=>absurd h (Turn.ver_self .tch (by simp) hd)⟩
  ·have hne:x≠dst:=by have:=hr.small;omega
   have hroot:∀o,root g m x o=none:=fun o=>by
    unfold root
    rw[hnone x hx]
    simp[conc]
   have hroot':∀o,root (g.tch dst e) m' x o=none:=fun o=>by
    unfold root
    rw[hnone' x hx]
    simp[conc]
   refine ⟨fun _=>hc x hne,fun _ o d v h=>(by rw[hroot] at h;cases h),fun _ o d v ix d1 v1 h=>(by rw[hroot] at h;cases h),fun _=>⟨hσ x hne,fun o=>by rw[hroot,hroot'],fun b o π hb=> ?_⟩⟩
   have:=(hr.mem.arr b x o π hb).1
   omega
 ·rcases hx with rfl|hx
  ·have:=Turn.ent_self .tch (e:=e) hd
   simp only[Turn.of] at this
   rw[this];exact hent
  ·rw[hnone' x hx];exact ⟨trivial,trivial⟩
def laidCol (col:Nat→Color) (dst v n:Nat) (new:Nat→Color):Nat→Color:=fun b=>
 match col b with
 | .lim u π=>if v≤u∧u<v+n then .arr dst (u-v) π else .lim u π
 | .free=>new b
 |c=>if c.own=some dst then .stable else c
theorem laidCol_lim {col:Nat→Color} {dst v n b o:Nat} {π:List (Nat×Nat)} {new:Nat→Color} (h:col b= .lim (v+o) π) (ho:o<n):laidCol col dst v n new b= .arr dst o π:=by
 unfold laidCol
 rw[h]
 have:v≤v+o∧v+o<v+n:=by omega
 simp only[this,and_self,if_true]
 congr 1
 omega
theorem laidCol_free {col:Nat→Color} {dst v n b:Nat} {new:Nat→Color} (h:col b= .free):laidCol col dst v n new b=new b:=by
 unfold laidCol
 rw[h]
theorem laidCol_same {col:Nat→Color} {dst v n b:Nat} {new:Nat→Color} (h:col b≠ .free) (h1:(col b).own≠some dst) (h2:∀u π,col b= .lim u π→u<v):laidCol col dst v n new b=col b:=by
 unfold laidCol
 split
 ·rename_i u π e
  have:=h2 u π e
  have:¬ (v≤u∧u<v+n):=by omega
  simp only[this,if_false]
  exact e.symm
 ·rename_i e;exact absurd e h
 ·rw[if_neg h1]
theorem laidCol_dst {col:Nat→Color} {dst v n b:Nat} {new:Nat→Color} (h1:(col b).own=some dst) (h2:∀u π,col b≠ .lim u π):laidCol col dst v n new b= .stable:=by
 unfold laidCol
 split
 ·rename_i u π e;exact absurd e (h2 u π)
 ·rename_i e;rw[e] at h1;simp[Color.own] at h1
 ·rw[if_pos h1]
def LayOk (k:K) (g:G) (m:M) (v o:Nat) (d:D) (x:Value):Tag→Prop
 | .own n rs=>d.flat=false∧curR g rs=true∧Held k m (v+o) n rs d x
 |t=>CellOk k g m 0 0 d x t
structure NewOk (k:K) (m:M) (dst:Nat) (h':Array Obj) (new:Nat→Color):Prop where
 size:m.h.size≤h'.size
 old:∀b,b<m.h.size→h'[b]? =m.h[b]?
 free:∀b,h'.size≤b→new b= .free
 own:∀b,m.h.size≤b→b<h'.size→(new b= .stable∨new b= .mp dst∨((new b= .box dst∨∃o π,new b= .arr dst o π)∧∃cs ty,h'[b]? =some (.cells cs ty (0,0))))
theorem NewOk.none {k:K} {m:M} {dst:Nat}:NewOk k m dst m.h fun _=> .free:=
 ⟨Nat.le_refl _,fun _ _=>rfl,fun _ _=>rfl,fun b h1 h2=>absurd h2 (by omega)⟩
theorem laidCol_cases {col:Nat→Color} {dst v n b:Nat} {new:Nat→Color}:(col b= .free∧laidCol col dst v n new b=new b)∨
  (∃o π,col b= .lim (v+o) π∧o<n∧laidCol col dst v n new b= .arr dst o π)∨((col b).own≠none∧laidCol col dst v n new b= .stable)∨(col b≠ .free∧laidCol col dst v n new b=col b):=by
 cases e:col b with
 |free=>exact .inl ⟨rfl,laidCol_free e⟩
 |lim u π=>
  by_cases hu:v≤u∧u<v+n
  ·have e':col b= .lim (v+(u-v)) π:=by rw[e];congr 1;omega
   exact .inr (.inl ⟨u-v,π,by rw[← e,e'],by omega,laidCol_lim e' (by omega)⟩)
  ·refine .inr (.inr (.inr ⟨by simp,?_⟩))
   unfold laidCol
   rw[e]
   simp[hu]
 |_=>
  by_cases h:(col b).own=some dst
  ·exact .inr (.inr (.inl ⟨by rw[← e,h];simp,laidCol_dst h fun u π e'=>by rw[e] at e';cases e'⟩))
  ·exact .inr (.inr (.inr ⟨by simp,by rw[← e];exact laidCol_same (by rw[e];simp) h fun u π e'=>by rw[e] at e';cases e'⟩))
theorem Mem.laid {k:K} {m:M} (h:Mem k m) {dst v n:Nat} (hd:dst<PAR) {h':Array Obj} {new:Nat→Color} (hn:NewOk k m dst h' new) (σ':St) (c':Nat→Value):
  Mem k ⟨σ',c',h',laidCol m.col dst v n new⟩:=by
 have hk:∀b,m.h.size≤b→k.fresh b:=fun b hb e=>by
  have:=(h.kept b e).2
  rw[(h.free b).1 hb] at this
  cases this
 have hlt:∀b,m.col b≠ .free→b<m.h.size:=fun b hb=>by
  rcases zJ b m.h.size with h'|h'
  ·exact h'
  ·exact absurd ((h.free b).1 h') hb
 have cells:∀b,(∃s o π,laidCol m.col dst v n new b= .arr s o π)∨(∃s,laidCol m.col dst v n new b= .box s)∨(∃u π,laidCol m.col dst v n new b= .lim u π)→
   ∃cs ty,h'[b]? =some (.cells cs ty (0,0)):=by
  intro b hb
  rcases laidCol_cases (col:=m.col) (dst:=dst) (v:=v) (n:=n) (b:=b) (new:=new) with ⟨e1,e2⟩|⟨o,π,e1,_,e2⟩|⟨e1,e2⟩|⟨e1,e2⟩
  ·rw[e2] at hb
   rcases zJ b h'.size with hs|hs
   ·rcases hn.own b ((h.free b).2 e1) hs with e|e|⟨_,e⟩
    ·rw[e] at hb;simp at hb
    ·rw[e] at hb;simp at hb
    ·exact e
   ·rw[hn.free b hs] at hb;simp at hb
  ·rw[hn.old b (hlt b (by rw[e1];simp))]
   exact (h.lm b _ π e1).2
  ·rw[e2] at hb;simp at hb
  ·rw[e2] at hb
   rw[hn.old b (hlt b e1)]
   rcases hb with ⟨s,o,π,e⟩|⟨s,e⟩|⟨u,π,e⟩
   ·exact (h.arr b s o π e).2
   ·exact h.bx b s e
   ·exact (h.lm b u π e).2
 refine ⟨zS h.size hn.size,fun b=> ?_,fun b s hb=> ?_,fun b s o π hb=>⟨?_,cells b (.inl ⟨s,o,π,hb⟩)⟩,fun b u π hb=>⟨?_,cells b (.inr (.inr ⟨u,π,hb⟩))⟩,fun b s hb=>cells b (.inr (.inl ⟨s,hb⟩)),fun b hb=> ?_⟩
 ·show h'.size≤b↔laidCol m.col dst v n new b= .free
  rcases laidCol_cases (col:=m.col) (dst:=dst) (v:=v) (n:=n) (b:=b) (new:=new) with ⟨e1,e2⟩|⟨o,π,e1,_,e2⟩|⟨e1,e2⟩|⟨e1,e2⟩
  ·rw[e2]
   constructor
   ·exact hn.free b
   ·intro e
    rcases zJ b h'.size with hs|hs
    ·rcases hn.own b ((h.free b).2 e1) hs with e'|e'|⟨e'|⟨o,π,e'⟩,_⟩<;>(rw[e] at e';cases e')
    ·exact hs
  ·have:=hlt b (by rw[e1];simp)
   have:=hn.size
   rw[e2];simp;omega
  ·have:=hlt b (fun e=>by rw[e] at e1;exact e1 rfl)
   have:=hn.size
   rw[e2];simp;omega
  ·have:=hlt b e1
   have:=hn.size
   rw[e2];simp[e1];omega
 ·change (laidCol m.col dst v n new b).own=some s at hb
  rcases laidCol_cases (col:=m.col) (dst:=dst) (v:=v) (n:=n) (b:=b) (new:=new) with ⟨e1,e2⟩|⟨o,π,e1,_,e2⟩|⟨e1,e2⟩|⟨e1,e2⟩
  ·exact hk b ((h.free b).2 e1)
  ·exact h.fresh b (v+o) (by rw[e1];rfl)
  ·rw[e2] at hb;simp[Color.own] at hb
  ·rw[e2] at hb;exact h.fresh b s hb
 ·change laidCol m.col dst v n new b=_ at hb
  rcases laidCol_cases (col:=m.col) (dst:=dst) (v:=v) (n:=n) (b:=b) (new:=new) with ⟨e1,e2⟩|⟨o',π',e1,_,e2⟩|⟨e1,e2⟩|⟨e1,e2⟩
  ·rw[e2] at hb
   rcases zJ b h'.size with hs|hs
   ·rcases hn.own b ((h.free b).2 e1) hs with e|e|⟨e|⟨o',π',e⟩,_⟩
    ·rw[hb] at e;cases e
    ·rw[hb] at e;cases e
    ·rw[hb] at e;cases e
    ·rw[hb] at e;injection e with e;omega
   ·rw[hn.free b hs] at hb;cases hb
  ·rw[e2] at hb;injection hb with e;omega
  ·rw[e2] at hb;cases hb
  ·rw[e2] at hb;exact (h.arr b s o π hb).1
 ·change laidCol m.col dst v n new b=_ at hb
  rcases laidCol_cases (col:=m.col) (dst:=dst) (v:=v) (n:=n) (b:=b) (new:=new) with ⟨e1,e2⟩|⟨o',π',e1,_,e2⟩|⟨e1,e2⟩|⟨e1,e2⟩
  ·rw[e2] at hb
   rcases zJ b h'.size with hs|hs
   ·rcases hn.own b ((h.free b).2 e1) hs with e|e|⟨e|⟨o',π',e⟩,_⟩<;>(rw[hb] at e;cases e)
   ·rw[hn.free b hs] at hb;cases hb
  ·rw[e2] at hb;cases hb
  ·rw[e2] at hb;cases hb
  ·rw[e2] at hb;exact (h.lm b u π hb).1
 ·obtain ⟨h1,h2⟩:=h.kept b hb
  have hb':=hlt b (by rw[h2];simp)
  refine ⟨by show h'[b]? =_;rw[hn.old b hb',h1],?_⟩
  show laidCol m.col dst v n new b=_
  rw[laidCol_same (by rw[h2];simp) (by rw[h2];simp[Color.own]) (fun u π e=>by rw[h2] at e;cases e)]
  exact h2
section tch
variable {g:G} {dst:Nat} {e e':Ent}
theorem tch_vers (x:Nat):(g.tch dst e).ver x=(g.tch dst e').ver x∧(g.tch dst e).dv x=(g.tch dst e').dv x∧(g.tch dst e).hv x=(g.tch dst e').hv x∧(g.tch dst e).idv x=(g.tch dst e').idv x:=by
 rcases zJ dst g.length with hl|hl
 ·by_cases hx:x=dst
  ·subst hx
   unfold G.ver G.dv G.hv G.idv G.tch
   rw[at_set_self hl,at_set_self hl]
   exact ⟨rfl,rfl,rfl,rfl⟩
  ·have h1:(g.tch dst e).at x=g.at x:=Turn.at_ne .tch hx
   have h2:(g.tch dst e').at x=g.at x:=Turn.at_ne .tch hx
   unfold G.ver G.dv G.hv G.idv
   rw[h1,h2]
   exact ⟨rfl,rfl,rfl,rfl⟩
 ·have h1:g.tch dst e=g:=set_out hl
  have h2:g.tch dst e'=g:=set_out hl
  rw[h1,h2]
  exact ⟨rfl,rfl,rfl,rfl⟩
theorem tch_curR {rs:Rts}:curR (g.tch dst e) rs=curR (g.tch dst e') rs:=by
 unfold curR
 congr 1
 funext r
 rw[(tch_vers (e:=e) (e':=e') r.1).1]
theorem tch_curW {w:List (Nat×Nat×Nat)}:curW (g.tch dst e) w=curW (g.tch dst e') w:=by
 unfold curW
 congr 1
 funext r
 rw[(tch_vers (e:=e) (e':=e') r.1).1]
theorem tch_curL {s v:Nat} {w:List (Nat×Nat×Nat)}:curL (g.tch dst e) s v w=curL (g.tch dst e') s v w:=by
 unfold curL
 rw[tch_curW (e:=e) (e':=e'),(tch_vers (e:=e) (e':=e') s).2.1,(tch_vers (e:=e) (e':=e') s).2.2.1]
theorem tch_root (hd:dst<g.length) {m:M} {s o:Nat} {p:D×Value} (h:root (g.tch dst .none) m s o=some p):root (g.tch dst e) m s o=some p:=by
 by_cases hs:s=dst
 ·subst hs
  unfold root at h
  have:=Turn.ent_self .tch (e:= .none) hd
  simp only[Turn.of] at this
  rw[this] at h
  simp[conc] at h
 ·have h1:(g.tch dst e).ent s=g.ent s:=Turn.ent_ne .tch hs
  have h2:(g.tch dst Ent.none).ent s=g.ent s:=Turn.ent_ne .tch hs
  unfold root at h ⊢
  rw[h1,← h2]
  exact h
end tch
theorem CellOk.keepLoan {k:K} {g g':G} {m m':M} {s o s1 o1:Nat} {d:D} {v:Value} {t:Tag} (ho:Older g g') (hk:∀x,Keep g g' m m' x)
  (hw:TagWf g t) (ht:∀n rs,t≠ .own n rs) (h:CellOk k g m s o d v t):CellOk k g' m' s1 o1 d v t:=by
 cases t with
 |dead=>trivial
 |sc=>exact ⟨h.1,h.2.flat h.1⟩
 |own n rs=>exact absurd rfl (ht n rs)
 |loan s' o' v' w=>
  intro hc
  obtain ⟨c1,c2,c3⟩:=curL_back ho hw hc
  obtain ⟨d0,v0,ix,d1,h1,h2,h3,hfl⟩:=h c1
  obtain ⟨d0',d1',h4,h5,h6,hk'⟩:=loc_keep hk c2 c3 h1 h2 h3 hfl
  exact ⟨d0',v0,ix,d1',h4,h5,h6,hk'.flat⟩
 |pre s' o' v'=>
  intro hc
  have hc':g.ver s'=v':=by have:=ho.ver s';simp only[TagWf] at hw;omega
  obtain ⟨sz,rows,n,a,len,cap,h1,h2,h3,h4⟩:=h hc'
  have hvr:=(hk s').vr (by omega)
  exact ⟨sz,rows,n,a,len,cap,by rw[hvr.2.1,h1],h2,h3,h4⟩
theorem frzTag_wf {g:G} {dst:Nat} {t:Tag} (h:TagWf g t):TagWf g (frzTag dst t):=by
 cases t with
 |own n rs=>intro r hr;simp at hr;exact h r hr.1
 |_=>exact h
def updC (c:Nat→Value) (dst:Nat) (v:Value):Nat→Value:=fun x=>if x=dst then v else c x
theorem lay_cells {k:K} {g:G} {m:M} (hr:Rel k g m) {dst v:Nat} (hv:PAR≤v) (hd:dst<g.length) {ts:List Tag} {ds:List D} {vs:List Value} {cv:Value} (hlen:ds.length=ts.length) (hlen2:vs.length=ts.length)
  (hone:∀v∈vs,v.oneCell'=true) (hL:∀(o:Nat) (t:Tag) (d:D) (x:Value),ts[o]? =some t→ds[o]? =some d→vs[o]? =some x→LayOk k g m v o d x t) (hwf:∀t∈ts,TagWf g t)
  {h':Array Obj} {new:Nat→Color} (hn:NewOk k m dst h' new) (e:Ent):
  CellsOk k (g.tch dst e) ⟨m.σ.upd dst ds,updC m.c dst cv,h',laidCol m.col dst v ts.length new⟩ dst (ts.map (frzTag dst)) vs:=by
 have hpar:dst<PAR:=Nat.lt_of_lt_of_le hd hr.small
 have hmem:=hr.mem.laid (v:=v) (n:=ts.length) hpar hn (m.σ.upd dst ds) (updC m.c dst cv)
 have hlt:∀b,m.col b≠ .free→b<m.h.size:=fun b hb=>by
  rcases zJ b m.h.size with h'|h'
  ·exact h'
  ·exact absurd ((hr.mem.free b).1 h') hb
 have S0:Step k g m (g.tch dst .none) ⟨m.σ.upd dst ds,updC m.c dst cv,h',laidCol m.col dst v ts.length new⟩ (fun x=>x=dst∨PAR≤x):=by
  refine Step.lay hr hd (fun x hx=>by simp[St.upd,hx]) (fun x hx=>by simp[updC,hx]) hmem (fun b hb hown=>⟨hn.old b hb,?_⟩) ⟨trivial,trivial⟩
  refine laidCol_same (fun e=> ?_) (fun e=>(hown dst e).1 rfl) fun u π e=> ?_
  ·have:=(hr.mem.free b).2 e;omega
  ·have:=(hown u (by rw[e];rfl)).2;omega
 have hk:=S0.keeps hr
 refine ⟨by simp[hlen2],by simp[St.upd,hlen],hone,fun o t d x h1 h2 h3=> ?_⟩
 rw[zK] at h1
 cases h4:ts[o]? with
 |none=>simp[h4] at h1
 |some t0=>
  simp[h4] at h1
  subst h1
  simp[St.upd] at h2
  have hL':=hL o t0 d x h4 h2 h3
  have hw:=hwf t0 (zF h4)
  have other:∀t,(∀n rs,t≠ .own n rs)→CellOk k g m 0 0 d x t→TagWf g t→CellOk k (g.tch dst e) ⟨m.σ.upd dst ds,updC m.c dst cv,h',laidCol m.col dst v ts.length new⟩ dst o d x t:=by
   intro t ht hc hw
   have:=CellOk.keepLoan (s1:=dst) (o1:=o) S0.older hk hw ht hc
   cases t with
   |dead=>trivial
   |sc=>exact this
   |own n rs=>exact absurd rfl (ht n rs)
   |loan s' o' v' w=>
    intro hcur
    rw[tch_curL (e:=e) (e':= .none)] at hcur
    obtain ⟨d0,v0,ix,d1,a1,a2,a3⟩:=this hcur
    exact ⟨d0,v0,ix,d1,tch_root hd a1,a2,a3⟩
   |pre s' o' v'=>
    intro hcur
    rw[(tch_vers (e:=e) (e':= .none) s').1] at hcur
    obtain ⟨sz,rows,n,a,len,cap,a1,a2⟩:=this hcur
    exact ⟨sz,rows,n,a,len,cap,tch_root hd a1,a2⟩
  cases t0 with
  |own n rs=>
   obtain ⟨hfl,hcur,hh⟩:=hL'
   refine ⟨hfl,fun _=> ?_⟩
   refine O.frame hh fun π b hb=> ?_
   have hlt':o<ts.length:=by
    rcases zJ o ts.length with h'|h'
    ·exact h'
    ·rw[zG h'] at h4;cases h4
   unfold gl at hb
   unfold gd
   by_cases ho:owns n π.length=true
   ·simp only[ho,if_true] at hb ⊢
    exact ⟨hn.old b (hlt b (by rw[hb];simp)),laidCol_lim hb hlt'⟩
   ·simp only[ho,if_false,Bool.false_eq_true] at hb ⊢
    rcases hb with ⟨hc,hf⟩|⟨r,hr',π',hc⟩
    ·refine ⟨hn.old b (hlt b (by rw[hc];simp)), .inl ⟨?_,?_⟩⟩
     ·show laidCol m.col dst v ts.length new b=_
      rw[laidCol_same (by rw[hc];simp) (by rw[hc];simp[Color.own]) (fun u π e=>by rw[hc] at e;cases e)]
      exact hc
     ·rcases hf with hf|⟨r,hr',j,hj,hs⟩
      ·exact .inl hf
      ·refine .inr ⟨r,?_,j,hj,hs⟩
       simp only[List.mem_filter,bne_iff_ne]
       exact ⟨hr',by omega⟩
    ·refine ⟨hn.old b (hlt b (by rw[hc];simp)),?_⟩
     by_cases hrd:r.1=dst
     ·refine .inl ⟨?_, .inl (hr.mem.fresh b r.1 (by rw[hc];rfl))⟩
      exact laidCol_dst (by rw[hc,← hrd];rfl) fun u π e=>by rw[hc] at e;cases e
     ·refine .inr ⟨r,?_,π',?_⟩
      ·simp only[List.mem_filter,bne_iff_ne]
       exact ⟨hr',hrd⟩
      ·show laidCol m.col dst v ts.length new b=_
       rw[laidCol_same (by rw[hc];simp) (by rw[hc];simp[Color.own];exact hrd) (fun u π e=>by rw[hc] at e;cases e)]
       exact hc
  |dead=>exact other .dead (by simp) hL' hw
  |sc=>exact other .sc (by simp) hL' hw
  |loan s' o' v' w=>exact other (.loan s' o' v' w) (fun _ _ e=>by cases e) hL' hw
  |pre s' o' v'=>exact other (.pre s' o' v') (fun _ _ e=>by cases e) hL' hw
theorem lay_step {k:K} {g:G} {m:M} (hr:Rel k g m) {dst v:Nat} (hv:PAR≤v) (hd:dst<g.length) {ts:List Tag} {ds:List D} {vs:List Value} {cv:Value} (hlen:ds.length=ts.length) (hlen2:vs.length=ts.length)
  (hone:∀v∈vs,v.oneCell'=true) (hL:∀(o:Nat) (t:Tag) (d:D) (x:Value),ts[o]? =some t→ds[o]? =some d→vs[o]? =some x→LayOk k g m v o d x t) (hwf:∀t∈ts,TagWf g t)
  {h':Array Obj} {new:Nat→Color} (hn:NewOk k m dst h' new) (e:Ent) (he:entTags e=some (ts.map (frzTag dst)))
  (hent:CellsOk k (g.tch dst e) ⟨m.σ.upd dst ds,updC m.c dst cv,h',laidCol m.col dst v ts.length new⟩ dst (ts.map (frzTag dst)) vs→
   EntOk k (g.tch dst e) ⟨m.σ.upd dst ds,updC m.c dst cv,h',laidCol m.col dst v ts.length new⟩ dst e):
  Step k g m (g.tch dst e) ⟨m.σ.upd dst ds,updC m.c dst cv,h',laidCol m.col dst v ts.length new⟩ (fun x=>x=dst∨PAR≤x):=by
 have hpar:dst<PAR:=Nat.lt_of_lt_of_le hd hr.small
 refine Step.lay hr hd (fun x hx=>by simp[St.upd,hx]) (fun x hx=>by simp[updC,hx]) (hr.mem.laid hpar hn _ _) (fun b hb hown=>⟨hn.old b hb,?_⟩)
  ⟨?_,hent (lay_cells hr hv hd hlen hlen2 hone hL hwf hn e)⟩
 ·refine laidCol_same (fun e=> ?_) (fun e=>(hown dst e).1 rfl) fun u π e=> ?_
  ·have:=(hr.mem.free b).2 e;omega
  ·have:=(hown u (by rw[e];rfl)).2;omega
 ·have key:∀t∈ts.map (frzTag dst),TagWf (g.tch dst e) t:=fun t ht=>by
   rw[List.mem_map] at ht
   obtain ⟨t0,h1,rfl⟩:=ht
   exact frzTag_wf ((hwf t0 h1).older (Turn.older .tch g dst e))
  cases e<;>simp[entTags] at he<;>subst he<;>exact key
theorem deadMv_ok {k:K} {g:G} {m:M} {x:Value} {d:D} (h1:x.oneCell'=true) (hd:deadMv.src.ev m.σ=some d):MvOk k g m deadMv d x:=by
 simp[deadMv,Src.ev] at hd
 subst hd
 exact ⟨rfl, .inr fun _ _=> .dead h1⟩
theorem CelOk.tagWf {k:K} {g:G} {m:M} (hr:Rel k g m) {c:Cel} {x:Value} (h:CelOk k g m c x):TagWf g c.tag:=by
 cases h with
 |c ht hto hd hx hc=>exact entTags_mem hr ht _ (zF hto)
 |cst ht ho=>
  rcases ht with ⟨rfl,_⟩|rfl
  ·trivial
  ·intro r hr;cases hr
 |bx he ht hx=>
  obtain ⟨h1,_⟩:=boxTag_ok ht
  intro r hr
  exact Nat.le_of_eq (curR_iff.1 h1 r hr).symm
theorem CelOk.loan {k:K} {g:G} {m:M} {c:Cel} {x:Value} (h:CelOk k g m c x) (ht:∀n rs,c.tag≠ .own n rs) (hs:isScT c.tag=false) {d:D}
  (hd:(∃s o v,c.tag= .pre s o v)→c.src.ev m.σ=some d):CellOk k g m 0 0 d x c.tag:=by
 cases h with
 | @c s o ts d' x tag ht' hto hd' hx _ hc=>
  cases tag with
  |dead=>trivial
  |sc=>simp[isScT] at hs
  |own n rs=>exact absurd rfl (ht n rs)
  |loan=>exact hc
  |pre s' o' v=>
   have:=hd ⟨s',o',v,rfl⟩
   simp only[Src.ev] at this
   rw[hd'] at this
   simp at this
   subst this
   exact hc
 |cst ht' ho=>
  rcases ht' with ⟨rfl,_⟩|rfl
  ·simp[isScT] at hs
  ·exact absurd rfl (ht _ _)
 |bx=>exact absurd rfl (ht _ _)
theorem mv_own {k:K} {g:G} {m:M} {c:Cel} {x:Value} (h:CelOk k g m c x) {n:Nat} {rs:Rts} (ht:c.tag= .own n rs) {mv:Mv} (hm:c.mv g=some mv):mv.n=n∧mv.rs=rs:=by
 unfold Cel.mv at hm
 rw[ht] at hm
 simp only[guardO_some] at hm
 obtain ⟨_,hm⟩:=hm
 cases h with
 |c=>simp only[guardO_some] at hm;obtain ⟨_,hm⟩:=hm;simp at hm;subst hm;exact ⟨rfl,rfl⟩
 |cst ht' ho=>
  simp at ht
  subst ht
  rcases ht' with ⟨h,_⟩|h
  ·cases h
  ·injection h with h1 h2;subst h1 h2;simp at hm;subst hm;exact ⟨rfl,rfl⟩
 |bx=>simp only[guardO_some] at hm;obtain ⟨_,hm⟩:=hm;simp at hm;subst hm;exact ⟨rfl,rfl⟩
theorem carry_ok {k:K} {g:G} {m:M} (hr:Rel k g m) {c:Cel} {x:Value} (h:CelOk k g m c x) {ml:List Nat} {lo:Bool} {t:Tag} {mv:Mv} (hc:carry g ml lo c=some (t,mv)):
  (∀d,mv.src.ev m.σ=some d→MvOk k g m mv d x)∧TagWf g t∧
   ∀(g1:G) (m1:M) (T:Nat→Prop) (v o:Nat) (d:D),Step k g m g1 m1 T→mv.src.ev m.σ=some d→curR g1 mv.rs=true→Held k m1 (v+o) mv.n mv.rs d x→(isScT t=false→d.flat=false)→LayOk k g1 m1 v o d x t:=by
 unfold carry at hc
 have dead:t= .dead→mv=deadMv→(∀d,mv.src.ev m.σ=some d→MvOk k g m mv d x)∧TagWf g t∧
   ∀(g1:G) (m1:M) (T:Nat→Prop) (v o:Nat) (d:D),Step k g m g1 m1 T→mv.src.ev m.σ=some d→curR g1 mv.rs=true→Held k m1 (v+o) mv.n mv.rs d x→(isScT t=false→d.flat=false)→LayOk k g1 m1 v o d x t:=by
  rintro rfl rfl
  exact ⟨fun d hd=>deadMv_ok h.one hd,trivial,fun _ _ _ _ _ _ _ _ _ _ _=>trivial⟩
 have own:∀n rs,t= .own n rs→mv.n=n→mv.rs=rs→(∀d,mv.src.ev m.σ=some d→MvOk k g m mv d x)→WfR g rs→(∀d,mv.src.ev m.σ=some d→MvOk k g m mv d x)∧TagWf g t∧
   ∀(g1:G) (m1:M) (T:Nat→Prop) (v o:Nat) (d:D),Step k g m g1 m1 T→mv.src.ev m.σ=some d→curR g1 mv.rs=true→Held k m1 (v+o) mv.n mv.rs d x→(isScT t=false→d.flat=false)→LayOk k g1 m1 v o d x t:=by
  rintro n rs rfl rfl rfl h1 h2
  exact ⟨h1,h2,fun _ _ _ _ _ _ _ _ hc hh hfl=>⟨hfl rfl,hc,hh⟩⟩
 split at hc
 ·simp at hc;exact dead hc.1.symm hc.2.symm
 ·rename_i ht
  simp at hc
  obtain ⟨rfl,rfl⟩:=hc
  refine ⟨fun d hd=>⟨rfl, .inr fun h' good=>(sc_ok h (by rw[ht];rfl) hd).2 h' good⟩,trivial,fun g1 m1 T v o d hS hd _ _ _=> ?_⟩
  obtain ⟨h1,h2⟩:=sc_ok h (by rw[ht];rfl) hd
  exact ⟨h1,h2 _ _⟩
 ·rename_i n rs ht
  split at hc
  ·simp at hc;exact dead hc.1.symm hc.2.symm
  ·rename_i hcur
   have hmv:∀{mv':Mv},c.mv g=some mv'→t= .own n rs→mv=mv'→_:=fun {mv'} hm e1 e2=>by
    subst e2
    obtain ⟨a1,a2⟩:=mv_own h ht hm
    exact own n rs e1 a1 a2 (fun d hd=>mv_ok hr h hm hd) (by have:=h.tagWf hr;rw[ht] at this;exact this)
   split at hc
   ·rename_i s o hsrc
    split at hc
    ·rename_i hlo
     simp at hc
     obtain ⟨rfl,rfl⟩:=hc
     refine ⟨fun d hd=>deadMv_ok h.one hd,⟨by simp,by intro r hr;cases hr⟩,fun g1 m1 T v o' d hS hd _ _ _=> ?_⟩
     have hw:TagWf g (.loan s o (g.hv s) []):=⟨by simp,by intro r hr;cases hr⟩
     refine CellOk.keepLoan (k:=k) (s:=0) (o:=0) (s1:=0) (o1:=0) (d:=d) hS.older (hS.keeps hr) hw (fun _ _ e=>by cases e) (fun _=> ?_)
     cases h with
     | @c s o ts d' x tag ht' hto hd' hx _ hc'=>
      simp at hsrc
      obtain ⟨rfl,rfl⟩:=hsrc
      simp only at ht
      subst ht
      exact ⟨d',x,[],d',by unfold root;rw[hd',hx],rfl,loc_nil _ _ _,hc'.1⟩
     |cst=>simp at hsrc
     |bx=>simp at hsrc
    ·rw[zC] at hc
     obtain ⟨mv',hm,hc⟩:=hc
     simp at hc
     exact hmv hm hc.1.symm hc.2.symm
   ·rw[zC] at hc
    obtain ⟨mv',hm,hc⟩:=hc
    simp at hc
    exact hmv hm hc.1.symm hc.2.symm
 ·rename_i s o v w ht
  split at hc
  ·rw[zC] at hc
   obtain ⟨mv',hm,hc⟩:=hc
   simp at hc
   obtain ⟨e1,e2⟩:=hc
   subst e2
   have hwf:WfR g mv'.rs:=by
    unfold Cel.mv at hm
    rw[ht] at hm
    simp only[guardO_some,zC] at hm
    obtain ⟨_,⟨n,rs⟩,h2,h3⟩:=hm
    obtain ⟨_,_,_,_,hcur⟩:=ownAt_ok h2
    have:mv'.rs=rs:=by
     rw[← h3]
     split
     ·rfl
     ·split<;>rfl
    rw[this]
    intro r hr
    exact Nat.le_of_eq (curR_iff.1 hcur r hr).symm
   exact own _ _ e1.symm rfl rfl (fun d hd=>mv_ok hr h hm hd) hwf
  ·simp at hc
   obtain ⟨rfl,rfl⟩:=hc
   have hw:=h.tagWf hr
   rw[ht] at hw
   refine ⟨fun d hd=>deadMv_ok h.one hd,hw,fun g1 m1 T v' o' d hS hd _ _ _=> ?_⟩
   have:=h.loan (by rw[ht];intro n rs e;cases e) (by rw[ht];rfl) (d:=d) (by rw[ht];rintro ⟨_,_,_,e⟩;cases e)
   rw[ht] at this
   exact CellOk.keepLoan (k:=k) (s:=0) (o:=0) (s1:=0) (o1:=0) (d:=d) hS.older (hS.keeps hr) hw (fun _ _ e=>by cases e) this
 ·rename_i s o v ht
  split at hc
  ·rename_i mv' hm
   simp at hc
   obtain ⟨rfl,rfl⟩:=hc
   have hw:=h.tagWf hr
   rw[ht] at hw
   refine ⟨fun d hd=>(cp_ok hr h hm hd).1,hw,fun g1 m1 T v' o' d hS hd _ _ _=> ?_⟩
   have hsrc:mv'.src=c.src:=by
    unfold Cel.cp at hm
    rw[zC] at hm
    obtain ⟨⟨src,rs⟩,h1,rfl⟩:=hm
    unfold Cel.rd at h1
    rw[ht] at h1
    simp only[guardO_some,zC] at h1
    obtain ⟨_,p,_,h3⟩:=h1
    simp at h3
    exact h3.1.symm
   have:=h.loan (by rw[ht];intro n rs e;cases e) (by rw[ht];rfl) (d:=d) (fun _=>by rw[← hsrc];exact hd)
   rw[ht] at this
   exact CellOk.keepLoan (k:=k) (s:=0) (o:=0) (s1:=0) (o1:=0) (d:=d) hS.older (hS.keeps hr) hw (fun _ _ e=>by cases e) this
  ·simp at hc;exact dead hc.1.symm hc.2.symm
theorem carries_get {g:G} {ml:List Nat} {lo:Bool}:∀{cs:List Cel} {l:List (Tag×Mv)},carries g ml lo cs=some l→l.length=cs.length∧
  ∀(i:Nat) (p:Tag×Mv),l[i]? =some p→∃c,cs[i]? =some c∧carry g ml lo c=some p:=by
 intro cs
 induction cs with
 |nil=>intro l h;simp[carries] at h;subst h;simp
 |cons c cs ih=>
  intro l h
  simp only[carries,zA,zC] at h
  obtain ⟨t,h1,l',h2,rfl⟩:=h
  obtain ⟨h3,h4⟩:=ih h2
  refine ⟨by simp[h3],fun i p hp=> ?_⟩
  cases i with
  |zero=>simp at hp;subst hp;exact ⟨c,rfl,h1⟩
  |succ i=>exact h4 i p (by simpa using hp)
theorem flat_get:∀{fl:List Bool} {l:List D},flat fl l=true→∀{i:Nat} {b:Bool} {d:D},fl[i]? =some b→l[i]? =some d→d.flat=b:=by
 intro fl
 induction fl with
 |nil=>intro l _ i b d h1;simp at h1
 |cons f fl ih=>
  intro l h i b d h1 h2
  cases l with
  |nil=>simp at h2
  |cons x l=>
   have h':x.flat=f∧flat fl l=true:=by cases f<;>simpa[flat] using h
   cases i with
   |zero=>simp at h1 h2;subst h1 h2;exact h'.1
   |succ i=>exact ih h'.2 (by simpa using h1) (by simpa using h2)
theorem isScT_frz {s:Nat} {t:Tag}:isScT (frzTag s t)=isScT t:=by cases t<;>rfl
def TT (cx:Cx) (dst:Nat) (t:List Nat):Nat→Prop:=fun x=>x∈t∨x=dst∨(cx.base≤x∧x<cx.base+60)∨PAR≤x
structure Fits (cx:Cx) (g:G) (dst:Nat):Prop where
 len:g.length=cx.base+61
 dst:dst<cx.base∨dst=cx.base+60
theorem NewOk.of {k:K} {m m1:M} {dst:Nat} {h':Array Obj} {new:Nat→Color} (h:NewOk k m dst h' new) (e:m1.h=m.h):NewOk k m1 dst h' new:=
 ⟨by rw[e];exact h.size,by rw[e];exact h.old,h.free,by rw[e];exact h.own⟩
theorem lay_ok {k:K} {env:Env} {g:G} {m:M} (hr:Rel k g m) {cx:Cx} {dst:Nat} (hf:Fits cx g dst) {lo:Bool} {cs:List Cel} {vs:List Value} {e:List Tag→Ent} {r:Res}
  (h:Own.lay cx g dst lo cs e=some r) (hcs:CelsOk k g m cs vs) {σ':St} (he:evIs env r.is m.σ=some σ') (htags:∀ts,entTags (e ts)=some ts)
  {h':Array Obj} {new:Nat→Color} (hn:NewOk k m dst h' new) (cv:Value)
  (hent:∀(g':G) (m':M) (ts:List Tag),m'.c dst=cv→m'.h=h'→(∀b,m.h.size≤b→m'.col b=new b)→CellsOk k g' m' dst ts vs→EntOk k g' m' dst (e ts)):
  ∃col',Step k g m r.g ⟨σ',updC m.c dst cv,h',col'⟩ (TT cx dst r.t)∧r.g.length=g.length:=by
 unfold Own.lay at h
 simp only[zA,guardO_some,zD,Bool.not_eq_true'] at h
 obtain ⟨l,hl,⟨⟨hok,hdst⟩,_⟩,h⟩:=h
 simp at h
 subst h
 simp only at he ⊢
 rw[evIs_append,zA] at he
 obtain ⟨σ1,he1,he2⟩:=he
 simp only[evIs,I.ev,zA] at he2
 obtain ⟨σ2,⟨ds,hds,hfl⟩,he2⟩:=he2
 simp at he2
 subst he2
 split at hfl
 ·rename_i hflat
  simp at hfl
  subst hfl
  obtain ⟨hlen,hget⟩:=carries_get hl
  have hcell:∀(i:Nat) (p:Tag×Mv),l[i]? =some p→∃c x,cs[i]? =some c∧carry g [] lo c=some p∧vs[i]? =some x∧CelOk k g m c x:=fun i p hp=>by
   obtain ⟨c,h1,h2⟩:=hget i p hp
   obtain ⟨x,h3,h4⟩:=hcs.2 i c h1
   exact ⟨c,x,h1,h2,h3,h4⟩
  obtain ⟨col1,S1,hdl,hheld,hσ1,_,_,hver⟩:=lifts_ok hr (ms:=l.map (·.2)) (xs:=vs) (base:=cx.base) (by rw[hf.len];omega) (fun i mv hi=>by
   rw[zK] at hi
   cases hp:l[i]? with
   |none=>simp[hp] at hi
   |some p=>
    simp[hp] at hi
    subst hi
    obtain ⟨c,x,_,h2,h3,h4⟩:=hcell i p hp
    exact ⟨x,h3,(carry_ok hr h4 h2).1⟩) hok he1 hds (v:=PAR) (Nat.le_refl _)
  have hr1:=S1.rel hr
  have hlen1:=S1.len
  have hts:(l.map fun x=>frzTag dst x.1)=(l.map (·.1)).map (frzTag dst):=by simp
  have S2:=lay_step hr1 (dst:=dst) (v:=PAR) (Nat.le_refl _) (by rw[hlen1,hf.len];have:=hf.dst;omega) (ts:=l.map (·.1)) (ds:=ds) (vs:=vs) (cv:=cv) (by rw[hdl];simp) (by simp;rw[hcs.1,hlen]) (fun v hv=>by
    obtain ⟨i,hi⟩:=zP hv
    have hlt:i<vs.length:=by
     rcases zJ i vs.length with h'|h'
     ·exact h'
     ·rw[zG h'] at hi;cases hi
    have hlt2:i<cs.length:=by rw[← hcs.1];exact hlt
    obtain ⟨x,h1,h2⟩:=hcs.2 i cs[i] (zB hlt2)
    rw[hi] at h1
    simp at h1
    subst h1
    exact h2.one)
   (fun o t d x h1 h2 h3=>by
    rw[zK] at h1
    cases hp:l[o]? with
    |none=>simp[hp] at h1
    |some p=>
     simp[hp] at h1
     subst h1
     obtain ⟨c,x',_,b2,b3,b4⟩:=hcell o p hp
     rw[h3] at b3
     simp at b3
     subst b3
     have hmi:(l.map (·.2))[o]? =some p.2:=by simp[hp]
     obtain ⟨c1,c2⟩:=hheld o p.2 d x hmi h2 h3
     refine (carry_ok hr b4 b2).2.2 _ _ _ _ o d S1 c2 ?_ c1 ?_
     rw[curR_iff]
     intro q hq
     rw[hver p.2 (zF hmi) q hq]
     exact curR_iff.1 ((carry_ok hr b4 b2).1 d c2).cur q hq
     exact fun hs=>flat_get hflat (i:=o) (b:=false) (by simp[flOf,hp,isScT_frz];exact hs) h2)
   (fun t ht=>by
    rw[List.mem_map] at ht
    obtain ⟨p,h1,rfl⟩:=ht
    obtain ⟨o,hp⟩:=zP h1
    obtain ⟨c,x',_,b2,b3,b4⟩:=hcell o p hp
    exact ((carry_ok hr b4 b2).2.1).older S1.older)
   (hn.of rfl) (e ((l.map (·.1)).map (frzTag dst))) (htags _)
   (fun hc=>hent _ _ _ (by simp[updC]) rfl (fun b hb=>laidCol_free ((hr1.mem.free b).1 hb)) hc)
  rw[hts]
  refine ⟨_,(S1.trans hr S2).mono hr fun x hx=> ?_,?_⟩
  ·unfold TT
   rcases hx with (hx|hx)|hx|hx
   ·exact .inl hx
   ·exact .inr (.inr (.inl hx))
   ·exact .inr (.inl hx)
   ·exact .inr (.inr (.inr hx))
  ·rw[S2.len,hlen1]
 ·cases hfl
def isLoad (o:Op):Bool:=match o with| .load _ _=>true|_=>false
def Quiet (cx:Cx) (m:M) (o:Oper):Prop:=∃v,∀w:World,(execOp (vl m) o).run cx.P w= .ok (.value v) w
def Did (cx:Cx) (k:K) (g:G) (m:M) (r:Res) (σ':St) (o:Oper) (dst:Nat):Prop:=
 (∀w:World,w.heap=m.h→∃(n:Next) (v:Value) (h':Array Obj) (dr:Nat) (col':Nat→Color),(n= .value v∨(n= .skip∧v=undef))∧
  (execOp (vl m) o).run cx.P w= .ok n {w with heap:=h',drawn:=dr}∧Step k g m r.g ⟨σ',updC m.c dst v,h',col'⟩ (TT cx dst r.t))∧
 (quietB cx.P o.op=true→isLoad o.op=false→Quiet cx m o)
theorem Did.pureH {cx:Cx} {k:K} {g:G} {m:M} {r:Res} {σ':St} {o:Oper} {dst:Nat} (hq:isLoad o.op=true∨quietB cx.P o.op=false) (v:Value) (col':Nat→Color)
  (h:∀w:World,w.heap=m.h→(execOp (vl m) o).run cx.P w= .ok (.value v) w) (hs:Step k g m r.g ⟨σ',updC m.c dst v,m.h,col'⟩ (TT cx dst r.t)):Did cx k g m r σ' o dst:=
 ⟨fun w hw=>⟨.value v,v,m.h,w.drawn,col', .inl rfl,by rw[h w hw,← hw],hs⟩,fun h1 h2=>by rcases hq with e|e<;>simp_all⟩
theorem Did.pure {cx:Cx} {k:K} {g:G} {m:M} {r:Res} {σ':St} {o:Oper} {dst:Nat} (v:Value) (col':Nat→Color)
  (h:∀w:World,(execOp (vl m) o).run cx.P w= .ok (.value v) w) (hs:Step k g m r.g ⟨σ',updC m.c dst v,m.h,col'⟩ (TT cx dst r.t)):Did cx k g m r σ' o dst:=
 ⟨fun w hw=>⟨.value v,v,m.h,w.drawn,col', .inl rfl,by rw[h w,← hw],hs⟩,fun _ _=>⟨v,h⟩⟩
theorem one_step_at {k:K} {g:G} {m:M} (hr:Rel k g m) {cx:Cx} {dst:Nat} (hf:Fits cx g dst) {v:Nat} (hv:PAR≤v) {t:Tag} {d:D} {x:Value} (h1:x.oneCell'=true) (hL:LayOk k g m v 0 d x t) (hwf:TagWf g t)
  {t':Tag} (ht:frzTag dst t=t') {h':Array Obj} {new:Nat→Color} (hn:NewOk k m dst h' new):
  Step k g m (g.tch dst (.val .one [t'])) ⟨m.σ.upd dst [d],updC m.c dst x,h',laidCol m.col dst v 1 new⟩ (TT cx dst []):=by
 subst ht
 have:=lay_step hr (dst:=dst) (v:=v) hv (by rw[hf.len];have:=hf.dst;omega) (ts:=[t]) (ds:=[d]) (vs:=[x]) (cv:=x) rfl rfl (by simpa using h1)
  (fun o t1 d1 x1 a1 a2 a3=>by
   cases o with
   |zero=>simp at a1 a2 a3;subst a1 a2 a3;exact hL
   |succ o=>simp at a1) (by simpa using hwf) hn (.val .one [frzTag dst t]) rfl (fun hc=> .inr ⟨[x],by simp[updC,cellsV],hc⟩)
 refine this.mono hr fun y hy=> ?_
 unfold TT
 rcases hy with hy|hy
 ·exact .inr (.inl hy)
 ·exact .inr (.inr (.inr hy))
theorem one_step {k:K} {g:G} {m:M} (hr:Rel k g m) {cx:Cx} {dst:Nat} (hf:Fits cx g dst) {t:Tag} {d:D} {x:Value} (h1:x.oneCell'=true) (hL:LayOk k g m PAR 0 d x t) (hwf:TagWf g t)
  {t':Tag} (ht:frzTag dst t=t') {h':Array Obj} {new:Nat→Color} (hn:NewOk k m dst h' new):
  Step k g m (g.tch dst (.val .one [t'])) ⟨m.σ.upd dst [d],updC m.c dst x,h',laidCol m.col dst PAR 1 new⟩ (TT cx dst []):=
 one_step_at hr hf (Nat.le_refl _) h1 hL hwf ht hn
theorem sc_step {k:K} {g:G} {m:M} (hr:Rel k g m) {cx:Cx} {dst:Nat} (hf:Fits cx g dst) {d:D} {x:Value} (hd:d.flat=true) (ho:∀(h:Array Obj) (good:Good),O h good d x):
  Step k g m (g.tch dst (.val .one [.sc])) ⟨m.σ.upd dst [d],updC m.c dst x,m.h,laidCol m.col dst PAR 1 fun _=> .free⟩ (TT cx dst []):=
 one_step hr hf (ho #[] fun _ _=>True).one (t:= .sc) ⟨hd,ho _ _⟩ trivial rfl .none
theorem sc_did {k:K} {g:G} {m:M} (hr:Rel k g m) {cx:Cx} {dst:Nat} (hf:Fits cx g dst) {o:Oper} {is:List I} {d:D} (x:Value) (hd:d.flat=true)
  (hx:∀(h:Array Obj) (good:Good),O h good d x) (h:∀w:World,(execOp (vl m) o).run cx.P w= .ok (.value x) w):
  Did cx k g m ⟨is,g.tch dst (.val .one [.sc]),[]⟩ (m.σ.upd dst [d]) o dst:=
 .pure x _ h (sc_step hr hf hd hx)
theorem sc_didH {k:K} {g:G} {m:M} (hr:Rel k g m) {cx:Cx} {dst:Nat} (hf:Fits cx g dst) {o:Oper} {is:List I} {d:D} (hq:isLoad o.op=true∨quietB cx.P o.op=false) (x:Value) (hd:d.flat=true)
  (hx:∀(h:Array Obj) (good:Good),O h good d x) (h:∀w:World,w.heap=m.h→(execOp (vl m) o).run cx.P w= .ok (.value x) w):
  Did cx k g m ⟨is,g.tch dst (.val .one [.sc]),[]⟩ (m.σ.upd dst [d]) o dst:=
 .pureH hq x _ h (sc_step hr hf hd hx)
theorem flat_int {h:Array Obj} {good:Good} {k:IntKind} {n:Int} {x:Value} (ho:O h good (.int k n) x):x= .int k n:=by cases ho;rfl
theorem flat_bool {h:Array Obj} {good:Good} {b:Bool} {x:Value} (ho:O h good (.bool b) x):x= .bool b:=by cases ho;rfl
theorem flat_str {h:Array Obj} {good:Good} {s:List UInt8} {x:Value} (ho:O h good (.str s) x):x= .string ⟨⟨s⟩⟩:=by cases ho;rfl
theorem evIs_one {env:Env} {i:I} {σ σ':St} (h:evIs env [i] σ=some σ'):i.ev env σ=some σ':=by
 simp only[evIs,zA] at h
 obtain ⟨a,h1,h2⟩:=h
 simp at h2
 rw[h1,h2]
def Here (m:M) (x:Operand):Prop:=∀t,x= .tmp t→m.σ t≠[]
section ops
variable {k:K} {env:Env} {g:G} {m:M} {cx:Cx} {dst:Nat} {σ':St} {o:Oper} {r:Res}
theorem pick_did (hr:Rel k g m) (hf:Fits cx g dst) {c a b:Operand} (ho:o.op= .pick c a b) {cs as bs:Src} (h1:scSrc cx.P g cx.P.rt.bool c=some cs)
  (h2:scSrc cx.P g o.type a=some as) (h3:scSrc cx.P g o.type b=some bs)
  (he:evIs env [.pick dst cs as bs] m.σ=some σ'):Did cx k g m ⟨[.pick dst cs as bs],g.tch dst (.val .one [.sc]),[]⟩ σ' o dst:=by
 have he:=evIs_one he
 simp only[I.ev,zA] at he
 obtain ⟨d,e1,e2⟩:=he
 split at e2
 ·rename_i v
  rw[zC] at e2
  obtain ⟨r,e2,rfl⟩:=e2
  obtain ⟨_,hv⟩:=scSrc_ok hr h1 e1
  have hv:=flat_bool (hv #[] fun _ _=>True)
  cases v
  ·obtain ⟨f1,f2⟩:=scSrc_ok hr h3 (by simpa using e2)
   exact sc_did hr hf _ f1 f2 fun w=>by simp[execOp,ho,hv,asBool]
  ·obtain ⟨f1,f2⟩:=scSrc_ok hr h2 (by simpa using e2)
   exact sc_did hr hf _ f1 f2 fun w=>by simp[execOp,ho,hv,asBool]
 ·cases e2
theorem not_did (hr:Rel k g m) (hf:Fits cx g dst) {ty:TypeId} {x:Operand} (ho:o.op= .unOp .not ty x) {a:Src} (h1:scSrc cx.P g ty x=some a)
  (he:evIs env [.not dst a] m.σ=some σ'):Did cx k g m ⟨[.not dst a],g.tch dst (.val .one [.sc]),[]⟩ σ' o dst:=by
 have he:=evIs_one he
 simp only[I.ev,zA] at he
 obtain ⟨d,e1,e2⟩:=he
 split at e2
 ·rename_i b
  simp at e2
  subst e2
  have hv:=flat_bool ((scSrc_ok hr h1 e1).2 #[] fun _ _=>True)
  exact sc_did hr hf (.bool !b) rfl (fun _ _=> .bool) fun w=>by simp[execOp,ho,hv,Op.unary]
 ·cases e2
theorem neg_did (hr:Rel k g m) (hf:Fits cx g dst) {ty:TypeId} {x:Operand} (ho:o.op= .unOp .neg ty x) {a:Src} (h1:scSrc cx.P g ty x=some a)
  (he:evIs env [.ng dst a] m.σ=some σ'):Did cx k g m ⟨[.ng dst a],g.tch dst (.val .one [.sc]),[]⟩ σ' o dst:=by
 have he:=evIs_one he
 simp only[I.ev,zA] at he
 obtain ⟨d,e1,e2⟩:=he
 split at e2
 ·rename_i k' n
  simp at e2
  subst e2
  have hv:=flat_int ((scSrc_ok hr h1 e1).2 #[] fun _ _=>True)
  exact sc_did hr hf (.int k' (k'.wrap (-n))) rfl (fun _ _=> .int) fun w=>by simp[execOp,ho,hv,Op.unary,Op.intArith]
 ·cases e2
theorem conv_did (hr:Rel k g m) (hf:Fits cx g dst) {s t:TypeId} {x:Operand} (ho:o.op= .convert s t x) {k1 k2:IntKind} (hs:cx.P.underlying s=some (.int k1)) (ht:cx.P.underlying t=some (.int k2))
  {a:Src} (h1:scSrc cx.P g s x=some a) (he:evIs env [.conv dst k2 a] m.σ=some σ'):Did cx k g m ⟨[.conv dst k2 a],g.tch dst (.val .one [.sc]),[]⟩ σ' o dst:=by
 have he:=evIs_one he
 simp only[I.ev,zA] at he
 obtain ⟨d,e1,e2⟩:=he
 split at e2
 ·rename_i k' n
  simp at e2
  subst e2
  have hv:=flat_int ((scSrc_ok hr h1 e1).2 #[] fun _ _=>True)
  exact sc_did hr hf (.int k2 (k2.wrap n)) rfl (fun _ _=> .int) fun w=>by
   simp[execOp,ho,hv,convert,Sem.run_bind,run_underlying hs,run_underlying ht,Conv.intToInt]
 ·cases e2
theorem mm_did (hr:Rel k g m) (hf:Fits cx g dst) {max:Bool} {c:Call} {x y:Operand} (ho:o.op= .call c) (hc:c.callee= .builtin (if max then .max else .min)) (ha:c.args= #[x,y]) {ty:TypeId} {a b:Src}
  (h1:scSrc cx.P g ty x=some a) (h2:scSrc cx.P g ty y=some b) (he:evIs env [.mm max dst a b] m.σ=some σ'):Did cx k g m ⟨[.mm max dst a b],g.tch dst (.val .one [.sc]),[]⟩ σ' o dst:=by
 have he:=evIs_one he
 simp only[I.ev,zA] at he
 obtain ⟨d,e1,d2,e2,e3⟩:=he
 split at e3
 ·rename_i k' i k2 j
  simp at e3
  subst e3
  have hv:=flat_int ((scSrc_ok hr h1 e1).2 #[] fun _ _=>True)
  have hv2:=flat_int ((scSrc_ok hr h2 e2).2 #[] fun _ _=>True)
  cases max
  ·exact sc_did hr hf (.int k' (if j<i then j else i)) rfl (fun _ _=> .int) fun w=>by
    simp at hc
    simp[execOp,ho,resolve,hc,ha,invoke,builtin,Builtin.min_,hv,hv2,Builtin.min2]
  ·exact sc_did hr hf (.int k' (if j>i then j else i)) rfl (fun _ _=> .int) fun w=>by
    simp at hc
    simp[execOp,ho,resolve,hc,ha,invoke,builtin,Builtin.max_,hv,hv2,Builtin.max2]
 ·cases e3
theorem sidx_did (hr:Rel k g m) (hf:Fits cx g dst) {t:TypeId} {x i:Operand} (ho:o.op= .index t x i) (ht:cx.P.underlying t=some .string) {ty:TypeId} {a b:Src}
  (h1:scSrc cx.P g t x=some a) (h2:scSrc cx.P g ty i=some b) (he:evIs env [.sidx dst a b] m.σ=some σ'):Did cx k g m ⟨[.sidx dst a b],g.tch dst (.val .one [.sc]),[]⟩ σ' o dst:=by
 have he:=evIs_one he
 simp only[I.ev,zA] at he
 obtain ⟨d,e1,d2,e2,e3⟩:=he
 split at e3
 ·rename_i s k2 n
  split at e3
  ·rename_i hn
   rw[zC] at e3
   obtain ⟨c,e3,rfl⟩:=e3
   have hv:=flat_str ((scSrc_ok hr h1 e1).2 #[] fun _ _=>True)
   have hv2:=flat_int ((scSrc_ok hr h2 e2).2 #[] fun _ _=>True)
   refine sc_did hr hf (.int .u8 c.toNat) rfl (fun _ _=> .int) fun w=> ?_
   have hb:(⟨⟨s⟩⟩:ByteArray)[n.toNat]? =some c:=by
    have hlt:n.toNat<s.length:=by
     rcases zJ n.toNat s.length with h'|h'
     ·exact h'
     ·rw[zG h'] at e3;cases e3
    rw[zB hlt] at e3
    simp at e3
    have hlt2:n.toNat<(⟨⟨s⟩⟩:ByteArray).size:=hlt
    rw[getElem?_pos (c:=(⟨⟨s⟩⟩:ByteArray)) (i:=n.toNat) (h:=hlt2)]
    exact congrArg some e3
   simp[execOp,ho,hv,hv2,Instr.index,asIntOf,Sem.run_bind,run_underlying ht,hn,hb]
  ·cases e3
 ·cases e3
theorem bin_did (hr:Rel k g m) (hf:Fits cx g dst) {op:BinOp} {t ty yt:TypeId} {x y:Operand} (ho:o.op= .binOp op t x y yt) {a b:Src} (h1:scSrc cx.P g t x=some a) (h2:scSrc cx.P g ty y=some b) (he:evIs env [.bin op dst a b] m.σ=some σ'):Did cx k g m ⟨[.bin op dst a b],g.tch dst (.val .one [.sc]),[]⟩ σ' o dst:=by
 have he:=evIs_one he
 simp only[I.ev,zA] at he
 obtain ⟨d,e1,d2,e2,e3⟩:=he
 rw[zC] at e3
 obtain ⟨rd,e3,rfl⟩:=e3
 have f1:=(scSrc_ok hr h1 e1).2 #[] fun _ _=>True
 have f2:=(scSrc_ok hr h2 e2).2 #[] fun _ _=>True
 unfold evBin at e3
 split at e3
 ·rename_i k1 i k2 j
  have hv:=flat_int f1
  have hv2:=flat_int f2
  split at e3
  ·rename_i hop
   unfold shBin at e3
   split at e3
   ·cases e3
   ·rename_i hn
    rcases hop with rfl|rfl<;>(simp at e3;subst e3;refine sc_did hr hf (.int _ _) rfl (fun _ _=> .int) fun w=> ?_;simp[execOp,ho,hv,hv2,eqGuard,binOp,Op.shift,hn])
  ·rename_i hop
   split at e3
   ·rename_i hk
    subst hk
    cases op<;>simp only[intBin] at e3<;>(try cases e3)<;>
     first
     |(exact sc_did hr hf (.int _ _) rfl (fun _ _=> .int) fun w=>by simp[execOp,ho,hv,hv2,eqGuard,binOp,Op.intArith,Op.intBits,Op.intCmp])
     |(exact sc_did hr hf (.bool _) rfl (fun _ _=> .bool) fun w=>by simp[execOp,ho,hv,hv2,eqGuard,binOp,Op.intArith,Op.intBits,Op.intCmp])
     |(
      split at e3
      ·cases e3
      ·rename_i hz
       cases e3
       exact sc_did hr hf (.int _ _) rfl (fun _ _=> .int) fun w=>by simp[execOp,ho,hv,hv2,eqGuard,binOp,Op.intDiv,hz])
     |(exact absurd rfl (by simp at hop))
   ·cases e3
 ·rename_i p q
  have hv:=flat_str f1
  have hv2:=flat_str f2
  split at e3
  ·split at e3
   ·rename_i hl
    cases e3
    have hle:¬ (((⟨⟨p⟩⟩:ByteArray).size+(⟨⟨q⟩⟩:ByteArray).size:Nat):Int)>IntKind.i64.max:=by
     have h1:(⟨⟨p⟩⟩:ByteArray).size=p.length:=rfl
     have h2:(⟨⟨q⟩⟩:ByteArray).size=q.length:=rfl
     rw[h1,h2]
     have:IntKind.i64.max=9223372036854775807:=by decide
     rw[this]
     unfold most at hl
     omega
    refine sc_did hr hf (.string ⟨⟨p++q⟩⟩) rfl (fun _ _=> .str) fun w=> ?_
    have happ:(⟨⟨p⟩⟩:ByteArray)++(⟨⟨q⟩⟩:ByteArray)=⟨⟨p++q⟩⟩:=by
     apply ByteArray.ext
     simp
    simp only[execOp,ho,hv,hv2,eqGuard,binOp,Op.stringOp]
    simp only[hle,if_false,happ]
    simp
   ·cases e3
  ·cases e3
   refine sc_did hr hf (.bool (p==q)) rfl (fun _ _=> .bool) fun w=> ?_
   simp only[execOp,ho,hv,hv2,eqGuard,binOp_string_eql,ByteArray.toList_eq]
   simp
  ·cases e3
   refine sc_did hr hf (.bool (p !=q)) rfl (fun _ _=> .bool) fun w=> ?_
   simp only[execOp,ho,hv,hv2,eqGuard,binOp,Op.stringOp,ByteArray.toList_eq]
   simp[bne]
  ·cases e3
 ·cases e3
theorem eqb_did (hr:Rel k g m) (hf:Fits cx g dst) {op:BinOp} {t yt:TypeId} {x y:Operand} (ho:o.op= .binOp op t x y yt) (hu:cx.P.underlying t=some .bool) (hop:op= .eql∨op= .neq)
  {a b:Src} (h1:scSrc cx.P g t x=some a) (h2:scSrc cx.P g t y=some b) (he:evIs env [.eqb (op== .neq) dst a b] m.σ=some σ'):
  Did cx k g m ⟨[.eqb (op== .neq) dst a b],g.tch dst (.val .one [.sc]),[]⟩ σ' o dst:=by
 have he:=evIs_one he
 simp only[I.ev,zA] at he
 obtain ⟨d,e1,d2,e2,e3⟩:=he
 have f1:=(scSrc_ok hr h1 e1).2 #[] fun _ _=>True
 have f2:=(scSrc_ok hr h2 e2).2 #[] fun _ _=>True
 split at e3
 ·rename_i p q
  have hv:=flat_bool f1
  have hv2:=flat_bool f2
  cases e3
  rcases hop with rfl|rfl
  ·have e:((p==q) !=(BinOp.eql==BinOp.neq))=(p==q):=by cases p<;>cases q<;>rfl
   rw[e]
   refine sc_did hr hf (.bool (p==q)) rfl (fun _ _=> .bool) fun w=> ?_
   simp only[execOp,ho,hv,hv2,eqGuard,binOp]
   simp[run_equal_bool w t p q hu]
  ·have e:((p==q) !=(BinOp.neq==BinOp.neq))= !(p==q):=by cases p<;>cases q<;>rfl
   rw[e]
   refine sc_did hr hf (.bool (!(p==q))) rfl (fun _ _=> .bool) fun w=> ?_
   simp only[execOp,ho,hv,hv2,eqGuard,binOp]
   simp[run_equal_bool w t p q hu]
 ·cases e3
end ops
theorem O.sub {h:Array Obj} {G:Nat→Prop} {sz lo hi len cap:Nat} {rows:List (List D)} {a:Option Addr} (ho:O h (fun _=>G) (.sl sz rows) (.slice a len cap)) (h1:lo≤hi) (h2:hi≤rows.length):
  len=rows.length∧len≤cap∧O h (fun _=>G) (.sl sz ((rows.take hi).drop lo)) (.slice (if cap=lo then a else a.map (·.add (lo*sz))) (hi-lo) (cap-lo)):=by
 cases ho with
 |nil=>
  simp at h2
  subst h2
  have:lo=0:=by omega
  subst this
  refine ⟨rfl,Nat.le_refl _,?_⟩
  simp
  exact .nil
 |emp=>
  simp at h2
  subst h2
  have:lo=0:=by omega
  subst this
  refine ⟨rfl,Nat.le_refl _,?_⟩
  simp
  exact .emp
 | @sl _ _ _ b off len cap cs ty fr hg hb hl hc ho hr he=>
  refine ⟨hl,hc,?_⟩
  have hlen:((rows.take hi).drop lo).length=hi-lo:=by simp;omega
  by_cases e:cap=lo
  ·simp only[e,if_true]
   have e0:(rows.take hi).drop lo=[]:=List.eq_nil_of_length_eq_zero (by rw[hlen];omega)
   rw[e0]
   refine .sl hg hb (by simp;omega) (by omega) ?_ (fun i row h=>by simp at h) fun i o d h=>by simp[cellAt] at h
   have:lo-lo=0:=by omega
   rw[this]
   omega
  ·simp only[e,if_false]
   have hadd:((some (⟨b,off,none⟩:Addr)).map fun x=>x.add (lo*sz))=some ⟨b,off+lo*sz,none⟩:=by
    simp[Addr.add_mid]
   rw[hadd]
   have hm:lo*sz+(cap-lo)*sz=cap*sz:=by rw[← Nat.add_mul];congr 1;omega
   refine .sl hg hb (by rw[hlen]) (by omega) (by omega) (fun i row h=> ?_) fun i o d h=> ?_
   ·rw[List.getElem?_drop,List.getElem?_take] at h
    split at h
    ·exact hr _ row h
    ·cases h
   ·obtain ⟨row,h3,h4⟩:=cellAt_lt h
    rw[List.getElem?_drop,List.getElem?_take] at h3
    split at h3
    ·have:=he (lo+i) o d (by simp[cellAt,h3,h4])
     have e2:off+lo*sz+i*sz+o=off+(lo+i)*sz+o:=by rw[Nat.add_mul];omega
     rw[e2]
     exact this
    ·cases h3
theorem O.slice {h:Array Obj} {good:Good} {sz:Nat} {rows:List (List D)} {x:Value} (ho:O h good (.sl sz rows) x):∃a cap,x= .slice a rows.length cap∧rows.length≤cap∧(a=none→rows=[]∧cap=0):=by
 cases ho with
 |nil=>exact ⟨none,0,rfl,Nat.le_refl _,fun _=>⟨rfl,rfl⟩⟩
 |emp=>exact ⟨_,0,rfl,Nat.le_refl _,fun _=>⟨rfl,rfl⟩⟩
 |sl hg hb hl hc ho hr he=>exact ⟨_,_,by rw[hl],by omega,fun e=>by cases e⟩
theorem cut_bounds {α:Type} {g:G} {m:M} {k:K} (hr:Rel k g m) {P:Program} {lo hi:Option Operand} {l h:Option Src} (h2:optSc P g P.rt.int lo=some l) (h3:optSc P g P.rt.int hi=some h)
  {dl dh:Option D} (e2:optEv m.σ l=some dl) (e3:optEv m.σ h=some dh) {xs ys:List α} (hc:cut xs dl dh=some ys):
  ∃a b,a≤b∧b≤xs.length∧ys=(xs.take b).drop a∧(lo=none→a=0)∧
   ∀(isSlice:Bool) (cap:Nat) (w:World),xs.length≤cap→(Instr.sliceBounds isSlice xs.length cap (lo.map (vl m)) (hi.map (vl m)) none).run P w= .ok (a,b,cap) w:=by
 have key:∀(x:Option Operand) (sx:Option Src) (d:Option D) (dflt:Nat),optSc P g P.rt.int x=some sx→optEv m.σ sx=some d→∀a,endOf dflt d=some a→
   (x=none∧a=dflt)∨∃y kk,x=some y∧vl m y= .int kk (a:Int):=by
  intro x sx d dflt hx he a ha
  cases x with
  |none=>simp[optSc] at hx;subst hx;simp[optEv] at he;subst he;simp[endOf] at ha;exact .inl ⟨rfl,ha.symm⟩
  |some y=>
   simp only[optSc,zC] at hx
   obtain ⟨s,hs,rfl⟩:=hx
   simp only[optEv,zC] at he
   obtain ⟨d',hd,rfl⟩:=he
   simp only[endOf] at ha
   obtain ⟨_,ho⟩:=scSrc_ok hr hs hd
   cases d' with
   |int kk n=>
    have hv:=flat_int (ho #[] fun _ _=>True)
    simp only[natOf] at ha
    split at ha
    ·simp at ha
     subst ha
     refine .inr ⟨y,kk,rfl,?_⟩
     rw[hv]
     congr 1
     omega
    ·cases ha
   |_=>simp[natOf] at ha
 unfold cut at hc
 split at hc
 ·rename_i a b ha hb
  split at hc
  ·rename_i hab
   cases hc
   refine ⟨a,b,hab.1,hab.2,rfl,fun e=> ?_,fun isSlice cap w hcap=> ?_⟩
   ·rcases key lo l dl 0 h2 e2 a ha with ⟨_,h⟩|⟨y,kk,h,_⟩
    ·exact h
    ·rw[e] at h;cases h
   ·have hbc:b≤cap:=by omega
    rcases key lo l dl 0 h2 e2 a ha with ⟨ra,sa⟩|⟨ya,ka,ra,sa⟩<;>rcases key hi h dh xs.length h3 e3 b hb with ⟨rb,sb⟩|⟨yb,kb,rb,sb⟩
    ·subst ra rb sa sb
     simp[Instr.sliceBounds]
    ·subst ra rb sa
     have:(0:Int)≤b∧(b:Int)≤cap:=by omega
     simp[Instr.sliceBounds,Instr.sliceBound,sb,asIntOf,hbc,Sem.run_bind]
    ·subst ra rb sb
     have:(0:Int)≤a∧(a:Int)≤xs.length:=by omega
     simp[Instr.sliceBounds,Instr.sliceBound,sa,asIntOf,hab.1,Sem.run_bind]
    ·subst ra rb
     have h1:(0:Int)≤b∧(b:Int)≤cap:=by omega
     have h2:(0:Int)≤a∧(a:Int)≤b:=by omega
     simp[Instr.sliceBounds,Instr.sliceBound,sa,sb,asIntOf,hbc,hab.1,Sem.run_bind]
  ·cases hc
 ·cases hc
theorem frz_id {dst n:Nat} {rs:Rts} (h:∀r∈rs,r.1≠dst):frzTag dst (.own n rs)= .own n rs:=by
 show Tag.own n (rs.filter fun r=>r.1 !=dst)=_
 congr 1
 rw[List.filter_eq_self]
 intro r hr
 simpa using h r hr
section ops
variable {k:K} {env:Env} {g:G} {m:M} {cx:Cx} {dst:Nat} {σ':St} {o:Oper} {r:Res}
theorem slen_did (hr:Rel k g m) (hf:Fits cx g dst) {c:Call} {x:Operand} (ho:o.op= .call c) (hc:c.callee= .builtin .len) (ha:c.args= #[x]) {t:TypeId} (ht:c.argTypes[0]? =some t)
  (hu:cx.P.underlying t=some .string) {a:Src} (h1:scSrc cx.P g t x=some a) (he:evIs env [.slen dst a] m.σ=some σ'):
  Did cx k g m ⟨[.slen dst a],g.tch dst (.val .one [.sc]),[]⟩ σ' o dst:=by
 have he:=evIs_one he
 simp only[I.ev,zA] at he
 obtain ⟨d,e1,e2⟩:=he
 split at e2
 ·rename_i s
  cases e2
  have hv:=flat_str ((scSrc_ok hr h1 e1).2 #[] fun _ _=>True)
  refine sc_did hr hf (.int .i64 s.length) rfl (fun _ _=> .int) fun w=> ?_
  have hs:(⟨⟨s⟩⟩:ByteArray).size=s.length:=rfl
  simp[execOp,ho,resolve,hc,ha,invoke,builtin,Builtin.len_,ht,hv,Sem.run_bind,run_underlying hu,goInt,hs]
 ·cases e2
theorem len_did (hr:Rel k g m) (hf:Fits cx g dst) {c:Call} {x:Operand} (ho:o.op= .call c) (hc:c.callee= .builtin .len) (ha:c.args= #[x]) {t e:TypeId} (ht:c.argTypes[0]? =some t)
  (hu:cx.P.underlying t=some (.slice e)) {a:Src} {rs:Rts} (h1:slSrc cx.P g t x=some (a,rs)) (hp:Here m x) (he:evIs env [.len dst a] m.σ=some σ'):
  Did cx k g m ⟨[.len dst a],g.tch dst (.val .one [.sc]),[]⟩ σ' o dst:=by
 have he:=evIs_one he
 simp only[I.ev,zA] at he
 obtain ⟨d,e1,e2⟩:=he
 split at e2
 ·rename_i sz rows
  cases e2
  have hv:=(slSrc_ok hr h1 hp).2 _ e1
  refine sc_did hr hf (.int .i64 rows.length) rfl (fun _ _=> .int) fun w=> ?_
  obtain ⟨b,cap,hy,_⟩:=hv.slice
  simp[execOp,ho,resolve,hc,ha,invoke,builtin,Builtin.len_,ht,hy,Sem.run_bind,run_underlying hu,goInt]
 ·cases e2
theorem ssl_did (hr:Rel k g m) (hf:Fits cx g dst) {t:TypeId} {x:Operand} {lo hi:Option Operand} (ho:o.op= .slice t x lo hi none) (hu:cx.P.underlying t=some .string)
  {s:Src} {l h:Option Src} (h1:scSrc cx.P g t x=some s) (h2:optSc cx.P g cx.P.rt.int lo=some l) (h3:optSc cx.P g cx.P.rt.int hi=some h) (he:evIs env [.ssl dst s l h] m.σ=some σ'):
  Did cx k g m ⟨[.ssl dst s l h],g.tch dst (.val .one [.sc]),[]⟩ σ' o dst:=by
 have he:=evIs_one he
 simp only[I.ev,zA] at he
 obtain ⟨d,e1,dl,e2,dh,e3,e4⟩:=he
 split at e4
 ·rename_i bs
  rw[zC] at e4
  obtain ⟨rs,e4,rfl⟩:=e4
  have hv:=flat_str ((scSrc_ok hr h1 e1).2 #[] fun _ _=>True)
  obtain ⟨a,b,hab,hb,rfl,_,hrun⟩:=cut_bounds hr h2 h3 e2 e3 e4
  refine sc_did hr hf (.string ⟨⟨(bs.take b).drop a⟩⟩) rfl (fun _ _=> .str) fun w=> ?_
  have hs:(⟨⟨bs⟩⟩:ByteArray).size=bs.length:=rfl
  have hext:(⟨⟨bs⟩⟩:ByteArray).extract a b=⟨⟨(bs.take b).drop a⟩⟩:=by
   apply ByteArray.ext
   simp[List.drop_take]
  simp only[execOp,ho,Instr.sliceAt,Sem.run_bind,run_underlying hu,Result.andThen_ok,Instr.slice,hv,hs,hext,Option.map_none]
  simp[hrun false bs.length w (Nat.le_refl _),Sem.run_bind]
  exact hext
 ·cases e4
theorem sub_did (hr:Rel k g m) (hf:Fits cx g dst) {t e:TypeId} {x:Operand} {lo hi:Option Operand} (ho:o.op= .slice t x lo hi none) (hu:cx.P.underlying t=some (.slice e))
  (hsz:cx.P.cellsOf e≠0) {i:TypeInfo} (hi':cx.P.info? e=some i) {c:Cel} {src:Src} {rs:Rts} {l h:Option Src} (hx:cel1 cx.P g t x=some c) (h1:c.rd g=some (src,rs)) (hp:Here m x)
  (h2:optSc cx.P g cx.P.rt.int lo=some l) (h3:optSc cx.P g cx.P.rt.int hi=some h) (hrd:∀r∈rs,r.1≠dst) (he:evIs env [.sub dst (cx.P.cellsOf e) src l h] m.σ=some σ'):
  Did cx k g m ⟨[.sub dst (cx.P.cellsOf e) src l h],g.tch dst (.val .one [.own 0 rs]),[]⟩ σ' o dst:=by
 have he:=evIs_one he
 simp only[I.ev,zA] at he
 obtain ⟨d,e1,dl,e2,dh,e3,e4⟩:=he
 split at e4
 ·rename_i sz rows
  split at e4
  ·rename_i hsz'
   subst hsz'
   rw[zC] at e4
   obtain ⟨rows',e4,rfl⟩:=e4
   obtain ⟨hcur,hv⟩:=rd_ok hr (cel1_ok hr hx hp) h1
   have hv:=hv _ e1
   obtain ⟨ad,cap,hy,hcap,_⟩:=hv.slice
   obtain ⟨a,b,hab,hb,rfl,_,hrun⟩:=cut_bounds hr h2 h3 e2 e3 e4
   rw[hy] at hv
   obtain ⟨_,_,hsub⟩:=hv.sub hab hb
   have hsize:i.size=cx.P.cellsOf e:=by unfold Program.cellsOf;rw[hi'];rfl
   have:=one_step hr hf (t:= .own 0 rs) (t':= .own 0 rs) (d:= .sl (cx.P.cellsOf e) ((rows.take b).drop a)) (x:= .slice (if cap=a then ad else ad.map (·.add (a*cx.P.cellsOf e))) (b-a) (cap-a)) rfl
    ⟨rfl,hcur,hsub.mono fun π b' hb'=>by unfold gl;rw[owns_zero];simpa using hb'⟩ (fun r hr'=>Nat.le_of_eq (curR_iff.1 hcur r hr').symm)
    (frz_id hrd) .none
   refine .pure _ _ (fun w=> ?_) this
   have hss:∀w,(sizeOf e).run cx.P w= .ok (cx.P.cellsOf e) w:=fun w=>by simp[sizeOf,typeInfo,hi',hsize]
   simp only[execOp,ho,Instr.sliceAt,Sem.run_bind,run_underlying hu,Result.andThen_ok,Instr.slice,hy,Option.map_none]
   simp[hrun true cap w hcap,Sem.run_bind,hss]
  ·cases e4
 ·cases e4
theorem pre_did (hr:Rel k g m) (hf:Fits cx g dst) {t e:TypeId} {x:Operand} {hi:Option Operand} (ho:o.op= .slice t x none hi none) (hu:cx.P.underlying t=some (.slice e))
  {i:TypeInfo} (hi':cx.P.info? e=some i) {c:Cel} {src:Src} {rs:Rts} {l h:Option Src} {s' o' v':Nat} (hx:cel1 cx.P g t x=some c) (htag:c.tag= .loan s' o' v' []) (h1:c.rd g=some (src,rs)) (hp:Here m x)
  (h2:optSc cx.P g cx.P.rt.int none=some l) (h3:optSc cx.P g cx.P.rt.int hi=some h) (hsd:s'≠dst) (he:evIs env [.sub dst (cx.P.cellsOf e) src l h] m.σ=some σ'):
  Did cx k g m ⟨[.sub dst (cx.P.cellsOf e) src l h],g.tch dst (.val .one [.pre s' o' (g.ver s')]),[]⟩ σ' o dst:=by
 have he:=evIs_one he
 simp only[I.ev,zA] at he
 obtain ⟨d,e1,dl,e2,dh,e3,e4⟩:=he
 split at e4
 ·rename_i sz rows
  split at e4
  ·rename_i hsz'
   subst hsz'
   rw[zC] at e4
   obtain ⟨rows',e4,rfl⟩:=e4
   have hcel:=cel1_ok hr hx hp
   obtain ⟨hcur,hv⟩:=rd_ok hr hcel h1
   have hv:=hv _ e1
   obtain ⟨ad,cap,hy,hcap,hnone⟩:=hv.slice
   obtain ⟨a,b,hab,hb,rfl,ha0,hrun⟩:=cut_bounds hr h2 h3 e2 e3 e4
   have ha0:=ha0 rfl
   subst ha0
   have hadd:(if cap=0 then ad else ad.map (·.add (0*cx.P.cellsOf e)))=ad:=by
    rw[hy] at hv
    split
    ·rfl
    ·cases hv with
     |nil=>rfl
     |emp=>rename_i h0;exact absurd rfl h0
     |sl=>simp[Addr.add_mid]
   unfold Cel.rd at h1
   rw[htag] at h1
   simp only[guardO_some,zC] at h1
   obtain ⟨hl,⟨n,rs0⟩,how,h1⟩:=h1
   simp at h1
   obtain ⟨rfl,rfl⟩:=h1
   have hlo:=hcel.loan (d:= .dead) (by rw[htag];intro n rs e;cases e) (by rw[htag];rfl) (by rw[htag];rintro ⟨_,_,_,e⟩;cases e)
   rw[htag] at hlo
   obtain ⟨d0,v0,ix,d1,g1,g2,g3,_⟩:=hlo hl
   simp[wayW,wayOf] at g2
   subst g2
   rw[loc_nil] at g3
   simp at g3
   obtain ⟨rfl,rfl⟩:=g3
   have hd0:d0= .sl (cx.P.cellsOf e) rows:=by
    unfold root at g1
    simp only[Src.ev] at e1
    rw[e1] at g1
    split at g1
    ·rename_i e' _;simp at g1 e';rw[← g1.1,← e']
    ·cases g1
   subst hd0
   have:=one_step hr hf (t:= .pre s' o' (g.ver s')) (t':= .pre s' o' (g.ver s')) (d:= .sl (cx.P.cellsOf e) ((rows.take b).drop 0)) (x:= .slice ad b cap) rfl
    (fun _=>⟨_,rows,b,ad,rows.length,cap,by rw[g1,hy],by simp,hb,rfl⟩) (Nat.le_refl _) rfl .none
   refine .pure _ _ (fun w=> ?_) this
   have hsize:i.size=cx.P.cellsOf e:=by unfold Program.cellsOf;rw[hi'];rfl
   have hss:∀w,(sizeOf e).run cx.P w= .ok (cx.P.cellsOf e) w:=fun w=>by simp[sizeOf,typeInfo,hi',hsize]
   have hrun':=hrun true cap w hcap
   simp only[Option.map_none] at hrun'
   simp only[execOp,ho,Instr.sliceAt,Sem.run_bind,run_underlying hu,Result.andThen_ok,Instr.slice,hy,Option.map_none,hrun',hss,Sem.run_pure,hadd]
   simp
  ·cases e4
 ·cases e4
theorem isNil_did (hr:Rel k g m) (hf:Fits cx g dst) {op:BinOp} {t yt e:TypeId} {x:Operand} (ho:o.op= .binOp op t x (.const (.pointer none)) yt) (hu:cx.P.underlying t=some (.pointer e)) (hop:op= .eql∨op= .neq)
  {a:Src} {rs:Rts} (h1:slSrc cx.P g t x=some (a,rs)) (hp:Here m x) (he:evIs env [.isNil (op== .neq) dst a] m.σ=some σ'):
  Did cx k g m ⟨[.isNil (op== .neq) dst a],g.tch dst (.val .one [.sc]),[]⟩ σ' o dst:=by
 have he:=evIs_one he
 simp only[I.ev,zA] at he
 obtain ⟨d,e1,e2⟩:=he
 split at e2
 ·rename_i rows
  cases e2
  have hv:=(slSrc_ok hr h1 hp).2 _ e1
  have hform:∃p:Option Addr,vl m x= .pointer p∧p.isNone=rows.isEmpty:=by
   generalize vl m x=y at hv
   cases hv with
   |pnil=>exact ⟨none,rfl,rfl⟩
   |pt=>exact ⟨_,rfl,rfl⟩
  obtain ⟨p,hy,hp'⟩:=hform
  have heq:∀d w,(Op.equalIn (d+1) t (.pointer p) (.pointer none)).run cx.P w= .ok p.isNone w:=fun d w=>by
   cases p<;>simp[Op.equalIn,Sem.run_bind,run_underlying hu]
  have heq':∀w,(Op.equal t (.pointer p) (.pointer none)).run cx.P w= .ok p.isNone w:=heq 9999
  rcases hop with rfl|rfl
  ·have e:(rows.isEmpty !=(BinOp.eql==BinOp.neq))=rows.isEmpty:=by cases rows<;>rfl
   rw[e]
   refine sc_did hr hf (.bool rows.isEmpty) rfl (fun _ _=> .bool) fun w=> ?_
   have hv':vl m (.const (.pointer none))= .pointer none:=rfl
   simp only[execOp,ho,hy,hv',eqGuard,binOp]
   simp[Sem.run_bind,heq',hp']
  ·have e:(rows.isEmpty !=(BinOp.neq==BinOp.neq))= !rows.isEmpty:=by cases rows<;>rfl
   rw[e]
   refine sc_did hr hf (.bool (!rows.isEmpty)) rfl (fun _ _=> .bool) fun w=> ?_
   have hv':vl m (.const (.pointer none))= .pointer none:=rfl
   simp only[execOp,ho,hy,hv',eqGuard,binOp]
   simp[Sem.run_bind,heq',hp']
 ·cases e2
end ops
theorem here_step {k:K} {g:G} {m:M} (hr:Rel k g m) {cx:Cx} {dst:Nat} (hf:Fits cx g dst) {e:Ent} {x:Value} {ds:List D}
  (hent:EntWf (g.tch dst e) e∧EntOk k (g.tch dst e) ⟨m.σ.upd dst ds,updC m.c dst x,m.h,laidCol m.col dst PAR 0 fun _=> .free⟩ dst e):
  Step k g m (g.tch dst e) ⟨m.σ.upd dst ds,updC m.c dst x,m.h,laidCol m.col dst PAR 0 fun _=> .free⟩ (TT cx dst []):=by
 have hd:dst<g.length:=by rw[hf.len];have:=hf.dst;omega
 have:=Step.lay (m':=⟨m.σ.upd dst ds,updC m.c dst x,m.h,laidCol m.col dst PAR 0 fun _=> .free⟩) hr hd (fun y hy=>by simp[St.upd,hy]) (fun y hy=>by simp[updC,hy])
  (hr.mem.laid (Nat.lt_of_lt_of_le hd hr.small) .none _ _) (fun b hb hown=>⟨rfl,laidCol_same (n:=0) (new:=fun _=> .free) (fun e=>by have:=(hr.mem.free b).2 e;omega) (fun e=>(hown dst e).1 rfl) fun u π e=>(hown u (by rw[e];rfl)).2⟩) hent
 refine this.mono hr fun y hy=> ?_
 unfold TT
 rcases hy with hy|hy
 ·exact .inr (.inl hy)
 ·exact .inr (.inr (.inr hy))
theorem ptr_ok {k:K} {g:G} {m:M} (hr:Rel k g m) {t b off:Nat} (h:boxAt g t=some (b,off)) (hp:m.σ t≠[]):∃blk,m.c b= .pointer (some ⟨blk,0,none⟩)∧m.c t= .pointer (some ⟨blk,off,none⟩):=by
 have hE:=hr.ent t
 unfold boxAt at h
 split at h
 ·rename_i e
  simp at h
  obtain ⟨rfl,rfl⟩:=h
  rw[e] at hE
  rcases hE with hE|⟨blk,cs,h1,_⟩
  ·exact absurd hE hp
  ·exact ⟨blk,h1,h1⟩
 ·rename_i b' v off' e
  rw[e] at hE
  split at h
  ·rename_i hv
   split at h
   ·simp at h
    obtain ⟨rfl,rfl⟩:=h
    rcases hE with hE|hE
    ·exact absurd hE hp
    ·exact hE hv
   ·cases h
  ·cases h
 ·cases h
section ops
variable {k:K} {env:Env} {g:G} {m:M} {cx:Cx} {dst:Nat} {σ':St} {o:Oper} {r:Res}
theorem here_ev (he:evIs env (here dst) m.σ=some σ'):σ'=m.σ.upd dst [.bool true]:=by
 have he:=evIs_one he
 simp[I.ev,evs,Src.ev,flat] at he
 exact he.symm
theorem ptr_did (hr:Rel k g m) (hf:Fits cx g dst) {b off blk:Nat} (hb:b≠dst) (h1:m.c b= .pointer (some ⟨blk,0,none⟩)) (hrun:∀w:World,(execOp (vl m) o).run cx.P w= .ok (.value (.pointer (some ⟨blk,off,none⟩))) w)
  (he:evIs env (here dst) m.σ=some σ'):Did cx k g m ⟨here dst,g.tch dst (.ptr b (g.idv b) off),[]⟩ σ' o dst:=by
 rw[here_ev he]
 refine .pure (.pointer (some ⟨blk,off,none⟩)) _ hrun (here_step hr hf ⟨?_, .inr fun _=>⟨blk,by simp[updC,hb,h1],by simp[updC]⟩⟩)
 show g.idv b≤(g.tch dst _).idv b
 exact (Turn.older .tch g dst _).idv b
theorem move_box_did (hr:Rel k g m) (hf:Fits cx g dst) {t:Nat} (ho:o.op= .move (.tmp t)) (ht:t≠dst) {ty:Nat} {ts:List Tag} (he':g.ent t= .box ty ts) (hp:m.σ t≠[]) (he:evIs env (here dst) m.σ=some σ'):
  Did cx k g m ⟨here dst,g.tch dst (.ptr t (g.idv t) 0),[]⟩ σ' o dst:=by
 obtain ⟨blk,h1,h2⟩:=ptr_ok hr (t:=t) (b:=t) (off:=0) (by unfold boxAt;rw[he']) hp
 exact ptr_did hr hf ht h1 (fun w=>by simp[execOp,ho,vl,h2]) he
theorem ptr_fact (hr:Rel k g m) {t b v off:Nat} (he':g.ent t= .ptr b v off) (hp:m.σ t≠[]):g.idv b=v→∃blk,m.c b= .pointer (some ⟨blk,0,none⟩)∧m.c t= .pointer (some ⟨blk,off,none⟩):=by
 have:=hr.ent t
 rw[he'] at this
 rcases this with h|h
 ·exact absurd h hp
 ·exact h
theorem ptr_copy_did (hr:Rel k g m) (hf:Fits cx g dst) {t b v off:Nat} (he':g.ent t= .ptr b v off) (hp:m.σ t≠[]) (hb:b≠dst)
  (hrun:∀w:World,(execOp (vl m) o).run cx.P w= .ok (.value (m.c t)) w) (he:evIs env (here dst) m.σ=some σ'):Did cx k g m ⟨here dst,g.tch dst (.ptr b v off),[]⟩ σ' o dst:=by
 rw[here_ev he]
 have hfact:=ptr_fact hr he' hp
 refine .pure (m.c t) _ hrun (here_step hr hf ⟨?_, .inr fun hv=> ?_⟩)
 ·have:=hr.wf t
  rw[he'] at this
  exact zS this ((Turn.older .tch g dst _).idv b)
 ·have h1:(g.tch dst (.ptr b v off)).idv b=g.idv b:=by
   unfold G.idv
   have:(g.tch dst (.ptr b v off)).at b=g.at b:=Turn.at_ne .tch hb
   rw[this]
  obtain ⟨blk,h2,h3⟩:=hfact (h1.symm.trans hv)
  exact ⟨blk,by simp[updC,hb,h2],by simp[updC,h3]⟩
theorem nilCheck_run {t:Nat} (ho:o.op= .nilCheck (.tmp t)) {a:Addr} (h:m.c t= .pointer (some a)) (w:World):(execOp (vl m) o).run cx.P w= .ok (.value (.pointer (some a))) w:=by
 simp[execOp,ho,vl,h]
theorem fieldAt_run {s:TypeId} {a:Operand} {f:Nat} (ho:o.op= .fieldAddr s a f) {p:Nat×Nat} (hfld:fieldOf cx.P s f=some p) {b off:Nat} (h:vl m a= .pointer (some ⟨b,off,none⟩)) (w:World):
  (execOp (vl m) o).run cx.P w= .ok (.value (.pointer (some ⟨b,off+p.1,none⟩))) w:=by
 unfold fieldOf at hfld
 split at hfld
 ·rename_i fs hu
  simp only[zA,guardO_some] at hfld
  obtain ⟨fd,h1,h2,h3⟩:=hfld
  simp at h2 h3
  subst h3
  have hi:∃i,cx.P.info? fd.type=some i∧i.size≠0:=by
   unfold Program.cellsOf at h2
   cases hq:cx.P.info? fd.type with
   |none=>simp[hq] at h2
   |some i=>simp[hq] at h2;exact ⟨i,rfl,h2⟩
  obtain ⟨i,hi1,hi2⟩:=hi
  simp[execOp,ho,Instr.fieldAt,Sem.run_bind,run_underlying hu,h1,h,Instr.sureAddr,fieldPlace,sizeOf,typeInfo,hi1,hi2,Addr.add_mid]
 ·cases hfld
theorem field_ptr_did (hr:Rel k g m) (hf:Fits cx g dst) {s:TypeId} {a f b off:Nat} (ho:o.op= .fieldAddr s (.tmp a) f) {p:Nat×Nat} (hfld:fieldOf cx.P s f=some p) (hb:boxAt g a=some (b,off)) (hp:m.σ a≠[]) (hbd:b≠dst)
  (he:evIs env (here dst) m.σ=some σ'):Did cx k g m ⟨here dst,g.tch dst (.ptr b (g.idv b) (off+p.1)),[]⟩ σ' o dst:=by
 obtain ⟨blk,h1,h2⟩:=ptr_ok hr hb hp
 exact ptr_did hr hf hbd h1 (fun w=>fieldAt_run ho hfld h2 w) he
end ops
theorem deepOk_laid {k:K} {g:G} {m:M} (hr:Rel k g m) {dst n:Nat} {rs:Rts} (hrd:∀r∈rs,r.1≠dst) {b:Nat} (h:deepOk k m.col rs b):
  deepOk k (laidCol m.col dst PAR n fun _=> .free) rs b:=by
 rcases h with ⟨hc,hf⟩|⟨r,hr',π',hc⟩
 ·refine .inl ⟨?_,hf⟩
  rw[laidCol_same (by rw[hc];simp) (by rw[hc];simp[Color.own]) (fun u π e=>by rw[hc] at e;cases e)]
  exact hc
 ·refine .inr ⟨r,hr',π',?_⟩
  rw[laidCol_same (by rw[hc];simp) (by rw[hc];simp[Color.own];exact hrd r hr') (fun u π e=>by rw[hc] at e;cases e)]
  exact hc
theorem O.row {h:Array Obj} {good:Good} {sz i:Nat} {rows:List (List D)} {row:List D} {x:Value} (ho:O h good (.sl sz rows) x) (hi:rows[i]? =some row):
  ∃(b off cap:Nat) (cs:Array Value) (ty:Nat) (fr:Nat×Nat),x= .slice (some ⟨b,off,none⟩) rows.length cap∧h[b]? =some (.cells cs ty fr)∧good [] b∧row.length=sz∧i<rows.length∧
   off+i*sz+sz≤cs.size∧∀(o:Nat) (d:D),row[o]? =some d→O h (good.sub i o) d (cs.getD (off+i*sz+o) undef):=by
 have hlt:i<rows.length:=by
  rcases zJ i rows.length with h'|h'
  ·exact h'
  ·rw[zG h'] at hi;cases hi
 cases ho with
 |nil=>simp at hlt
 |emp=>simp at hlt
 | @sl _ _ _ b off len cap cs ty fr hg hb hl hc ho hr he=>
  refine ⟨b,off,cap,cs,ty,fr,by rw[hl],hb,hg,hr i row hi,hlt,?_,fun o d hd=>he i o d (by simp[cellAt,hi,hd])⟩
  have h1:(i+1)*sz≤cap*sz:=zR sz (by omega)
  have h2:(i+1)*sz=i*sz+sz:=by rw[Nat.add_mul];omega
  omega
def cellsAt (cs:Array Value) (off n:Nat):List Value:=(List.range n).map fun j=>cs.getD (off+j) undef
theorem cellsAt_get {cs:Array Value} {off n j:Nat} (h:j<n):(cellsAt cs off n)[j]? =some (cs.getD (off+j) undef):=by
 simp[cellsAt,h]
theorem cellsAt_len {cs:Array Value} {off n:Nat}:(cellsAt cs off n).length=n:=by simp[cellsAt]
theorem kinds_one {P:Program} {t:TypeId} {ks:List CK} (h:kinds P t=some ks) (ha:isAggB P t=false):ks.length=1:=by
 unfold kinds at h
 unfold kindsAt at h
 unfold isAggB at ha
 split at h<;>simp at h<;>first|(rw[← h];rfl)|(rename_i hu;rw[hu] at ha;simp at ha)
theorem load_run {P:Program} {ty n:Nat} {w:World} {b off:Nat} {cs:Array Value} {tb:Nat} {fr:Nat×Nat} (hb:w.heap[b]? =some (.cells cs tb fr)) {u:TypeDesc} (hu:P.underlying ty=some u) {i:TypeInfo} (hi:P.info? ty=some i)
  (hn:i.size=n) (ho:off+n≤cs.size) (h1:isAggB P ty=false→n=1):
  ∃v,(Instr.loadAt ty (.pointer (some ⟨b,off,none⟩))).run P w= .ok v w∧cellsV (shapeOf P ty) v=some (cellsAt cs off n):=by
 have hcell:∀j,j<n→w.cell? ⟨b,off+j,none⟩=some (cs.getD (off+j) undef):=fun j hj=>by
  have:off+j<cs.size:=by omega
  simp[World.cell?,hb,Array.getD,this]
 by_cases ha:isAggB P ty=true
 ·refine ⟨.agg (cellsAt cs off n).toArray,?_,by unfold shapeOf;rw[if_pos ha];simp[cellsV]⟩
  have hrow:u.isRow=true:=by
   unfold isAggB at ha
   rw[hu] at ha
   cases u<;>simp_all
  exact run_loadAt_mid w b off ty (cellsAt cs off n) u (fun j v hv=>by
   have hj:j<n:=by
    rcases zJ j n with h'|h'
    ·exact h'
    ·rw[zG (by rw[cellsAt_len];exact h')] at hv;cases hv
   rw[cellsAt_get hj] at hv
   rw[← hv]
   exact hcell j hj) hu hrow (by rw[hi];simp[cellsAt_len,hn])
 ·have ha':isAggB P ty=false:=by simpa using ha
  have hn1:=h1 ha'
  subst hn1
  refine ⟨cs.getD off undef,?_,by unfold shapeOf;rw[if_neg ha];simp[cellsV,cellsAt]⟩
  have hagg:(isAgg ty).run P w= .ok false w:=by
   unfold isAgg
   rw[Sem.run_bind,run_underlying hu w]
   unfold isAggB at ha'
   rw[hu] at ha'
   cases u<;>simp_all
  have hc:=hcell 0 (by omega)
  simp only[Nat.add_zero] at hc
  simp[Instr.loadAt,Instr.sureAddr,loadVar,Sem.run_bind,hagg,load,Sem.run,hc]
theorem root_laid {g:G} {m:M} {dst n s o:Nat} {e:Ent} {ds:List D} {x:Value} (hs:s≠dst):
  root (g.tch dst e) ⟨m.σ.upd dst ds,updC m.c dst x,m.h,laidCol m.col dst PAR n fun _=> .free⟩ s o=root g m s o:=by
 have h1:(g.tch dst e).ent s=g.ent s:=Turn.ent_ne .tch hs
 unfold root
 rw[h1]
 simp[St.upd,updC,hs]
theorem loc_laid {m:M} {dst n s o:Nat} {π ix:List (Nat×Nat)} {d d1:D} {v v1:Value} (hs:s≠dst) (h:loc m.h m.col s o π d v ix=some (d1,v1)):
  loc m.h (laidCol m.col dst PAR n fun _=> .free) s o π d v ix=some (d1,v1):=by
 refine loc_frame ix π h (fun b π' hb=>⟨rfl, .inl (laidCol_same (by rw[hb];simp) (by rw[hb];simp[Color.own];exact hs) fun u π e=>by rw[hb] at e;cases e)⟩) fun b hb=>⟨rfl,?_⟩
 rw[laidCol_same (by rw[hb];simp) (by rw[hb];simp[Color.own]) (fun u π e=>by rw[hb] at e;cases e)]
 exact hb
theorem way_upd {σ:St} {dst:Nat} {ds:List D} {w:List (Nat×Nat×Nat)} (hw:∀y∈w,y.1≠dst):wayOf (σ.upd dst ds) (wayW w)=wayOf σ (wayW w):=
 wayOf_keep fun y hy=>by
  obtain ⟨z,hz,hz2⟩:=mem_wayW hy
  have:=hw z hz
  rw[hz2] at this
  simp[St.upd,this]
structure Spot (g:G) (m:M) (s o v:Nat) (w:List (Nat×Nat×Nat)) (d1:D) (x:Value):Prop where
 cur:curL g s v w=true
 at_:∃d0 v0 ix,root g m s o=some (d0,v0)∧wayOf m.σ (wayW w)=some ix∧loc m.h m.col s o [] d0 v0 ix=some (d1,x)
theorem curL_le {g:G} {s v:Nat} {w:List (Nat×Nat×Nat)} (h:curL g s v w=true):WfL g s v w:=by
 unfold curL at h
 rw[zD] at h
 refine ⟨?_,fun y hy=>Nat.le_of_eq (curW_mem h.2 hy).symm⟩
 exact Nat.le_of_eq (beq_iff_eq.1 h.1).symm
section ops
variable {k:K} {env:Env} {g:G} {m:M} {cx:Cx} {dst:Nat} {σ':St} {o:Oper} {r:Res}
theorem indexAt_run {t e:TypeId} {x i:Operand} (ho:o.op= .indexAddr t x i) (hu:cx.P.underlying t=some (.slice e)) {inf:TypeInfo} (hi:cx.P.info? e=some inf) {kk:IntKind} {n b off len cap:Nat}
  (h1:vl m i= .int kk (n:Int)) (h2:vl m x= .slice (some ⟨b,off,none⟩) len cap) (hn:n<len) (w:World):
  (execOp (vl m) o).run cx.P w= .ok (.value (.pointer (some ⟨b,off+n*cx.P.cellsOf e,none⟩))) w:=by
 have hsize:inf.size=cx.P.cellsOf e:=by unfold Program.cellsOf;rw[hi];rfl
 have hss:∀w,(sizeOf e).run cx.P w= .ok (cx.P.cellsOf e) w:=fun w=>by simp[sizeOf,typeInfo,hi,hsize]
 simp[execOp,ho,Instr.indexAt,h1,h2,asIntOf,Sem.run_bind,run_underlying hu,hn,hss,Addr.add_mid]
theorem idx_did (hr:Rel k g m) (hf:Fits cx g dst) {t e:TypeId} {x i:Operand} (ho:o.op= .indexAddr t x i) (hu:cx.P.underlying t=some (.slice e)) {inf:TypeInfo} (hi:cx.P.info? e=some inf)
  {src n:Src} (hn:scSrc cx.P g cx.P.rt.int i=some n) {s q v:Nat} {w:List (Nat×Nat×Nat)} (hs:s≠dst) (hw:∀y∈w,y.1≠dst)
  (hspot:∀d,src.ev m.σ=some d→Spot g m s q v w d (vl m x)) (hform:∀d,src.ev m.σ=some d→∃good,O m.h good d (vl m x))
  (he:evIs env [.idx dst (cx.P.cellsOf e) src n] m.σ=some σ'):
  Did cx k g m ⟨[.idx dst (cx.P.cellsOf e) src n],g.tch dst (.eptr s q v w dst (g.ver dst+1) 0 (cx.P.cellsOf e)),[]⟩ σ' o dst:=by
 have he:=evIs_one he
 simp only[I.ev,zA] at he
 obtain ⟨d,e1,d2,e2,e3⟩:=he
 split at e3
 ·rename_i sz rows kk nn
  split at e3
  ·rename_i hc
   obtain ⟨hsz,hn0,hn1⟩:=hc
   cases e3
   subst hsz
   obtain ⟨hcur,d0,v0,ix,g1,g2,g3⟩:=hspot _ e1
   obtain ⟨good,hO⟩:=hform _ e1
   have hv2:=flat_int ((scSrc_ok hr hn e2).2 #[] fun _ _=>True)
   have hnn:nn=(nn.toNat:Int):=by omega
   have hlt:nn.toNat<rows.length:=by omega
   obtain ⟨b,off,cap,cs,ty,fr,hx,_,_,_,_,_,_⟩:=hO.row (i:=nn.toNat) (zB hlt)
   rw[hx] at g3
   have hd:dst<g.length:=by rw[hf.len];have:=hf.dst;omega
   have hver:(g.tch dst (.eptr s q v w dst (g.ver dst+1) 0 (cx.P.cellsOf e))).ver dst=g.ver dst+1:=by
    unfold G.ver G.tch
    rw[at_set_self hd]
    rfl
   refine .pure _ _ (fun w=>indexAt_run ho hu hi (by rw[hv2,← hnn]) hx hlt w) (here_step hr hf ⟨⟨(curL_le hcur).older (Turn.older .tch g dst _),by rw[hver];exact Nat.le_refl _⟩, .inr fun _ _=> ?_⟩)
   refine ⟨d0,v0,ix,rows,b,off,rows.length,cap,nn.toNat,by rw[root_laid hs];exact g1,by show wayOf (m.σ.upd dst _) _=_;rw[way_upd hw];exact g2,loc_laid hs g3,?_,hlt,by simp[updC]⟩
   simp[idxOf,St.upd,hn0]
  ·cases e3
 ·cases e3
theorem row_did (hr:Rel k g m) (hf:Fits cx g dst) {t e:TypeId} {x i:Operand} (ho:o.op= .indexAddr t x i) (hu:cx.P.underlying t=some (.slice e)) {inf:TypeInfo} (hi:cx.P.info? e=some inf)
  {src n:Src} {rs:Rts} (hn:scSrc cx.P g cx.P.rt.int i=some n) (hsrc:slSrc cx.P g t x=some (src,rs)) (hp:Here m x) (hrd:∀r∈rs,r.1≠dst)
  (he:evIs env [.row dst (cx.P.cellsOf e) src n] m.σ=some σ'):
  Did cx k g m ⟨[.row dst (cx.P.cellsOf e) src n],g.tch dst (.rptr rs 0),[]⟩ σ' o dst:=by
 have he:=evIs_one he
 simp only[I.ev,zA] at he
 obtain ⟨d,e1,d2,e2,e3⟩:=he
 split at e3
 ·rename_i sz rows kk nn
  split at e3
  ·rename_i hc
   obtain ⟨hsz,hn0⟩:=hc
   subst hsz
   rw[zC] at e3
   obtain ⟨row,e3,rfl⟩:=e3
   obtain ⟨hcur,hv⟩:=slSrc_ok hr hsrc hp
   obtain ⟨b,off,cap,cs,ty,fr,hx,hb,hg,hrow,hlt,hle,hcell⟩:=(hv _ e1).row e3
   have hv2:=flat_int ((scSrc_ok hr hn e2).2 #[] fun _ _=>True)
   have hnn:nn=(nn.toNat:Int):=by omega
   refine .pure _ _ (fun w=>indexAt_run ho hu hi (by rw[hv2,← hnn]) hx hlt w) (here_step hr hf ⟨?_, .inr fun _=> ?_⟩)
   ·intro r hr'
    exact zS (Nat.le_of_eq (curR_iff.1 hcur r hr').symm) ((Turn.older .tch g dst _).ver r.1)
   ·refine ⟨b,off+nn.toNat*cx.P.cellsOf e,cs,ty,fr,hb,by simp[updC],deepOk_laid hr hrd hg,by simp[St.upd];omega,fun o d hd=> ?_⟩
    simp[St.upd] at hd
    exact (hcell o d hd).mono fun π b' hb'=>deepOk_laid hr hrd hb'
  ·cases e3
 ·cases e3
theorem rptr_did (hr:Rel k g m) (hf:Fits cx g dst) {t:Nat} {rs:Rts} {off p:Nat} (he':g.ent t= .rptr rs off) (hp:m.σ t≠[]) (hrd:∀r∈rs,r.1≠dst)
  (hrun:∀w:World,∀b o0,m.c t= .pointer (some ⟨b,o0+off,none⟩)→(execOp (vl m) o).run cx.P w= .ok (.value (.pointer (some ⟨b,o0+(off+p),none⟩))) w)
  (hcur:curR g rs=true) (he:evIs env [.cpy dst t] m.σ=some σ'):Did cx k g m ⟨[.cpy dst t],g.tch dst (.rptr rs (off+p)),[]⟩ σ' o dst:=by
 have he:=evIs_one he
 simp only[I.ev] at he
 split at he
 ·cases he
 ·cases he
  have hE:=hr.ent t
  rw[he'] at hE
  rcases hE with hE|hE
  ·exact absurd hE hp
  ·obtain ⟨b,o0,cs,ty,fr,h1,h2,h3,h4,h5⟩:=hE hcur
   refine .pure _ _ (fun w=>hrun w b o0 h2) (here_step hr hf ⟨?_, .inr fun _=> ?_⟩)
   ·have:=hr.wf t
    rw[he'] at this
    exact WfR.older (Turn.older .tch g dst _) this
   ·refine ⟨b,o0,cs,ty,fr,h1,by simp[updC],deepOk_laid hr hrd h3,by simpa[St.upd] using h4,fun o d hd=> ?_⟩
    simp[St.upd] at hd
    exact (h5 o d hd).mono fun π b' hb'=>deepOk_laid hr hrd hb'
theorem deref_did (hr:Rel k g m) (hf:Fits cx g dst) {ty:TypeId} {t:Nat} (ho:o.op= .nilCheck (.tmp t)) {src:Src} {rs:Rts} (hsrc:slSrc cx.P g ty (.tmp t)=some (src,rs)) (hp:m.σ t≠[]) (hrd:∀r∈rs,r.1≠dst)
  (he:evIs env [.deref dst src] m.σ=some σ'):Did cx k g m ⟨[.deref dst src],g.tch dst (.rptr rs 0),[]⟩ σ' o dst:=by
 have he:=evIs_one he
 simp only[I.ev,zA] at he
 obtain ⟨d,e1,e2⟩:=he
 split at e2
 ·rename_i xs
  cases e2
  obtain ⟨hcur,hv⟩:=slSrc_ok hr hsrc (by intro t' e;cases e;exact hp)
  have hv:=hv _ e1
  have hform:∃(b off:Nat) (cs:Array Value) (ty:Nat) (fr:Nat×Nat),m.c t= .pointer (some ⟨b,off,none⟩)∧deepOk k m.col rs b∧m.h[b]? =some (.cells cs ty fr)∧off+xs.length≤cs.size∧
    ∀(o:Nat) (d:D),xs[o]? =some d→O m.h (fun _=>deepOk k m.col rs) d (cs.getD (off+o) undef):=by
   change O m.h _ _ (m.c t) at hv
   generalize m.c t=y at hv
   cases hv with
   |pt hg hb ho he=>exact ⟨_,_,_,_,_,rfl,hg,hb,ho,he⟩
  obtain ⟨b,off,cs,ty',fr,h1,h2,h3,h4,h5⟩:=hform
  refine .pure _ _ (fun w=>nilCheck_run ho h1 w) (here_step hr hf ⟨?_, .inr fun _=> ?_⟩)
  ·intro r hr'
   exact zS (Nat.le_of_eq (curR_iff.1 hcur r hr').symm) ((Turn.older .tch g dst _).ver r.1)
  ·refine ⟨b,off,cs,ty',fr,h3,by simp[updC],deepOk_laid hr hrd h2,by simpa[St.upd] using h4,fun o d hd=> ?_⟩
   simp[St.upd] at hd
   exact (h5 o d hd).mono fun π b' hb'=>deepOk_laid hr hrd hb'
 ·cases e2
end ops
end Go.Own
