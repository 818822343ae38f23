/- Part 0 of the proof of ConsoleSays: a small language for the program's functions, its soundness, and what the functions do. No conditions beyond the theorems' own. -/
import Derived.Below
import Derived.Deep.LoopGhost
import Derived.Orders
import Derived.OrdersIn
import Derived.RangeFuncLeaves
import Derived.RangeFuncRecord
import Derived.RangeFuncSeq
import Derived.Sort.LoopGhostIn
import Derived.WalkKit
set_option linter.unusedSimpArgs false
set_option linter.unusedVariables false
set_option maxRecDepth 20000
/-
 The small language into which the functions of the given program are read,and what its pieces mean over what is known of memory.
 Nothing here names a program;the numbers of functions and of types stand behind the Oh lists of a numbering.
-/
open Option renaming none -> O, some -> U, map_eq_some_iff -> XZ, bind_eq_some_iff -> X2, isSome_iff_exists -> Ys, bind_some -> YE, map_some -> YH, getD_some -> Y1, map_none -> Y2
open Go.Result renaming andThen_ok -> X0
open Array renaming getElem?_eq_some_iff -> X1, getD_eq_getD_getElem? -> X4, getElem?_setIfInBounds -> Ya, getElem?_eq_getElem -> Yi, toList_map -> Yl, getElem?_push -> Yt, getElem?_eq_none -> Yv, toList_inj -> YF, mapM_eq_mapM_toList -> YO, getElem?_toList -> YR, toList_append -> YW, forIn_toList -> YZ, ext_getElem? -> Y0
open Go.Sem renaming run_bind -> X3, run_pure -> X8, run_map -> Zh
open List renaming mem_cons -> X5, contains_iff_mem -> X9, mem_cons_of_mem -> Yb, all_eq_true -> Yc, mem_append -> Yd, mem_cons_self -> Yf, mem_filterMap -> Yg, range -> Yh, map_cons -> Yj, getElem?_eq_some_iff -> Yk, mem_of_find?_eq_some -> Yo, nodup_append -> Yp, nodup_cons -> Yr, mem_map -> Yu, map_nil -> Yw, mem_append_left -> Yx, isPrefixOf_iff_prefix -> Yz, mem_singleton -> YA, append_of_mem -> YB, nil_append -> YI, nodup_nil -> YJ, mapM_cons -> YK, forIn_cons -> YL, find?_some -> YM, getElem?_append_right -> YN, getElem?_replicate -> YP, find?_cons_of_neg -> YQ, countP_le_length -> YT, mem_map_of_mem -> YX, countP_eq_zero -> YY, getElem?_inj -> Y4, length_cons -> Y5, countP_cons -> Y6, cons_append -> Y7, any_eq_true -> Y8, tail_drop -> Zb, mem_range -> Zc, all_cons -> Zd
open Bool renaming and_eq_true -> X6, false_eq_true -> Ym, or_eq_true -> Yy, not_eq_true' -> YD
open Go.World renaming putObj_heap_other -> Ye, putObj_heap_same -> YG, alloc_heap_new -> YS
open Nat renaming zero_add -> Yn, le_refl -> Yq, ne_of_lt -> YC, le_trans -> YU, add_zero -> YV, pos_of_ne_zero -> Y3, le_of_not_lt -> Y9, lt_irrefl -> Zf, add_assoc -> Zg, mod_lt -> Zi
namespace Go.Cw
open Go
abbrev Heap:=Nat->Option Obj
namespace Heap
def sub (h:Heap) (w:World):Prop:=∀ b o,h b=U o->w.heap[b]?=U o
def le (h h':Heap):Prop:=∀ b o,h b=U o->h' b=U o
def set (h:Heap) (b:Nat) (o:Obj):Heap:=λx=>if x=b then U o else h x
def cells (h:Heap) (b:Nat):Option (Array Value):=
 match h b with
 |some (.cells c _ _)=>U c
 |_=>O
def cell (h:Heap) (a:Addr):Option Value:=
 if a.spot.isSome then O else(h.cells a.block).bind λc=>c[a.off]?
def row (h:Heap) (a:Addr) (n:Nat):Option (Array Value):=
 if n=0 then U #[]else if a.spot.isSome then O else(h.cells a.block).bind λc=>if a.off+n<=c.size then U (c.extract a.off (a.off+n))else O
end Heap
structure Num where
 fid:Nat->Nat
 tid:Nat->Nat
inductive UV where
 |v (x:Value)
 |p (i:Nat) (off:Nat)
 deriving Inhabited
abbrev At:=List (Option Value)
namespace At
def get (e:At) (i:Nat):Option Value:=(e[i]?).join
def put (e:At) (i:Nat) (v:Value):At:=List.set e i (U v)
end At
inductive Bk where
 |int|str|bool
 deriving DecidableEq,Repr,Inhabited
inductive Vw where
 |bool|ptr|iface|slice|map|flat (ks:List Bk)
 deriving DecidableEq,Repr,Inhabited
inductive O1 where
 |slen|llen|mlen
 |fadr (off:Nat)
 |ld|ldn (n:Nat)
 |nilck
 |not|neg
 |conv (k:IntKind)
 |ext (k:Nat)
 |fld (off:Nat)|fldn (off n:Nat)
 |iface (t:Nat)
 |b2s
 |tas (t:Nat) (zero:Value)
 |inv
 deriving Inhabited
inductive O2 where
 |bin (op:BinOp)
 |eqv (c:Vw) (neg:Bool)
 |iadr (size:Nat)
 |aadr (len size:Nat)
 |sidx
 |vidx (len:Nat)
 |vidxn (len size:Nat)
 |lkp (kb:Bk) (zero:Value)|lkpo (kb:Bk) (zero:Value)
 |max|min
 |bput (off n:Nat)
 |capp
 deriving Inhabited
inductive O3 where
 |ssl
 |lsl (size:Nat)
 deriving Inhabited
inductive Ex where
 |var (i:Nat)
 |pad (i:Nat)
 |con (x:Value)
 |mkf (f:Nat)
 |o1 (o:O1) (a:Ex)
 |o2 (o:O2) (a b:Ex)
 |o3 (o:O3) (a b c:Ex)
 |pick (c a b:Ex)
 |cnt (i:Nat)
 |upd (base:Ex) (i n:Nat) (a v:Ex)
 deriving Inhabited
def HA (op:BinOp) (k:IntKind) (x y:Int):Option Value:=
 if y<0 then O else
 match op with
 |.shl=>U (.int k (k.wrap (x*2^(Nat.min y.toNat k.bits))))
 |.shr=>U (.int k (x.fdiv (2^(Nat.min y.toNat k.bits))))
 |_=>O
def Gt (op:BinOp) (k:IntKind) (x y:Int):Option Value:=
 match op with
 |.add=>U (.int k (k.wrap (x+y)))
 |.sub=>U (.int k (k.wrap (x-y)))
 |.mul=>U (.int k (k.wrap (x*y)))
 |.quo=>if y=0 then O else U (.int k (k.wrap (x.tdiv y)))
 |.rem=>if y=0 then O else U (.int k (x.tmod y))
 |.and=>U (.int k (k.wrap (BitVec.ofInt k.bits x &&& BitVec.ofInt k.bits y).toNat))
 |.or=>U (.int k (k.wrap (BitVec.ofInt k.bits x|||BitVec.ofInt k.bits y).toNat))
 |.xor=>U (.int k (k.wrap (BitVec.ofInt k.bits x ^^^ BitVec.ofInt k.bits y).toNat))
 |.eql=>U (.bool (x==y))
 |.neq=>U (.bool (x != y))
 |.lss=>U (.bool (decide (x<y)))
 |.leq=>U (.bool (decide (x<=y)))
 |.gtr=>U (.bool (decide (x>y)))
 |.geq=>U (.bool (decide (x≥y)))
 |_=>O
def SK (op:BinOp) (x y:ByteArray):Option Value:=
 match op with
 |.add=>if x.size+y.size<=9223372036854775807 then U (.string (x++y))else O
 |.eql=>U (.bool (x.toList==y.toList))
 |.neq=>U (.bool (!(x.toList==y.toList)))
 |.lss=>U (.bool (Op.bytesLess x.toList y.toList))
 |.leq=>U (.bool (Op.bytesLess x.toList y.toList||x.toList==y.toList))
 |.gtr=>U (.bool (!(Op.bytesLess x.toList y.toList||x.toList==y.toList)))
 |.geq=>U (.bool (!Op.bytesLess x.toList y.toList))
 |_=>O
def Bj (op:BinOp):Value->Value->Option Value
 |.int k a,.int k' b=>
  match op with
  |.shl=>HA .shl k a b
  |.shr=>HA .shr k a b
  |_=>if k=k' then Gt op k a b else O
 |.string a,.string b=>SK op a b
 |_,_=>O
theorem PE (a b:ByteArray):(a==b)=(a.data==b.data):=by
 cases a;cases b;rfl
theorem Xh {a b:ByteArray} (h:(a==b)=true):a=b:=by
 rw[PE]at h;cases a;cases b;simp at h;subst h;rfl
theorem U1 (a:ByteArray):(a==a)=true:=by
 rw[PE];simp
def Dv:Bk->Value->Value->Option Bool
 |.int,.int k a,.int k' b=>if k=k' then U (a==b)else O
 |.str,.string a,.string b=>U (a==b)
 |.bool,.bool a,.bool b=>U (a==b)
 |_,_,_=>O
def Et:List Bk->List Value->List Value->Option Bool
 |[],[],[]=>U true
 |k::ks,x::xs,y::ys=>
  match Dv k x y with
  |some true=>Et ks xs ys
  |some false=>U false
  |none=>O
 |_,_,_=>O
def NB (c:Vw):Value->Value->Option Bool
 |.bool a,.bool b=>if c=.bool then U (a==b)else O
 |.pointer O,.pointer b=>if c=.ptr then U b.isNone else O
 |.pointer _,.pointer O=>if c=.ptr then U false else O
 |.nilIface,.nilIface=>if c=.iface then U true else O
 |.nilIface,.iface _ _=>if c=.iface then U false else O
 |.iface _ _,.nilIface=>if c=.iface then U false else O
 |.slice O _ _,.slice b _ _=>if c=.slice then U b.isNone else O
 |.slice _ _ _,.slice O _ _=>if c=.slice then U false else O
 |.map O,.map b=>if c=.map then U b.isNone else O
 |.map _,.map O=>if c=.map then U false else O
 |.agg xs,.agg ys=>
  match c with
  |.flat ks=>Et ks xs.toList ys.toList
  |_=>O
 |_,_=>O
def Ec (kb:Bk) (k:Value):List MapEntry->Nat->Option (Option (Nat×Value))
 |[],_=>U O
 |e::es,i=>
  match Dv kb k e.key with
  |some true=>U (U (i,e.val))
  |some false=>Ec kb k es (i+1)
  |none=>O
def BL (h:Heap):Value->Option (List MapEntry)
 |.map O=>U []
 |.map (U r)=>
  match h r with
  |some (.map es _)=>U es.toList
  |_=>O
 |_=>O
def BB:List Value->Option (List UInt8)
 |[]=>U []
 |.int .u8 n::r=>(BB r).map (UInt8.ofNat n.toNat::·)
 |_=>O
def Bw (N:Num) (env:At) (h:Heap) (o:O1) (u:UV):Option UV:=
 match u with
 |.p i off=>
  match o with
  |.fadr d=>U (.p i (off+d))
  |.nilck=>U (.p i off)
  |.ld=>
   match env.get i with
   |some (.agg c)=>(c[off]?).map .v
   |_=>O
  |.ldn n=>
   match env.get i with
   |some (.agg c)=>if off+n<=c.size then U (.v (.agg (c.extract off (off+n))))else O
   |_=>O
  |_=>O
 |.v x=>
  match o,x with
  |.slen,.string s=>U (.v (.int .i64 s.size))
  |.llen,.slice _ n _=>U (.v (.int .i64 n))
  |.mlen,x=>(BL h x).map λes=>.v (.int .i64 es.length)
  |.fadr d,.pointer (U a)=>U (.v (.pointer (U (a.add d))))
  |.ld,.pointer (U a)=>(h.cell a).map .v
  |.ldn n,.pointer (U a)=>(h.row a n).map λc=>.v (.agg c)
  |.nilck,.pointer (U a)=>U (.v (.pointer (U a)))
  |.nilck,.func (.func f) a b=>U (.v (.func (.func f) a b))
  |.not,.bool b=>U (.v (.bool (!b)))
  |.neg,.int k n=>U (.v (.int k (k.wrap (0-n))))
  |.conv k,.int _ n=>U (.v (.int k (k.wrap n)))
  |.ext k,.tuple vs=>(vs[k]?).map .v
  |.fld off,.agg c=>(c[off]?).map .v
  |.fldn off n,.agg c=>U (.v (.agg (c.extract off (off+n))))
  |.iface t,x=>U (.v (.iface (N.tid t) x))
  |.b2s,.slice O _ _=>U (.v (.string .empty))
  |.b2s,.slice (U a) n _=>(h.row a n).bind λc=>(BB c.toList).map λl=>.v (.string ⟨l.toArray⟩)
  |.tas t z,.iface u y=>if u=N.tid t then U (.v (.tuple #[y,.bool true]))else U (.v (.tuple #[z,.bool false]))
  |.tas _ z,.nilIface=>U (.v (.tuple #[z,.bool false]))
  |.inv,.int k n=>U (.v (.int k (k.wrap (BitVec.ofInt k.bits (if k.signed then -1 else k.max) ^^^ BitVec.ofInt k.bits n).toNat)))
  |_,_=>O
def Dy (c:Array Value) (off:Nat):List Value->Array Value
 |[]=>c
 |v::r=>Dy (c.setIfInBounds off v) (off+1) r
def one:Value->Bool
 |.agg _ | .tuple _=>false
 |_=>true
def BA (i:Int) (n:Nat):Bool:=decide (0<=i)&&decide (i<(n:Int))
def A8 (h:Heap) (o:O2) (a b:UV):Option UV:=
 match a,b with
 |.p i off,.v (.int _ n)=>
  match o with
  |.aadr len size=>if BA n len then U (.p i (off+n.toNat*size))else O
  |_=>O
 |.v x,.v y=>
  match o,x,y with
  |.bin op,x,y=>(Bj op x y).map .v
  |.eqv c neg,x,y=>(NB c x y).map λb=>.v (.bool (if neg then !b else b))
  |.iadr size,.slice (U a) len _,.int _ n=>if BA n len then U (.v (.pointer (U (a.add (n.toNat*size)))))else O
  |.aadr len size,.pointer (U a),.int _ n=>if BA n len then U (.v (.pointer (U (a.add (n.toNat*size)))))else O
  |.sidx,.string s,.int _ n=>if BA n s.size then U (.v (.int .u8 (s.data.getD n.toNat 0).toNat))else O
  |.vidx len,.agg c,.int _ n=>if BA n len then(c[n.toNat]?).map .v else O
  |.vidxn len size,.agg c,.int _ n=>if BA n len then U (.v (.agg (c.extract (n.toNat*size) (n.toNat*size+size))))else O
  |.lkp kb zero,m,k=>(BL h m).bind λes=>(Ec kb k es 0).map λr=>.v (match r with|some (_,v)=>v|none=>zero)
  |.lkpo kb zero,m,k=>(BL h m).bind λes=>(Ec kb k es 0).map λr=>.v (match r with|some (_,v)=>.tuple #[v,.bool true]|none=>.tuple #[zero,.bool false])
  |.max,.int k a,.int _ b=>U (.v (.int k (if b>a then b else a)))
  |.min,.int k a,.int _ b=>U (.v (.int k (if b<a then b else a)))
  |.bput off n,.agg c,y=>if y.cells.size=n/\off+n<=c.size then U (.v (.agg (Dy c off y.cells.toList)))else O
  |.capp,.func fn first cs,y=>U (.v (.func fn first (cs.push y)))
  |_,_,_=>O
 |_,_=>O
def JE (o:O3) (a b c:UV):Option UV:=
 match o,a,b,c with
 |.ssl,.v (.string s),.v (.int _ lo),.v (.int _ hi)=>
  if 0<=lo/\lo<=hi/\hi<=(s.size:Int)then U (.v (.string (s.extract lo.toNat hi.toNat)))else O
 |.lsl size,.v (.slice a _ cap),.v (.int _ lo),.v (.int _ hi)=>
  if 0<=lo/\lo<=hi/\hi<=(cap:Int)then U (.v (.slice (if cap=lo.toNat then a else a.map (·.add (lo.toNat*size))) (hi.toNat-lo.toNat) (cap-lo.toNat)))else O
 |_,_,_,_=>O
def ev (N:Num) (env:At) (h:Heap):Ex->Option UV
 |.var i=>(env.get i).map .v
 |.pad i=>(env.get i).map λ_=>.p i 0
 |.con x=>U (.v x)
 |.mkf f=>U (.v (.func (.func (N.fid f)) #[] #[]))
 |.o1 o a=>(ev N env h a).bind (Bw N env h o)
 |.o2 o a b=>(ev N env h a).bind λx=>(ev N env h b).bind λy=>A8 h o x y
 |.o3 o a b c=>(ev N env h a).bind λx=>(ev N env h b).bind λy=>(ev N env h c).bind λz=>JE o x y z
 |.pick c a b=>
  match ev N env h c with
  |some (.v (.bool true))=>ev N env h a
  |some (.v (.bool false))=>ev N env h b
  |_=>O
 |.cnt i=>(env.get i).map .v
 |.upd base i n a v=>
  match ev N env h base,ev N env h a,ev N env h v with
  |some (.v (.agg c)),U (.p j off),U (.v x)=>if j=i/\x.cells.size=n/\off+n<=c.size/\x.cells.toList.all one=true then U (.v (.agg (Dy c off x.cells.toList)))else O
  |_,_,_=>O
def Ei (pb:Nat->Option Nat):UV->Value->Prop
 |.v y,x=>x=y
 |.p i off,x=>∃ b,pb i=U b/\x=.pointer (U ⟨b,off,O⟩)
def Hj (pb:Nat->Option Nat) (env:At) (h:Heap) (w:World):Prop:=
 ∀ i b,pb i=U b->∃ c t,env.get i=U (.agg c)/\w.heap[b]?=U (.cells c t (0,0))/\h b=O
def Ee (P:Program) (t:TypeId):Option Bool:=
 match P.underlying t with
 |some (.struct _)|some (.array _ _)=>U true
 |some _=>U false
 |none=>O
def A7 (P:Program) (t:TypeId):Option Nat:=(P.info? t).map (·.size)
def MW (P:Program) (tk:TypeId->Option Nat):Op->Option (O1×Operand)
 |.call { callee:=.builtin .len,args:=as,argTypes:=ts }=>
  match as.toList,ts.toList with
  |[x],[t]=>
   match P.underlying t with
   |some .string=>U (.slen,x)
   |some (.slice _)=>U (.llen,x)
   |some (.map _ _)=>U (.mlen,x)
   |_=>O
  |_,_=>O
 |.fieldAddr s x f=>
  match P.underlying s with
  |some (.struct fs)=>
   match fs[f]? with
   |some fd=>match A7 P fd.type with
    |some (_+1)=>U (.fadr fd.offset,x)
    |_=>O
   |none=>O
  |_=>O
 |.load t x=>
  match Ee P t,A7 P t with
  |some false,_=>U (.ld,x)
  |some true,U n=>U (.ldn n,x)
  |_,_=>O
 |.nilCheck x=>U (.nilck,x)
 |.unOp .not _ x=>U (.not,x)
 |.unOp .neg _ x=>U (.neg,x)
 |.convert s t x=>
  match P.underlying s,P.underlying t with
  |some (.int _),U (.int k)=>U (.conv k,x)
  |some (.slice e),U .string=>match P.underlying e with
   |some (.int .u8)=>U (.b2s,x)
   |_=>O
  |_,_=>O
 |.extract x k=>U (.ext k,x)
 |.field s x f=>
  match P.underlying s with
  |some (.struct fs)=>
   match fs[f]? with
   |some fd=>match Ee P fd.type,A7 P fd.type with
    |some false,_=>U (.fld fd.offset,x)
    |some true,U n=>U (.fldn fd.offset n,x)
    |_,_=>O
   |none=>O
  |_=>O
 |.makeInterface t x=>
  match P.underlying t,tk t with
  |some (.interface _),_=>O
  |some _,U k=>U (.iface k,x)
  |_,_=>O
 |.unOp .xor _ x=>U (.inv,x)
 |.typeAssert x _ t true=>
  match P.underlying t,tk t,(P.info? t).bind (·.zero)with
  |some (.interface _),_,_=>O
  |some _,U k,U z=>U (.tas k z,x)
  |_,_,_=>O
 |_=>O
section
variable {P:Program} {w:World} {h:Heap} {env:At} {pb:Nat->Option Nat}
theorem Heap.sub_cells {h:Heap} {w:World} (hs:h.sub w) {b:Nat} {c:Array Value} (hc:h.cells b=U c):∃ t fz,w.heap[b]?=U (.cells c t fz):=by
 unfold Heap.cells at hc;split at hc
 ·rename_i c' t fz he;cases hc;exact⟨t,fz,hs b _ he⟩
 ·cases hc
theorem Heap.sub_cell {h:Heap} {w:World} (hs:h.sub w) {a:Addr} {v:Value} (hc:h.cell a=U v):w.cell? a=U v:=by
 unfold Heap.cell at hc;split at hc
 ·cases hc
 ·rename_i hsp;obtain⟨c,h1,h2⟩:=X2.1 hc;obtain⟨t,fz,h3⟩:=Heap.sub_cells hs h1;simp[World.cell?,h3,hsp,h2]
theorem TW {w:World} {a:Addr} {c:Array Value} {t:TypeId} {fz:Nat×Nat} (h:w.heap[a.block]?=U (.cells c t fz)) (hsp:a.spot=O) (j:Nat):w.cell? (a.add j)=c[a.off+j]?:=by
 unfold Addr.add;split
 ·rename_i h0;subst h0;simp[World.cell?,h,hsp]
 ·simp[World.cell?,h]
theorem L3 {b:Nat} {c:Array Value} {t:TypeId} {fz:Nat×Nat} (hw:w.heap[b]?=U (.cells c t fz)) (off n:Nat) (hn:off+n<=c.size) :
  (loadCells ⟨b,off,O⟩ n).run P w=.ok (c.extract off (off+n)) w:=by
 rw[run_loadCells (P:=P) w ⟨b,off,O⟩ n (λj=>c.getD (off+j) undef) (λj hj=>by
  rw[TW (a:=⟨b,off,O⟩) hw rfl];have hlt:off+j<c.size:=by omega
  simp[Array.getD,hlt])]
 congr 1;apply Array.ext
 ·simp;omega
 ·intro i h1 h2;have hi:i<n:=by simpa using h1
  have hlt:off+i<c.size:=by omega
  simp[Array.getD,hlt]
theorem Heap.sub_row {h:Heap} {w:World} (hs:h.sub w) {a:Addr} {n:Nat} {r:Array Value} (hc:h.row a n=U r):(loadCells a n).run P w=.ok r w:=by
 unfold Heap.row at hc;split at hc
 ·rename_i h0;subst h0;cases hc;rw[run_loadCells (P:=P) w a 0 (λ_=>undef) (λj hj=>by omega)];simp
 split at hc
 ·cases hc
 ·rename_i hsp;obtain⟨c,h1,h2⟩:=X2.1 hc;obtain⟨t,fz,h3⟩:=Heap.sub_cells hs h1;split at h2
  ·rename_i hle;cases h2;obtain⟨b,off,sp⟩:=a;cases sp with
   |some s=>simp at hsp
   |none=>exact L3 h3 off n hle
  ·cases h2
end
end Go.Cw
namespace Go.Cw
open Go
variable {P:Program} {w:World} {h:Heap} {env:At} {pb:Nat->Option Nat} {N:Num} {tk:TypeId->Option Nat}
theorem Ay {ρ:Operand->Value} {o:Oper} {op:Op} (e:o.op=op):execOp ρ o=execOp ρ { o with op:=op }:=by
 cases o;simp at e;subst e;rfl
theorem Gl {es:Array MapEntry} {ck r:Nat} (hw:w.heap[r]?=U (.map es ck)):(getObj r).run P w=.ok (.map es ck) w:=by
 simp[getObj,Sem.run,hw]
theorem Bl {pb:Nat->Option Nat} {y x:Value}:Ei pb (.v y) x↔x=y:=Iff.rfl
theorem J4 {i off:Nat} {u':UV} {env:At} (hv:Bw N env h .ld (.p i off)=U u'):∃ c y,env.get i=U (.agg c)/\c[off]?=U y/\u'=.v y:=by
 simp only[Bw]at hv;split at hv
 ·rename_i c hc;obtain⟨y,h1,h2⟩:=XZ.1 hv;exact⟨c,y,hc,h1,h2.symm⟩
 ·cases hv
theorem Ji {i off n:Nat} {u':UV} {env:At} (hv:Bw N env h (.ldn n) (.p i off)=U u'):∃ c,env.get i=U (.agg c)/\off+n<=c.size/\u'=.v (.agg (c.extract off (off+n))):=by
 simp only[Bw]at hv;split at hv
 ·rename_i c hc;split at hv
  ·rename_i hle;cases hv;exact⟨c,hc,hle,rfl⟩
  ·cases hv
 ·cases hv
theorem Ff {t:TypeId} (ha:Ee P t=U false):(isAgg t).run P w=.ok false w:=by
 unfold Ee at ha;split at ha
 ·cases ha
 ·cases ha
 ·rename_i d hn hn2 hd;simp only[isAgg,X3,run_underlying hd,X0];cases d<;>first|rfl|(exact absurd hd (hn _))|(exact absurd hd (hn2 _ _))
 ·cases ha
theorem HK {t:TypeId} (ha:Ee P t=U true):(isAgg t).run P w=.ok true w:=by
 unfold Ee at ha;split at ha
 ·rename_i hd;simp only[isAgg,X3,run_underlying hd,X0];rfl
 ·rename_i hd;simp only[isAgg,X3,run_underlying hd,X0];rfl
 ·cases ha
 ·cases ha
theorem A9 {t:TypeId} {n:Nat} (hn:A7 P t=U n):(sizeOf t).run P w=.ok n w:=by
 obtain⟨i,h1,h2⟩:=XZ.1 hn;subst h2;simp[sizeOf,typeInfo,program,Sem.run,h1]
theorem Id {t:TypeId} (ha:Ee P t=U false) {a:Addr} {v:Value} (hc:w.cell? a=U v):(loadVar t a).run P w=.ok v w:=by
 simp[loadVar,Ff ha,hc]
theorem G9 {t:TypeId} {n:Nat} (ha:Ee P t=U true) (hn:A7 P t=U n) {a:Addr} {c:Array Value} (hc:(loadCells a n).run P w=.ok c w):(loadVar t a).run P w=.ok (.agg c) w:=by
 simp[loadVar,HK ha,A9 hn,hc]
theorem KK (b off d:Nat):(⟨b,off,O⟩:Addr).add d=⟨b,off+d,O⟩:=by
 unfold Addr.add;split<;>simp_all
theorem Mt {f:Value->ByteArray->Sem (ForInStep ByteArray)} (hf:∀ n s,f (.int .u8 n) s=pure (ForInStep.yield (s.push (UInt8.ofNat n.toNat)))) :
  ∀ (l:List Value) (bs:List UInt8) (acc:ByteArray),BB l=U bs->(forIn l acc f).run P w=.ok ⟨(acc.data.toList++bs).toArray⟩ w:=by
 intro l;induction l with
 |nil=>intro bs acc hb;simp[BB]at hb;subst hb;simp
 |cons v l ih=>
  intro bs acc hb;cases v with
  |int k n=>
   cases k<;>simp only[BB]at hb<;>try cases hb
   obtain⟨bs',h1,rfl⟩:=XZ.1 hb;have:=ih bs' (acc.push (UInt8.ofNat n.toNat)) h1;simp only[YL,hf,X3,X8,X0,this];simp[ByteArray.push]
  |_=>simp[BB]at hb
theorem Bp {P:Program} {w:World} {t:TypeId} {z:Value} (hz:(P.info? t).bind (·.zero)=U z):(zeroValue t).run P w=.ok z w:=by
 obtain⟨i,h1,h2⟩:=X2.1 hz;simp[zeroValue,typeInfo,program,Sem.run,h1,h2]
end Go.Cw
namespace Go.Cw
open Go
variable {P:Program} {w:World} {h:Heap} {env:At} {pb:Nat->Option Nat} {N:Num} {tk:TypeId->Option Nat}
def O1.heapy:O1->Bool
 |.mlen | .ld | .ldn _ | .b2s=>true
 |_=>false
theorem OG (htk:∀ t k,tk t=U k->N.tid k=t) {o:Oper} {r:O1} {x:Operand} (hr:MW P tk o.op=U (r,x)) {ρ:Operand->Value} {u u':UV}
  (hu:Ei pb u (ρ x)) (hv:Bw N env h r u=U u') (hs:r.heapy=true->h.sub w) (hp:r.heapy=true->Hj pb env h w):∃ y,(execOp ρ o).run P w=.ok (.value y) w/\Ei pb u' y:=by
 obtain⟨dst,op,ty,pos,after,guard⟩:=o;unfold MW at hr;split at hr
 ·
  rename_i as ts heq;simp only at heq;subst heq;split at hr
  ·rename_i x' t hx ht;obtain⟨as⟩:=as;obtain⟨ts⟩:=ts;simp only at hx ht;subst hx;subst ht;split at hr<;>first|cases hr|skip
   ·rename_i hd;cases u with
    |p i off=>simp[Bw]at hv
    |v z=>
     rw[Bl]at hu;cases z<;>simp only[Bw]at hv<;>try cases hv
     skip
     exact⟨_,by simp[execOp,resolve,invoke,builtin,Builtin.len_,run_underlying hd,hu];rfl,rfl⟩
   ·rename_i hd;cases u with
    |p i off=>simp[Bw]at hv
    |v z=>
     rw[Bl]at hu;cases z<;>simp only[Bw]at hv<;>try cases hv
     skip
     exact⟨_,by simp[execOp,resolve,invoke,builtin,Builtin.len_,run_underlying hd,hu];rfl,rfl⟩
   ·rename_i hd
    skip
    cases u with
    |p i off=>simp[Bw]at hv
    |v z=>
     rw[Bl]at hu;simp only[Bw]at hv;obtain⟨es,h1,rfl⟩:=XZ.1 hv;unfold BL at h1;split at h1
     ·cases h1;exact⟨_,by simp[execOp,resolve,invoke,builtin,Builtin.len_,run_underlying hd,hu];rfl,rfl⟩
     ·split at h1
      ·rename_i es' ck hes;cases h1;exact⟨_,by simp[execOp,resolve,invoke,builtin,Builtin.len_,run_underlying hd,hu,Gl (hs rfl _ _ hes)];rfl,by simp[Ei,goInt]⟩
      ·cases h1
     ·cases h1
  ·cases hr
 ·
  rename_i s x' f heq;simp only at heq;subst heq;split at hr<;>try cases hr
  rename_i fs hd;split at hr<;>try cases hr
  rename_i fd hf;split at hr<;>try cases hr
  rename_i k hk;have hz:(sizeOf fd.type).run P w=.ok (k+1) w:=A9 hk;cases u with
  |p i off=>
   obtain⟨b,hb,he⟩:=hu;simp only[Bw]at hv;cases hv;refine⟨.pointer (U ⟨b,off+fd.offset,O⟩),?_,b,hb,rfl⟩;simp[execOp,Instr.fieldAt,run_underlying hd,hf,he,Instr.sureAddr,fieldPlace,hz,KK]
  |v z=>
   rw[Bl]at hu;cases z with
   |pointer a=>
    cases a with
    |none=>simp only[Bw]at hv;cases hv
    |some a=>
     simp only[Bw]at hv;cases hv;exact⟨_,by simp[execOp,Instr.fieldAt,run_underlying hd,hf,hu,Instr.sureAddr,fieldPlace,hz],rfl⟩
   |_=>simp only[Bw]at hv;cases hv
 ·
  rename_i t x' heq;simp only at heq;subst heq;split at hr
  ·rename_i ha;cases hr;cases u with
   |p i off=>
    obtain⟨b,hb,he⟩:=hu;obtain⟨c,y,h1,h2,rfl⟩:=J4 hv;obtain⟨c',t',h3,h4,h5⟩:=hp rfl i b hb;rw[h1]at h3;cases h3;have hc:w.cell? ⟨b,off,O⟩=U y:=by simp[World.cell?,h4,h2]
    exact⟨y,by simp[execOp,Instr.loadAt,he,Instr.sureAddr,Id ha hc],rfl⟩
   |v z=>
    rw[Bl]at hu;cases z with
    |pointer a=>
     cases a with
     |none=>simp only[Bw]at hv;cases hv
     |some a=>
      simp only[Bw]at hv;obtain⟨y,h1,rfl⟩:=XZ.1 hv;exact⟨y,by simp[execOp,Instr.loadAt,hu,Instr.sureAddr,Id ha (Heap.sub_cell (hs rfl) h1)],rfl⟩
    |_=>simp only[Bw]at hv;cases hv
  ·rename_i n ha hn;cases hr;cases u with
   |p i off=>
    obtain⟨b,hb,he⟩:=hu;obtain⟨c,h1,h2,rfl⟩:=Ji hv;obtain⟨c',t',h3,h4,h5⟩:=hp rfl i b hb;rw[h1]at h3;cases h3;exact⟨_,by simp only[execOp,Instr.loadAt,he,Instr.sureAddr,X3,X8,X0,G9 ha hn (L3 (P:=P) h4 off n h2)],rfl⟩
   |v z=>
    rw[Bl]at hu;cases z with
    |pointer a=>
     cases a with
     |none=>simp only[Bw]at hv;cases hv
     |some a=>
      simp only[Bw]at hv;obtain⟨y,h1,rfl⟩:=XZ.1 hv;exact⟨_,by simp only[execOp,Instr.loadAt,hu,Instr.sureAddr,X3,X8,X0,G9 ha hn (Heap.sub_row (P:=P) (hs rfl) h1)],rfl⟩
    |_=>simp only[Bw]at hv;cases hv
  ·cases hr
 ·
  rename_i x' heq;simp only at heq;subst heq;cases hr;cases u with
  |p i off=>
   obtain⟨b,hb,he⟩:=hu;simp only[Bw]at hv;cases hv;exact⟨.pointer (U ⟨b,off,O⟩),by simp[execOp,he],b,hb,rfl⟩
  |v z=>
   rw[Bl]at hu;cases z with
   |pointer a=>
    cases a with
    |none=>simp only[Bw]at hv;cases hv
    |some a=>simp only[Bw]at hv;cases hv;exact⟨_,by simp[execOp,hu],rfl⟩
   |func fn a b=>
    cases fn<;>simp only[Bw]at hv<;>try cases hv
    exact⟨_,by simp[execOp,hu],rfl⟩
   |_=>simp only[Bw]at hv;cases hv
 ·
  rename_i t x' heq;simp only at heq;subst heq;cases hr;cases u with
  |p i off=>simp[Bw]at hv
  |v z=>
   rw[Bl]at hu;cases z<;>simp only[Bw]at hv<;>try cases hv
   exact⟨_,by simp[execOp,hu,Op.unary],rfl⟩
 ·rename_i t x' heq;simp only at heq;subst heq;cases hr;cases u with
  |p i off=>simp[Bw]at hv
  |v z=>
   rw[Bl]at hu;cases z<;>simp only[Bw]at hv<;>try cases hv
   exact⟨_,by simp[execOp,hu,Op.unary,Op.intArith],rfl⟩
 ·
  rename_i s t x' heq;simp only at heq;subst heq;split at hr
  ·rename_i k0 k hd1 hd2;cases hr;cases u with
   |p i off=>simp[Bw]at hv
   |v z=>
    rw[Bl]at hu;cases z<;>simp only[Bw]at hv<;>try cases hv
    exact⟨_,by simp[execOp,hu,convert,run_underlying hd1,run_underlying hd2,Conv.intToInt],rfl⟩
  ·rename_i e hd1 hd2;split at hr<;>try cases hr
   rename_i hd3;cases u with
   |p i off=>simp[Bw]at hv
   |v z=>
    rw[Bl]at hu;cases z with
    |slice a n c=>
     cases a with
     |none=>
      simp only[Bw]at hv;cases hv;exact⟨_,by simp[execOp,hu,convert,run_underlying hd1,run_underlying hd2,run_underlying hd3,Conv.bytesToString],rfl⟩
     |some a=>
      simp only[Bw]at hv;obtain⟨cs,h1,h2⟩:=X2.1 hv;obtain⟨bs,h3,rfl⟩:=XZ.1 h2;have hl:=Heap.sub_row (P:=P) (hs rfl) h1;refine⟨_,?_,rfl⟩;simp only[execOp,hu,convert,run_underlying hd1,run_underlying hd2,run_underlying hd3,Conv.bytesToString,X3,X8,X0,hl];rw[<-YZ,Mt (λ_ _=>rfl) _ bs _ h3];simp
    |_=>simp only[Bw]at hv;cases hv
  ·cases hr
 ·
  rename_i x' k heq;simp only at heq;subst heq;cases hr;cases u with
  |p i off=>simp[Bw]at hv
  |v z=>
   rw[Bl]at hu;cases z<;>simp only[Bw]at hv<;>try cases hv
   obtain⟨y,h1,rfl⟩:=XZ.1 hv;exact⟨y,by simp[execOp,hu,Instr.extract,h1],rfl⟩
 ·
  rename_i s x' f heq;simp only at heq;subst heq;split at hr<;>try cases hr
  rename_i fs hd;split at hr<;>try cases hr
  rename_i fd hf;split at hr
  ·rename_i ha;cases hr;cases u with
   |p i off=>simp[Bw]at hv
   |v z=>
    rw[Bl]at hu;cases z<;>simp only[Bw]at hv<;>try cases hv
    obtain⟨y,h1,rfl⟩:=XZ.1 hv;exact⟨y,by simp[execOp,hu,Instr.field,run_underlying hd,hf,asAgg,part,Ff ha,h1],rfl⟩
  ·rename_i n ha hn;cases hr;cases u with
   |p i off=>simp[Bw]at hv
   |v z=>
    rw[Bl]at hu;cases z<;>simp only[Bw]at hv<;>try cases hv
    exact⟨_,by simp[execOp,hu,Instr.field,run_underlying hd,hf,asAgg,part,HK ha,A9 hn],rfl⟩
  ·cases hr
 ·
  rename_i t x' heq;simp only at heq;subst heq;split at hr<;>try cases hr
  rename_i d k hni hd hk;cases u with
  |p i off=>simp[Bw]at hv
  |v z=>
   rw[Bl]at hu;simp only[Bw]at hv;cases hv;refine⟨_,?_,rfl⟩;rw[htk _ _ hk];simp only[execOp,hu,Instr.makeInterface,X3,run_underlying hd,X0];cases d<;>first|rfl|(exact absurd hd (hni _ ))
 ·
  rename_i ty' x' heq;simp only at heq;subst heq;cases hr;cases u with
  |p i off=>simp[Bw]at hv
  |v z=>
   rw[Bl]at hu;cases z<;>simp only[Bw]at hv<;>try cases hv
   exact⟨_,by simp only[execOp,hu,Op.unary,Op.intBits];rfl,rfl⟩
 ·
  rename_i x' xt t heq;simp only at heq;subst heq;split at hr<;>try cases hr
  rename_i d k z hni hd hk hz;cases u with
  |p i off=>simp[Bw]at hv
  |v y=>
   rw[Bl]at hu;cases y<;>simp only[Bw]at hv<;>try cases hv
   ·rename_i u0 y0;have hkk:=htk _ _ hk;have hz':=λw=>Bp (P:=P) (w:=w) hz;split at hv<;>cases hv<;>refine⟨_,?_,rfl⟩<;>rename_i hu0
    ·simp only[execOp,hu,Instr.typeAssert,X3,run_underlying hd,X0];cases d<;>first|(simp[hu0,hkk];done)|(exact absurd hd (hni _ ))
    ·simp only[execOp,hu,Instr.typeAssert,X3,run_underlying hd,X0];cases d<;>first|(simp[hkk▸hu0,hz'];done)|(exact absurd hd (hni _ ))
   ·refine⟨_,?_,rfl⟩;simp only[execOp,hu,Instr.typeAssert,X3,run_underlying hd,X0];cases d<;>first|(simp[Bp hz];done)|(exact absurd hd (hni _ ))
 ·cases hr
end Go.Cw
namespace Go.Cw
open Go
def Hm (P:Program) (t:TypeId):Option Bk:=
 match P.underlying t with
 |some (.int _)=>U .int
 |some .string=>U .str
 |some .bool=>U .bool
 |_=>O
def KF (P:Program):List Field->Nat->Option (List Bk)
 |[],_=>U []
 |f::fs,i=>
  if f.offset = i ∧ f.name ≠ "_" then
   match Hm P f.type,KF P fs (i+1)with
   |some k,U ks=>U (k::ks)
   |_,_=>O
  else O
def Fh (P:Program) (t:TypeId):Option Vw:=
 match P.underlying t with
 |some .bool=>U .bool
 |some (.pointer _)=>U .ptr
 |some (.interface _)=>U .iface
 |some (.slice _)=>U .slice
 |some (.map _ _)=>U .map
 |some (.struct fs)=>
  if P.stoodInHeld t=false/\P.eqGuardType P.depth t=false then(KF P fs.toList 0).map .flat else O
 |_=>O
def Dr:Operand->Bool
 |.const .nilIface=>true
 |_=>false
def JF (P:Program) (t:TypeId):Option (Bk×Value):=
 match P.underlying t with
 |some (.map k e)=>
  match Hm P k,(P.info? e).bind (·.zero)with
  |some .bool,_=>O
  |some kb,U z=>U (kb,z)
  |_,_=>O
 |_=>O
def MV (P:Program):Op->Option (O2×Operand×Operand)
 |.binOp op t x y _=>
  match op,P.underlying t with
  |_,U (.int _)|_,U .string=>U (.bin op,x,y)
  |.eql,_=>match Fh P t with
   |some .iface=>if Dr x||Dr y then U (.eqv .iface false,x,y)else O
   |some c=>U (.eqv c false,x,y)
   |none=>O
  |.neq,_=>match Fh P t with
   |some .iface=>if Dr x||Dr y then U (.eqv .iface true,x,y)else O
   |some c=>U (.eqv c true,x,y)
   |none=>O
  |_,_=>O
 |.indexAddr t x i=>
  match P.underlying t with
  |some (.slice e)=>(A7 P e).map λn=>(.iadr n,x,i)
  |some (.array len e)=>(A7 P e).map λn=>(.aadr len n,x,i)
  |_=>O
 |.index t x i=>
  match P.underlying t with
  |some .string=>U (.sidx,x,i)
  |some (.array len e)=>
   match Ee P e,A7 P e with
   |some false,U 1=>U (.vidx len,x,i)
   |some true,U n=>U (.vidxn len n,x,i)
   |_,_=>O
  |_=>O
 |.lookup t x i ok=>
  match JF P t with
  |some (kb,z)=>U (if ok then .lkpo kb z else .lkp kb z,x,i)
  |none=>O
 |.call { callee:=.builtin .max,args:=as,argTypes:=_ }=>
  match as.toList with
  |[x,y]=>U (.max,x,y)
  |_=>O
 |.call { callee:=.builtin .min,args:=as,argTypes:=_ }=>
  match as.toList with
  |[x,y]=>U (.min,x,y)
  |_=>O
 |_=>O
variable {P:Program} {w:World} {h:Heap} {env:At} {pb:Nat->Option Nat} {N:Num}
theorem Dt {i:Int} {n:Nat}:BA i n=true↔0<=i/\i<n:=by simp[BA]
theorem Xu {o:O2} {x y:Value} {u':UV} (hv:A8 h o (.v x) (.v y)=U u'):∃ z,u'=.v z:=by
 simp only[A8]at hv;split at hv
 all_goals first
  |cases hv
  |(obtain⟨z,h1,h2⟩:=X2.1 hv;obtain⟨z,h3,rfl⟩:=XZ.1 h2;exact⟨_,rfl⟩)
  |(obtain⟨z,h1,rfl⟩:=XZ.1 hv;exact⟨_,rfl⟩)
  |(split at hv<;>first|cases hv|skip)
  |exact⟨_,(Option.some.inj hv).symm⟩
 all_goals first
  |exact⟨_,rfl⟩
  |(obtain⟨z,h1,rfl⟩:=XZ.1 hv;exact⟨_,rfl⟩)
theorem Uq {op:BinOp} {k k':IntKind} {a b:Int} {v:Value} (hv:Bj op (.int k a) (.int k' b)=U v) (t:TypeId):(binOp op t (.int k a) (.int k' b)).run P w=.ok v w:=by
 cases op<;>simp only[Bj]at hv
 case shl=>simp only[HA]at hv;split at hv<;>cases hv;rename_i hy;simp[binOp,Op.shift,hy]
 case shr=>simp only[HA]at hv;split at hv<;>cases hv;rename_i hy;simp[binOp,Op.shift,hy]
 all_goals
  split at hv
  ·rename_i hk;subst hk
   first
    |(simp only[Gt]at hv;done)
    |(simp only[Gt]at hv;split at hv<;>cases hv;rename_i hy;simp[binOp,Op.intDiv,hy];done)
    |(simp only[Gt]at hv;cases hv;simp[binOp,Op.intArith,Op.intBits,Op.intCmp];done)
    |(simp only[Gt]at hv;cases hv)
  ·cases hv
theorem Up {op:BinOp} {a b:ByteArray} {v:Value} (hv:Bj op (.string a) (.string b)=U v) (t:TypeId):(binOp op t (.string a) (.string b)).run P w=.ok v w:=by
 simp only[Bj]at hv;cases op<;>simp only[SK]at hv<;>first|(cases hv;simp[binOp,Op.stringOp];done)|cases hv|skip
 split at hv<;>cases hv;rename_i hle;simp[binOp,Op.stringOp,IntKind.max,IntKind.bits,IntKind.signed];omega
theorem HO {op:BinOp} {t:TypeId} {x y:Operand} {a b:Value} (h1:a=.nilIface->b=.nilIface->Dr x=true\/Dr y=true)
  (h2:∀ xs ys,a=.agg xs->b=.agg ys->P.eqGuardType P.depth t=false):(eqGuard op t x y a b).run P w=.ok () w:=by
 have key:(match a,b with
  |.nilIface,.nilIface=>Dr x=true\/Dr y=true
  |.agg _,.agg _=>P.eqGuardType P.depth t=false
  |_,_=>True):=by
  cases a<;>cases b<;>first|exact h1 rfl rfl|exact h2 _ _ rfl rfl|trivial
 unfold eqGuard;cases op<;>try (simp;done)
 all_goals
  simp only[Bool.not_true,Ym,↓reduceIte];split
  ·rcases key with h|h
   ·cases x with
    |const v=>simp
    |_=>simp[Dr]at h
   ·cases y with
    |const v=>simp
    |_=>simp[Dr]at h
  ·simp only at key;simp[program,Sem.run,key]
  ·simp
theorem Ks {t:TypeId} {k:Bk} (hb:Hm P t=U k) {x y:Value} {r:Bool} (hr:Dv k x y=U r) (d:Nat) :
  (Op.equalIn (d+1) t x y).run P w=.ok r w:=by
 unfold Hm at hb;split at hb<;>cases hb<;>rename_i hd<;>cases x<;>cases y<;>simp only[Dv]at hr<;>try cases hr
 ·split at hr<;>cases hr;rename_i hk;subst hk;simp[Op.equalIn,run_underlying hd]
 ·simp[Op.equalIn,run_underlying hd]
 ·simp[Op.equalIn,run_underlying hd]
theorem G5 {t:TypeId} {k:Bk} (hb:Hm P t=U k) {cs:Array Value} {off:Nat} {v:Value} (hv:cs[off]?=U v):(part t cs off).run P w=.ok v w:=by
 have ha:Ee P t=U false:=by
  unfold Hm at hb;unfold Ee;split at hb<;>cases hb<;>rename_i hd<;>simp[hd]
 simp[part,Ff ha,hv]
theorem Pk {d:Nat} {xs ys:Array Value} {f:Field->Option Bool×Unit->Sem (ForInStep (Option Bool×Unit))}
  (hf : ∀ x s, x.name ≠ "_" → f x s = (do
   let a <-part x.type xs x.offset
   let b <-part x.type ys x.offset
   let c <-Op.equalIn (d+1) x.type a b
   if c=false then pure (ForInStep.done (U false,()))else pure (ForInStep.yield (O,())))) :
  ∀ (fs:List Field) (i:Nat) (ks:List Bk) (r:Bool),KF P fs i=U ks->Et ks (xs.toList.drop i) (ys.toList.drop i)=U r ->
   (forIn fs (O,()) f).run P w=.ok (if r then O else U false,()) w:=by
 intro fs;induction fs with
 |nil=>
  intro i ks r hk hc;simp only[KF]at hk;cases hk;cases hx:xs.toList.drop i<;>cases hy:ys.toList.drop i<;>simp only[hx,hy,Et]at hc<;>try cases hc
  simp
 |cons g fs ih=>
  intro i ks r hk hc;simp only[KF]at hk;split at hk<;>try cases hk
  rename_i hoff;obtain⟨ho,hn⟩:=hoff;split at hk<;>cases hk;rename_i k ks' hk1 hk2;cases hx:xs.toList.drop i with
  |nil=>simp[hx,Et]at hc
  |cons x xr=>
   cases hy:ys.toList.drop i with
   |nil=>simp[hx,hy,Et]at hc
   |cons y yr=>
    simp only[hx,hy,Et]at hc;have hxi:xs[i]?=U x:=by
     have:(xs.toList.drop i)[0]?=U x:=by rw[hx];rfl
     simpa using this
    have hyi:ys[i]?=U y:=by
     have:(ys.toList.drop i)[0]?=U y:=by rw[hy];rfl
     simpa using this
    have hxr:xs.toList.drop (i+1)=xr:=by
     have:=congrArg List.tail hx;simpa[Zb]using this
    have hyr:ys.toList.drop (i+1)=yr:=by
     have:=congrArg List.tail hy;simpa[Zb]using this
    split at hc
    ·rename_i he;simp only[YL,hf _ _ hn,X3,ho,G5 hk1 hxi,G5 hk1 hyi,X0,Ks hk1 he];simp only[Bool.true_eq_false,if_false,X8,X0];exact ih (i+1) ks' r hk2 (by rw[hxr,hyr];exact hc)
    ·rename_i he;cases hc;simp only[YL,hf _ _ hn,X3,ho,G5 hk1 hxi,G5 hk1 hyi,X0,Ks hk1 he];simp
    ·cases hc
theorem KZ (d:Nat) {t:TypeId} {fs:Array Field} (hd:P.underlying t=U (.struct fs)) (hst:P.stoodInHeld t=false) {ks:List Bk} (hk:KF P fs.toList 0=U ks)
  {xs ys:Array Value} {r:Bool} (hc:Et ks xs.toList ys.toList=U r):(Op.equalIn (d+1+1) t (.agg xs) (.agg ys)).run P w=.ok r w:=by
 rw[Op.equalIn.eq_2];simp only[X3,run_underlying hd,X0];simp only[program,Sem.run,hst,X0,Ym,if_false,X3];simp only[<-YZ];rw[Pk (P:=P) (w:=w) (d:=d) (xs:=xs) (ys:=ys) (λx s hx=>by simp[hx]) fs.toList 0 ks r hk (by simpa using hc)];cases r<;>simp
theorem Pl {t:TypeId} {fs:Array Field} (hd:P.underlying t=U (.struct fs)) (hst:P.stoodInHeld t=false) {ks:List Bk} (hk:KF P fs.toList 0=U ks)
  {xs ys:Array Value} {r:Bool} (hc:Et ks xs.toList ys.toList=U r):(Op.equal t (.agg xs) (.agg ys)).run P w=.ok r w:=KZ 9998 hd hst hk hc
end Go.Cw
namespace Go.Cw
open Go
variable {P:Program} {w:World} {h:Heap} {env:At} {pb:Nat->Option Nat} {N:Num}
theorem Nz {t:TypeId} {c:Vw} (hc:Fh P t=U c) {x y:Value} {r:Bool} (hr:NB c x y=U r) :
  (Op.equal t x y).run P w=.ok r w:=by
 unfold Fh at hc;split at hc
 all_goals first|cases hc|skip
 case h_6 fs hd=>
  split at hc
  ·rename_i hg;obtain⟨ks,hk,rfl⟩:=XZ.1 hc;cases x<;>cases y
   case agg.agg xs ys=>simp only[NB]at hr;exact Pl hd hg.1 hk hr
   all_goals first
    |(simp[NB]at hr;done)
    |(rename_i a b;cases a<;>cases b<;>simp[NB]at hr;done)
    |(rename_i a1 a2 a3 b1 b2 b3;cases a1<;>cases b1<;>simp[NB]at hr;done)
  ·cases hc
 all_goals
  rename_i hd;rw[show Op.equal t x y=Op.equalIn (9999+1) t x y from rfl,Op.equalIn.eq_2];simp only[X3,run_underlying hd,X0];cases x<;>cases y<;>simp[NB]at hr
 all_goals first
  |(subst hr;simp;done)
  |(rename_i a b;cases a<;>cases b<;>simp[NB]at hr<;>(try subst hr)<;>simp;done)
  |(rename_i a1 a2 a3 b1 b2 b3;cases a1<;>cases b1<;>simp[NB]at hr<;>(try subst hr)<;>simp;done)
theorem UW {c:Vw} {x y:Value} {r:Bool} (hr:NB c x y=U r) (hx:x=.nilIface) (hy:y=.nilIface):c=.iface:=by
 subst hx;subst hy;simp[NB]at hr;exact hr.1
theorem UX {c:Vw} {x y:Value} {r:Bool} (hr:NB c x y=U r) {xs ys:Array Value} (hx:x=.agg xs) (hy:y=.agg ys):∃ ks,c=.flat ks:=by
 subst hx;subst hy;simp only[NB]at hr;split at hr
 ·exact⟨_,rfl⟩
 ·cases hr
theorem Mp {t:TypeId} {ks:List Bk} (hc:Fh P t=U (.flat ks)):P.eqGuardType P.depth t=false:=by
 unfold Fh at hc;split at hc<;>try cases hc
 split at hc
 ·rename_i hg;exact hg.2
 ·cases hc
theorem T1 {t:TypeId} {x y:Value} {c:Vw} {r:Bool} (hr:NB c x y=U r) (neg:Bool) (ht:(Op.equal t x y).run P w=.ok r w) :
  (binOp (if neg then .neq else .eql) t x y).run P w=.ok (.bool (if neg then !r else r)) w:=by
 cases neg<;>cases x<;>cases y<;>first
  |(simp[NB]at hr;done)
  |(simp[binOp,ht];done)
theorem Ut {t:TypeId} {x y:Operand} {ρ:Operand->Value} {c:Vw} {r neg:Bool} (hc:Fh P t=U c) (hn:c=.iface->Dr x=true\/Dr y=true)
  (hr:NB c (ρ x) (ρ y)=U r) {o:Oper} {yt:TypeId} (ho:o.op=.binOp (if neg then .neq else .eql) t x y yt) :
  (execOp ρ o).run P w=.ok (.value (.bool (if neg then !r else r))) w:=by
 obtain⟨dst,op,ty,pos,after,guard⟩:=o;simp only at ho;subst ho;have hg:(eqGuard (if neg then .neq else .eql) t x y (ρ x) (ρ y)).run P w=.ok () w:=HO
  (λh1 h2=>hn (UW hr h1 h2)) (λxs ys h1 h2=>by obtain⟨ks,rfl⟩:=UX hr h1 h2;exact Mp hc)
 simp only[execOp,X3,X8,hg,X0,T1 hr neg (Nz hc hr)]
end Go.Cw
namespace Go.Cw
open Go
variable {P:Program} {w:World} {h:Heap} {env:At} {pb:Nat->Option Nat} {N:Num}
theorem JV {t:TypeId} {kb:Bk} (hb:Hm P t=U kb) {d:TypeDesc} (hd:P.underlying t=U d) {k x:Value} {r:Bool} (hr:Dv kb k x=U r) :
  Instr.sameNow d k x=U r:=by
 unfold Hm at hb;rw[hd]at hb;split at hb<;>cases hb<;>rename_i hd'<;>cases hd'<;>cases k<;>cases x<;>simp only[Dv]at hr<;>try cases hr
 ·split at hr<;>cases hr;rename_i hk;simp[Instr.sameNow,hk]
 ·simp[Instr.sameNow]
 ·simp[Instr.sameNow]
theorem Pi {t:TypeId} {kb:Bk} (hb:Hm P t=U kb) {d:TypeDesc} (hd:P.underlying t=U d) {k:Value}:∀ (es:List MapEntry) (i:Nat) (r:Option (Nat×Value)),
  Ec kb k es i=U r->Instr.findNow d k es i=U r:=by
 intro es;induction es with
 |nil=>intro i r hr;simp only[Ec]at hr;cases hr;rfl
 |cons e es ih=>
  intro i r hr;simp only[Ec]at hr;split at hr
  ·rename_i he;cases hr;simp[Instr.findNow,JV hb hd he]
  ·rename_i he;simp[Instr.findNow,JV hb hd he,ih _ _ hr]
  ·cases hr
theorem Df {t:TypeId} {kb:Bk} (hb:Hm P t=U kb) {k:Value} {es:List MapEntry} {r:Option (Nat×Value)} (hr:Ec kb k es 0=U r) :
  (Instr.findKey t k es).run P w=.ok r w:=by
 obtain⟨d,hd⟩:∃ d,P.underlying t=U d:=by
  unfold Hm at hb;split at hb<;>first|exact⟨_,‹_›⟩|cases hb
 simp[Instr.findKey,run_underlying hd,Pi hb hd _ _ _ hr]
theorem CF {t:TypeId} {kb:Bk} (hb:Hm P t=U kb) (e:Bool) (v:Value):(Instr.checkKey e 10000 t v).run P w=.ok () w:=by
 rw[show Instr.checkKey e 10000 t v=Instr.checkKey e (9999+1) t v from rfl,Instr.checkKey.eq_2];unfold Hm at hb;split at hb<;>cases hb<;>rename_i hd<;>simp[run_underlying hd]
theorem Me {t:TypeId} {kb:Bk} {z:Value} (hm:JF P t=U (kb,z)):∃ k e,P.underlying t=U (.map k e)/\Hm P k=U kb/\(P.info? e).bind (·.zero)=U z:=by
 unfold JF at hm;split at hm
 ·rename_i k e hd;split at hm
  ·cases hm
  ·rename_i kb' z' hk hz;cases hm;exact⟨k,e,hd,hk,hz⟩
  ·cases hm
 ·cases hm
theorem Kt {m:Value} {es:List MapEntry} (he:BL h m=U es) :
  (m=.map O/\es=[])\/∃ r es' ck,m=.map (U r)/\h r=U (.map es' ck)/\es=es'.toList:=by
 unfold BL at he;split at he
 ·cases he;exact .inl ⟨rfl,rfl⟩
 ·split at he
  ·rename_i hh;cases he;exact .inr ⟨_,_,_,rfl,hh,rfl⟩
  ·cases he
 ·cases he
theorem OC {t:TypeId} {kb:Bk} {z:Value} (hm:JF P t=U (kb,z)) (hs:h.sub w) {m k:Value} {es:List MapEntry} (he:BL h m=U es)
  {r:Option (Nat×Value)} (hr:Ec kb k es 0=U r) (ok:Bool) :
  (Instr.lookup t m k ok).run P w=.ok (match r with|some (_,v)=>if ok then .tuple #[v,.bool true]else v|none=>if ok then .tuple #[z,.bool false]else z) w:=by
 obtain⟨kt,et,hd,hk,hz⟩:=Me hm;rcases Kt he with⟨rfl,rfl⟩|⟨b,es',ck,rfl,hh,rfl⟩
 ·simp only[Ec]at hr;cases hr;simp only[Instr.lookup,X3,run_underlying hd,X0,X8,CF hk];simp[Df (P:=P) (w:=w) hk (k:=k) (es:=[]) (r:=O) rfl,Bp hz]
 ·simp only[Instr.lookup,X3,run_underlying hd,X0,X8,CF hk,Gl (hs _ _ hh),Df hk hr];cases r with
  |none=>simp[Bp hz]
  |some p=>obtain⟨i,v⟩:=p;cases ok<;>simp
theorem DM {o:O2} {a b:UV} {u':UV} (hv:A8 h o a b=U u'):(∃x y z,a=.v x/\b=.v y/\u'=.v z)\/∃ i off k n,a=.p i off/\b=.v (.int k n):=by
 cases a with
 |v x=>cases b with
  |v y=>obtain⟨z,rfl⟩:=Xu hv;exact .inl ⟨x,y,z,rfl,rfl,rfl⟩
  |p i off=>simp[A8]at hv
 |p i off=>cases b with
  |v y=>cases y<;>first|exact .inr ⟨_,_,_,_,rfl,rfl⟩|(simp[A8]at hv;done)
  |p i off=>simp[A8]at hv
theorem KY {t e:TypeId} {n:Nat} (hd:P.underlying t=U (.slice e)) (hn:A7 P e=U n) {a:Addr} {len cap:Nat} {k:IntKind} {i:Int} (hb:BA i len=true) :
  (Instr.indexAt t (.slice (U a) len cap) (.int k i)).run P w=.ok (.pointer (U (a.add (i.toNat*n)))) w:=by
 have hb':=Dt.1 hb;simp[Instr.indexAt,asIntOf,run_underlying hd,hb'.1,hb'.2,A9 hn]
theorem Hv {t e:TypeId} {n len:Nat} (hd:P.underlying t=U (.array len e)) (hn:A7 P e=U n) {a:Addr} {k:IntKind} {i:Int} (hb:BA i len=true) :
  (Instr.indexAt t (.pointer (U a)) (.int k i)).run P w=.ok (.pointer (U (a.add (i.toNat*n)))) w:=by
 have hb':=Dt.1 hb;simp[Instr.indexAt,asIntOf,run_underlying hd,hb'.1,hb'.2,A9 hn,Instr.sureAddr]
def O2.heapy:O2->Bool
 |.lkp _ _ | .lkpo _ _=>true
 |_=>false
theorem OF {o:Oper} {r:O2} {x y:Operand} (hr:MV P o.op=U (r,x,y)) {ρ:Operand->Value} {a b u':UV}
  (ha:Ei pb a (ρ x)) (hb:Ei pb b (ρ y)) (hv:A8 h r a b=U u') (hs:r.heapy=true->h.sub w):∃ z,(execOp ρ o).run P w=.ok (.value z) w/\Ei pb u' z:=by
 have bin:∀ {op t yt} {x y:Operand},o.op=.binOp op t x y yt->∀ {a b:UV},Ei pb a (ρ x)->Ei pb b (ρ y)->∀ {u'},A8 h (.bin op) a b=U u'->∃ z,(execOp ρ o).run P w=.ok (.value z) w/\Ei pb u' z:=by
  intro op t yt x y ho a b ha hb u' hv;obtain⟨dst,op',ty,pos,after,guard⟩:=o;simp only at ho;subst ho;rcases DM hv with⟨p,q,z,rfl,rfl,rfl⟩|⟨i,off,k,n,rfl,rfl⟩
  ·rw[Bl]at ha hb;simp only[A8,XZ]at hv;obtain⟨z',h1,h2⟩:=hv;cases h2;refine⟨z,?_,rfl⟩;cases p<;>cases q<;>first|(simp[Bj]at h1;done)|skip
   ·have hg:=HO (P:=P) (w:=w) (op:=op) (t:=t) (x:=x) (y:=y) (a:=ρ x) (b:=ρ y) (λh=>by rw[ha]at h;cases h) (λ_ _ h=>by rw[ha]at h;cases h);simp only[execOp,X3,X8,hg,X0];rw[ha,hb,Uq h1];rfl
   ·have hg:=HO (P:=P) (w:=w) (op:=op) (t:=t) (x:=x) (y:=y) (a:=ρ x) (b:=ρ y) (λh=>by rw[ha]at h;cases h) (λ_ _ h=>by rw[ha]at h;cases h);simp only[execOp,X3,X8,hg,X0];rw[ha,hb,Up h1];rfl
  ·simp[A8]at hv
 have eqq:∀ {neg t yt} {x y:Operand} {c},o.op=.binOp (if neg then .neq else .eql) t x y yt->Fh P t=U c->(c=.iface->Dr x=true\/Dr y=true)->∀ {a b:UV},Ei pb a (ρ x)->Ei pb b (ρ y)->∀ {u'},A8 h (.eqv c neg) a b=U u'->∃ z,(execOp ρ o).run P w=.ok (.value z) w/\Ei pb u' z:=by
  intro neg t yt x y c ho hc hn a b ha hb u' hv;rcases DM hv with⟨p,q,z,rfl,rfl,rfl⟩|⟨i,off,k,n,rfl,rfl⟩
  ·rw[Bl]at ha hb;simp only[A8,XZ]at hv;obtain⟨r,h1,h2⟩:=hv;cases h2;subst ha;subst hb;exact⟨_,Ut hc hn h1 ho,rfl⟩
  ·simp[A8]at hv
 unfold MV at hr;split at hr
 ·rename_i op t x' y' yt heq;split at hr
  ·cases hr;exact bin heq ha hb hv
  ·cases hr;exact bin heq ha hb hv
  ·split at hr
   ·rename_i hc;split at hr<;>cases hr;rename_i hn;exact eqq (neg:=false) heq hc (λ_=>by simpa using hn) ha hb hv
   ·rename_i c hni hc;cases hr;exact eqq (neg:=false) heq hc (λe=>absurd e (by simpa using hni)) ha hb hv
   ·cases hr
  ·split at hr
   ·rename_i hc;split at hr<;>cases hr;rename_i hn;exact eqq (neg:=true) heq hc (λ_=>by simpa using hn) ha hb hv
   ·rename_i c hni hc;cases hr;exact eqq (neg:=true) heq hc (λe=>absurd e (by simpa using hni)) ha hb hv
   ·cases hr
  ·cases hr
 all_goals (obtain⟨dst,op',ty,pos,after,guard⟩:=o)
 ·
  rename_i t x' y' heq;simp only at heq;subst heq;split at hr
  ·rename_i e hd;obtain⟨n,hn,h2⟩:=XZ.1 hr;cases h2;rcases DM hv with⟨p,q,z,rfl,rfl,rfl⟩|⟨i,off,k,n,rfl,rfl⟩
   ·rw[Bl]at ha hb;cases p with
    |slice ad len cap=>
     cases ad with
     |none=>cases q<;>simp[A8]at hv
     |some ad=>
      cases q<;>simp only[A8]at hv<;>try cases hv
      split at hv<;>cases hv;rename_i hbd;exact⟨_,by simp only[execOp,ha,hb,X3,KY hd hn hbd,X0];rfl,rfl⟩
    |_=>cases q<;>simp[A8]at hv
   ·simp[A8]at hv
  ·rename_i len e hd;obtain⟨n,hn,h2⟩:=XZ.1 hr;cases h2;rcases DM hv with⟨p,q,z,rfl,rfl,rfl⟩|⟨i,off,k,m,rfl,rfl⟩
   ·rw[Bl]at ha hb;cases p with
    |pointer ad=>
     cases ad with
     |none=>cases q<;>simp[A8]at hv
     |some ad=>
      cases q<;>simp only[A8]at hv<;>try cases hv
      split at hv<;>cases hv;rename_i hbd;exact⟨_,by simp only[execOp,ha,hb,X3,Hv hd hn hbd,X0];rfl,rfl⟩
    |_=>cases q<;>simp[A8]at hv
   ·obtain⟨b',hb1,hb2⟩:=ha;rw[Bl]at hb;simp only[A8]at hv;split at hv<;>cases hv;rename_i hbd;exact⟨.pointer (U ⟨b',off+m.toNat*n,O⟩),by simp only[execOp,hb2,hb,X3,Hv hd hn hbd,X0,KK];rfl,b',hb1,rfl⟩
  ·cases hr
 ·
  rename_i t x' y' heq;simp only at heq;subst heq;split at hr
  ·rename_i hd;cases hr;rcases DM hv with⟨p,q,z,rfl,rfl,rfl⟩|⟨i,off,k,m,rfl,rfl⟩
   ·rw[Bl]at ha hb;cases p<;>cases q<;>simp only[A8]at hv<;>try cases hv
    rename_i s k m;split at hv<;>cases hv;rename_i hbd;have hbd':=Dt.1 hbd;refine⟨_,?_,rfl⟩;have hlt:m.toNat<s.size:=by omega
    have hg:s[m.toNat]?=U (s.data.getD m.toNat 0):=by
     have hlt':m.toNat<s.data.size:=hlt;rw[getElem?_pos s m.toNat hlt];have e:s.data.getD m.toNat 0=s.data[m.toNat]:=by unfold Array.getD;rw[dif_pos hlt'];rfl
     rw[e];rfl
    simp[execOp,ha,hb,Instr.index,asIntOf,run_underlying hd,hbd'.1,hg]
   ·simp[A8]at hv
  ·rename_i len e hd;split at hr
   ·rename_i hag hsz;cases hr;rcases DM hv with⟨p,q,z,rfl,rfl,rfl⟩|⟨i,off,k,m,rfl,rfl⟩
    ·rw[Bl]at ha hb;cases p<;>cases q<;>simp only[A8]at hv<;>try cases hv
     split at hv<;>try cases hv
     rename_i hbd;have hbd':=Dt.1 hbd;obtain⟨z',h1,h2⟩:=XZ.1 hv;cases h2;exact⟨_,by simp[execOp,ha,hb,Instr.index,asIntOf,run_underlying hd,hbd'.1,hbd'.2,part,Ff hag,A9 hsz,h1],rfl⟩
    ·simp[A8]at hv
   ·rename_i n hag hsz;cases hr;rcases DM hv with⟨p,q,z,rfl,rfl,rfl⟩|⟨i,off,k,m,rfl,rfl⟩
    ·rw[Bl]at ha hb;cases p<;>cases q<;>simp only[A8]at hv<;>try cases hv
     split at hv<;>cases hv;rename_i hbd;have hbd':=Dt.1 hbd;exact⟨_,by simp[execOp,ha,hb,Instr.index,asIntOf,run_underlying hd,hbd'.1,hbd'.2,part,HK hag,A9 hsz],rfl⟩
    ·simp[A8]at hv
   ·cases hr
  ·cases hr
 ·
  rename_i t x' y' ok heq;simp only at heq;subst heq;split at hr<;>try cases hr
  rename_i kb z hm;rcases DM hv with⟨p,q,z',rfl,rfl,rfl⟩|⟨i,off,k,m,rfl,rfl⟩
  ·rw[Bl]at ha hb;cases ok<;>simp only[A8,if_true,if_false,Ym]at hv<;>obtain⟨es,he,h2⟩:=X2.1 hv<;>obtain⟨r,h3,h4⟩:=XZ.1 h2<;>cases h4 <;>
    refine⟨_,?_,rfl⟩<;>simp only[execOp,ha,hb,X3,OC hm (hs rfl) he h3,X0,X8]<;>cases r<;>rfl
  ·cases ok<;>simp[A8]at hv
 ·rename_i as ts heq;simp only at heq;subst heq;split at hr<;>cases hr;rename_i has;obtain⟨as⟩:=as;simp only at has;subst has;rcases DM hv with⟨p,q,z,rfl,rfl,rfl⟩|⟨i,off,k,m,rfl,rfl⟩
  ·rw[Bl]at ha hb;cases p<;>cases q<;>simp only[A8]at hv<;>try cases hv
   exact⟨_,by simp[execOp,resolve,invoke,builtin,Builtin.max_,Builtin.max2,ha,hb],rfl⟩
  ·simp[A8]at hv
 ·rename_i as ts heq;simp only at heq;subst heq;split at hr<;>cases hr;rename_i has;obtain⟨as⟩:=as;simp only at has;subst has;rcases DM hv with⟨p,q,z,rfl,rfl,rfl⟩|⟨i,off,k,m,rfl,rfl⟩
  ·rw[Bl]at ha hb;cases p<;>cases q<;>simp only[A8]at hv<;>try cases hv
   exact⟨_,by simp[execOp,resolve,invoke,builtin,Builtin.min_,Builtin.min2,ha,hb],rfl⟩
  ·simp[A8]at hv
 ·cases hr
end Go.Cw
namespace Go.Cw
open Go
def IOx (P:Program) (t:TypeId) (i:Nat):Option (Nat×Nat):=
 match P.underlying t with
 |some (.struct fs)=>(fs[i]?).bind λf=>(A7 P f.type).map λn=>(f.offset,n)
 |some (.array _ e)=>(A7 P e).map λn=>(i*n,n)
 |_=>O
def Do (P:Program) (σ:Operand->Option Ex) (t:TypeId):Ex->List (Nat×Operand)->Option Ex
 |b,[]=>U b
 |b,(i,x)::r=>
  match IOx P t i,σ x with
  |some (off,n),U e=>Do P σ t (.o2 (.bput off n) b e) r
  |_,_=>O
def Ij (P:Program) (t:TypeId):Bool:=
 match P.underlying t with
 |some (.struct fs)=>fs.toList.all λf=>(A7 P f.type).isSome
 |some (.array _ e)=>(A7 P e).isSome
 |_=>true
def zeroCells (P:Program) (t:TypeId):Option (Array Value):=((P.info? t).bind (·.zero)).map (·.cells)
def Fq (σ:Operand->Option Ex):Ex->List Operand->Option Ex
 |b,[]=>U b
 |b,x::r=>
  match σ x with
  |some e=>Fq σ (.o2 .capp b e) r
  |none=>O
def OZ (σ:Operand->Option Ex):Option Operand->Option Ex
 |none=>U (.con (.int .i64 0))
 |some y=>σ y
def Pc (o:O1) (ex:Ex) (σ:Operand->Option Ex):Option Operand->Option Ex
 |none=>U (.o1 o ex)
 |some y=>σ y
def mk (P:Program) (tk fk:Nat->Option Nat) (σ:Operand->Option Ex) (op:Op):Option Ex:=
 match op with
 |.move x | .assign x=>σ x
 |.pick c a b=>
  match σ c,σ a,σ b with
  |some c,U a,U b=>U (.pick c a b)
  |_,_,_=>O
 |.build t parts=>
  match Ee P t,Ij P t,zeroCells P t with
  |some true,true,U z=>Do P σ t (.con (.agg z)) parts.toList
  |_,_,_=>O
 |.makeFunc (.func f) first caps=>
  match first.toList,fk f with
  |[],U k=>Fq σ (.mkf k) caps.toList
  |_,_=>O
 |.slice t x lo hi O=>
  match σ x with
  |none=>O
  |some ex=>
   match P.underlying t with
   |some .string=>
    match OZ σ lo,Pc .slen ex σ hi with
    |some l,U r=>U (.o3 .ssl ex l r)
    |_,_=>O
   |some (.slice e)=>
    match A7 P e,OZ σ lo,Pc .llen ex σ hi with
    |some n,U l,U r=>U (.o3 (.lsl n) ex l r)
    |_,_,_=>O
   |_=>O
 |op=>
  match MW P tk op with
  |some (o,x)=>(σ x).map (.o1 o)
  |none=>
   match MV P op with
   |some (o,x,y)=>
    match σ x,σ y with
    |some x,U y=>U (.o2 o x y)
    |_,_=>O
   |none=>O
variable {P:Program} {w:World} {h:Heap} {env:At} {pb:Nat->Option Nat} {N:Num} {tk fk:Nat->Option Nat}
theorem RM (off:Nat) (l:List Value):∀ (k:Nat) (c:Array Value),(l.zipIdx k).foldl (λcs x=>cs.setIfInBounds (off+x.2) x.1) c=Dy c (off+k) l:=by
 induction l with
 |nil=>intro k c;rfl
 |cons v l ih=>intro k c;simp only[List.zipIdx_cons,List.foldl_cons,ih,Dy];rfl
theorem Qo (place:Nat->Option (Nat×Nat)) (c:Array Value) (i off n:Nat) (x:Value) (rest:List (Nat×Value)) (hp:place i=U (off,n)) (hx:x.cells.size=n) (hc:off+n<=c.size) :
  Instr.fill place c ((i,x)::rest)=Instr.fill place (Dy c off x.cells.toList) rest:=by
 subst hx;have h1:(x.cells.size≠x.cells.size||off+x.cells.size>c.size)=false:=by simp;omega
 simp only[Instr.fill,hp,h1];congr 1;have:=RM off x.cells.toList 0 c;rw[YV]at this;rw[<-this,<-Array.foldl_toList];simp
theorem KU {α β:Type} (f:α->Sem β) (g:α->β) (w:World):∀ (l:List α),(∀x∈l,(f x).run P w=.ok (g x) w)->(l.mapM f).run P w=.ok (l.map g) w:=by
 intro l;induction l with
 |nil=>intro _;rfl
 |cons x l ih=>
  intro hl;simp only[YK,X3,hl x (by simp),X0,ih (λy hy=>hl y (by simp[hy])),X8,Yj]
theorem JW {α β:Type} (f:α->Sem β) (g:α->β) (w:World) (l:Array α) (hl:∀ x∈l,(f x).run P w=.ok (g x) w):(l.mapM f).run P w=.ok (l.map g) w:=by
 rw[YO];simp only[Zh,KU f g w l.toList (λx hx=>hl x (by simpa using hx)),X0];rw[<-Yl]
def N8 (N:Num) (env:At) (h:Heap) (pb:Nat->Option Nat) (σ:Operand->Option Ex) (ρ:Operand->Value) (x:Operand):Prop:=
 ∀ e u,σ x=U e->ev N env h e=U u->Ei pb u (ρ x)
theorem GP {N:Num} {env:At} {h:Heap} {o:O2} {a b:Ex} {u:UV} (hv:ev N env h (.o2 o a b)=U u):∃ x y,ev N env h a=U x/\ev N env h b=U y/\A8 h o x y=U u:=by
 simp only[ev]at hv;obtain⟨x,h1,h2⟩:=X2.1 hv;obtain⟨y,h3,h4⟩:=X2.1 h2;exact⟨x,y,h1,h3,h4⟩
theorem Jq {N:Num} {env:At} {h:Heap} {o:O1} {a:Ex} {u:UV} (hv:ev N env h (.o1 o a)=U u):∃ x,ev N env h a=U x/\Bw N env h o x=U u:=by
 simp only[ev]at hv;exact X2.1 hv
theorem TH {N:Num} {env:At} {h:Heap} {o:O3} {a b c:Ex} {u:UV} (hv:ev N env h (.o3 o a b c)=U u) :
  ∃ x y z,ev N env h a=U x/\ev N env h b=U y/\ev N env h c=U z/\JE o x y z=U u:=by
 simp only[ev]at hv;obtain⟨x,h1,h2⟩:=X2.1 hv;obtain⟨y,h3,h4⟩:=X2.1 h2;obtain⟨z,h5,h6⟩:=X2.1 h4;exact⟨x,y,z,h1,h3,h5,h6⟩
theorem P0 {off n:Nat} {x y u:UV} (hv:A8 h (.bput off n) x y=U u):∃ c z,x=.v (.agg c)/\y=.v z/\z.cells.size=n/\off+n<=c.size/\u=.v (.agg (Dy c off z.cells.toList)):=by
 cases x with
 |p i o=>cases y with
  |v z=>cases z<;>simp[A8]at hv
  |p _ _=>simp[A8]at hv
 |v x=>cases y with
  |p _ _=>simp[A8]at hv
  |v z=>
   cases x<;>simp only[A8]at hv<;>try cases hv
   split at hv<;>cases hv;rename_i hc;exact⟨_,z,rfl,rfl,hc.1,hc.2,rfl⟩
theorem J9 {σ:Operand->Option Ex} {t:TypeId}:∀ (parts:List (Nat×Operand)) (b e:Ex) (u:UV),Do P σ t b parts=U e->ev N env h e=U u->∃ ub,ev N env h b=U ub:=by
 intro parts;induction parts with
 |nil=>intro b e u hm hv;simp only[Do]at hm;cases hm;exact⟨u,hv⟩
 |cons p parts ih=>
  intro b e u hm hv;obtain⟨i,x⟩:=p;simp only[Do]at hm;split at hm<;>try cases hm
  obtain⟨ub,h1⟩:=ih _ _ _ hm hv;obtain⟨xv,yv,h2,h3,h4⟩:=GP h1;exact⟨_,h2⟩
theorem Hu {σ:Operand->Option Ex} {ρ:Operand->Value} {t:TypeId} {place:Nat->Option (Nat×Nat)} (hpl:∀ i r,IOx P t i=U r->place i=U r) :
  ∀ (parts:List (Nat×Operand)) (b e:Ex) (u:UV) (c:Array Value),(∀p∈parts,N8 N env h pb σ ρ p.2)->Do P σ t b parts=U e->ev N env h e=U u->ev N env h b=U (.v (.agg c)) ->
   ∃ c',u=.v (.agg c')/\Instr.fill place c (parts.map λp=>(p.1,ρ p.2))=U c':=by
 intro parts;induction parts with
 |nil=>
  intro b e u c _ hm hv hb;simp only[Do]at hm;cases hm;rw[hb]at hv;cases hv;exact⟨c,rfl,rfl⟩
 |cons p parts ih=>
  intro b e u c hs hm hv hb;obtain⟨i,x⟩:=p;simp only[Do]at hm;split at hm<;>try cases hm
  rename_i off n ex hp hx;obtain⟨ub,h1⟩:=J9 _ _ _ _ hm hv;obtain⟨xv,yv,h2,h3,h4⟩:=GP h1;rw[hb]at h2;cases h2;obtain⟨c0,z,e1,e2,h5,h6,e3⟩:=P0 h4;cases e1;subst e2;subst e3;have hz:ρ x=z:=hs (i,x) (by simp) ex _ hx h3;obtain⟨c',e4,h7⟩:=ih _ _ _ _ (λp hp=>hs p (by simp[hp])) hm hv h1;refine⟨c',e4,?_⟩;rw[Yj,hz,Qo place c i off n z _ (hpl _ _ hp) h5 h6];exact h7
theorem NO {σ:Operand->Option Ex} {ρ:Operand->Value} {t:TypeId} {parts:Array (Nat×Operand)} {z:Array Value} (ha:Ee P t=U true) (hf:Ij P t=true) (hz:zeroCells P t=U z)
  {e:Ex} {u:UV} (hs:∀ p∈parts.toList,N8 N env h pb σ ρ p.2) (hm:Do P σ t (.con (.agg z)) parts.toList=U e) (hv:ev N env h e=U u) :
  ∃ y,(Instr.build t (parts.map λp=>(p.1,ρ p.2))).run P w=.ok y w/\Ei pb u y:=by
 obtain⟨zv,hz1,rfl⟩:=XZ.1 hz;unfold Ee at ha;split at ha<;>try cases ha
 ·rename_i fs hd;have hpl:∀ i r,IOx P t i=U r->(fs.map λf=>(f.offset,(A7 P f.type).getD 0))[i]?=U r:=by
   intro i r hr;simp only[IOx,hd]at hr;obtain⟨f,h1,h2⟩:=X2.1 hr;obtain⟨n,h3,rfl⟩:=XZ.1 h2;simp[h1,h3]
  obtain⟨c',rfl,h1⟩:=Hu (place:=λi=>(fs.map λf=>(f.offset,(A7 P f.type).getD 0))[i]?) hpl parts.toList _ _ _ _ hs hm hv rfl;refine⟨.agg c',?_,rfl⟩;have hmap:(fs.mapM λf=>do pure (f.offset,<-sizeOf f.type):Sem (Array (Nat×Nat))).run P w=.ok (fs.map λf=>(f.offset,(A7 P f.type).getD 0)) w:=by
   refine JW _ _ w fs λf hf'=>?_;simp only[Ij,hd,Yc]at hf;have hsz:=hf f (by simpa using hf');obtain⟨n,hn⟩:=Ys.1 hsz;simp[A9 hn,hn]
  simp only[Instr.build,X3,Bp hz1,run_underlying hd,X0,hmap];have hl:(parts.map λp=>(p.1,ρ p.2)).toList=parts.toList.map λp=>(p.1,ρ p.2):=by simp
  rw[hl,h1];rfl
 ·rename_i len el hd;simp only[Ij,hd]at hf;obtain⟨n,hn⟩:=Ys.1 hf;have hpl:∀ i r,IOx P t i=U r->(λi=>U (i*n,n)) i=U r:=by
   intro i r hr;simp only[IOx,hd,hn]at hr;exact hr
  obtain⟨c',rfl,h1⟩:=Hu hpl parts.toList _ _ _ _ hs hm hv rfl;refine⟨.agg c',?_,rfl⟩;simp only[Instr.build,X3,Bp hz1,run_underlying hd,X0,A9 hn];have hl:(parts.map λp=>(p.1,ρ p.2)).toList=parts.toList.map λp=>(p.1,ρ p.2):=by simp
  rw[hl,h1];rfl
theorem Ls {σ:Operand->Option Ex}:∀ (l:List Operand) (b e:Ex) (u:UV),Fq σ b l=U e->ev N env h e=U u->∃ ub,ev N env h b=U ub:=by
 intro l;induction l with
 |nil=>intro b e u hm hv;simp only[Fq]at hm;cases hm;exact⟨u,hv⟩
 |cons x l ih=>
  intro b e u hm hv;simp only[Fq]at hm;split at hm<;>try cases hm
  obtain⟨ub,h1⟩:=ih _ _ _ hm hv;obtain⟨xv,yv,h2,h3,h4⟩:=GP h1;exact⟨_,h2⟩
theorem Md {σ:Operand->Option Ex} {ρ:Operand->Value}:∀ (l:List Operand) (b e:Ex) (u:UV) (fn:Fn) (fi cs:Array Value),(∀x∈l,N8 N env h pb σ ρ x)->Fq σ b l=U e->ev N env h e=U u ->
  ev N env h b=U (.v (.func fn fi cs))->u=.v (.func fn fi (cs++(l.map ρ).toArray)):=by
 intro l;induction l with
 |nil=>intro b e u fn fi cs _ hm hv hb;simp only[Fq]at hm;cases hm;rw[hb]at hv;cases hv;simp
 |cons x l ih=>
  intro b e u fn fi cs hs hm hv hb;simp only[Fq]at hm;split at hm<;>try cases hm
  rename_i ex hx;obtain⟨ub,h1⟩:=Ls _ _ _ _ hm hv;obtain⟨xv,yv,h2,h3,h4⟩:=GP h1;rw[hb]at h2;cases h2;cases yv with
  |p i o=>simp[A8]at h4
  |v z=>
   simp only[A8]at h4;cases h4;have hz:ρ x=z:=hs x (by simp) ex _ hx h3;have:=ih _ _ _ fn fi (cs.push z) (λy hy=>hs y (by simp[hy])) hm hv h1;rw[this,<-hz];simp
theorem KT {t:TypeId} (hd:P.underlying t=U .string) {s:ByteArray} {lo hi:Option Value} {l r:Nat} (hl:(lo=O/\l=0)\/∃ k n,lo=U (.int k n)/\0<=n/\l=n.toNat)
  (hr:(hi=O/\r=s.size)\/∃ k n,hi=U (.int k n)/\0<=n/\r=n.toNat) (h1:l<=r) (h2:r<=s.size) :
  (Instr.sliceAt t (.string s) lo hi O).run P w=.ok (.string (s.extract l r)) w:=by
 rcases hl with⟨rfl,rfl⟩|⟨k,n,rfl,hn,rfl⟩<;>rcases hr with⟨rfl,rfl⟩|⟨k',m,rfl,hm,rfl⟩ <;>
  simp only[Instr.sliceAt,X3,run_underlying hd,X0,Instr.slice,Instr.sliceBounds,Instr.sliceBound,asIntOf,X8]<;>simp
 ·simp[hm];intro hb;exfalso;omega
 ·simp[hn];intro hb;exfalso;omega
 ·have h3:m<=(s.size:Int):=by omega
  simp[hm,h3,hn];intro hb;exfalso;omega
theorem L0 {t e:TypeId} {size:Nat} (hd:P.underlying t=U (.slice e)) (hsz:A7 P e=U size) {a:Option Addr} {len cap:Nat} {lo hi:Option Value} {l r:Nat}
  (hl:(lo=O/\l=0)\/∃ k n,lo=U (.int k n)/\0<=n/\l=n.toNat)
  (hr:(hi=O/\r=len)\/∃ k n,hi=U (.int k n)/\0<=n/\r=n.toNat) (h1:l<=r) (h2:r<=cap) :
  (Instr.sliceAt t (.slice a len cap) lo hi O).run P w=.ok (.slice (if cap=l then a else a.map (·.add (l*size))) (r-l) (cap-l)) w:=by
 rcases hl with⟨rfl,rfl⟩|⟨k,n,rfl,hn,rfl⟩<;>rcases hr with⟨rfl,rfl⟩|⟨k',m,rfl,hm,rfl⟩ <;>
  simp only[Instr.sliceAt,X3,run_underlying hd,X0,Instr.slice,Instr.sliceBounds,Instr.sliceBound,asIntOf]<;>simp[A9 hsz]
 ·have h3:m<=(cap:Int):=by omega
  simp[hm];intro hb;exfalso;omega
 ·have h3:n<=(r:Int):=by omega
  simp[hn];intro hb;exfalso;omega
 ·have h3:m<=(cap:Int):=by omega
  have h4:n<=m:=by omega
  simp[hm,h3,hn];intro hb;exfalso;omega
theorem NQ {σ:Operand->Option Ex} {ρ:Operand->Value} {lo:Option Operand} (hs:∀ x,lo=U x->N8 N env h pb σ ρ x) {l:Ex}
  (hl:OZ σ lo=U l) {k:IntKind} {n:Int} (hv:ev N env h l=U (.v (.int k n))) (h0:0<=n) :
  (lo.map ρ=O/\n.toNat=0)\/∃ k m,lo.map ρ=U (.int k m)/\0<=m/\n.toNat=m.toNat:=by
 cases lo with
 |none=>simp only[OZ]at hl;cases hl;simp only[ev]at hv;cases hv;exact .inl ⟨rfl,rfl⟩
 |some y=>exact .inr ⟨k,n,by rw[YH,(hs y rfl l _ hl hv:ρ y=_)],h0,rfl⟩
theorem VR {x y z u:UV} (hv:JE .ssl x y z=U u):∃ s k lo k' hi,x=.v (.string s)/\y=.v (.int k lo)/\z=.v (.int k' hi)/\0<=lo/\lo<=hi/\hi<=(s.size:Int)/\u=.v (.string (s.extract lo.toNat hi.toNat)):=by
 unfold JE at hv;split at hv
 ·split at hv<;>cases hv;rename_i hc;exact⟨_,_,_,_,_,rfl,rfl,rfl,hc.1,hc.2.1,hc.2.2,rfl⟩
 ·rename_i heq;cases heq
 ·cases hv
theorem VS {size:Nat} {x y z u:UV} (hv:JE (.lsl size) x y z=U u):∃ a len cap k lo k' hi,x=.v (.slice a len cap)/\y=.v (.int k lo)/\z=.v (.int k' hi)/\0<=lo/\lo<=hi/\hi<=(cap:Int) /\
  u=.v (.slice (if cap=lo.toNat then a else a.map (·.add (lo.toNat*size))) (hi.toNat-lo.toNat) (cap-lo.toNat)):=by
 cases x with
 |p _ _=>simp[JE]at hv
 |v x=>
  cases y with
  |p _ _=>cases x<;>simp[JE]at hv
  |v y=>
   cases z with
   |p _ _=>cases x<;>cases y<;>simp[JE]at hv
   |v z=>
    cases x<;>cases y<;>cases z<;>simp only[JE]at hv<;>try cases hv
    split at hv<;>cases hv;rename_i hc;exact⟨_,_,_,_,_,_,_,rfl,rfl,rfl,hc.1,hc.2.1,hc.2.2,rfl⟩
def BT (P:Program) (tk:Nat->Option Nat) (op:Op):Bool:=
 match MW P tk op with
 |some (o,_)=>o.heapy
 |none=>
  match MV P op with
  |some (o,_)=>o.heapy
  |none=>false
theorem Tk (htk:∀ t k,tk t=U k->N.tid k=t) (hfk:∀ f k,fk f=U k->N.fid k=f) {σ:Operand->Option Ex} {ρ:Operand->Value} {o:Oper}
  (hsay:∀ x,N8 N env h pb σ ρ x) {e:Ex} {u:UV} (hm:mk P tk fk σ o.op=U e) (hv:ev N env h e=U u) (hs:BT P tk o.op=true->h.sub w) (hp:BT P tk o.op=true->Hj pb env h w) :
  ∃ y,(execOp ρ o).run P w=.ok (.value y) w/\Ei pb u y:=by
 have gen:∀ {e},(match MW P tk o.op with
  |some (o,x)=>(σ x).map (.o1 o)
  |none=>
   match MV P o.op with
   |some (o,x,y)=>
    match σ x,σ y with
    |some x,U y=>U (.o2 o x y)
    |_,_=>O
   |none=>O)=U e->ev N env h e=U u->∃ y,(execOp ρ o).run P w=.ok (.value y) w/\Ei pb u y:=by
  intro e hm hv;split at hm
  ·rename_i r x hr;obtain⟨ex,h1,rfl⟩:=XZ.1 hm;obtain⟨ux,h2,h3⟩:=Jq hv;exact OG htk hr (hsay x ex ux h1 h2) h3 (λhh=>hs (by simp only[BT,hr];exact hh)) (λhh=>hp (by simp only[BT,hr];exact hh))
  ·rename_i hr1;split at hm
   ·rename_i r x y hr;split at hm<;>cases hm;rename_i ex ey hx hy;obtain⟨ux,uy,h2,h3,h4⟩:=GP hv;exact OF hr (hsay x ex ux hx h2) (hsay y ey uy hy h3) h4 (λhh=>hs (by simp only[BT,hr1,hr];exact hh))
   ·cases hm
 unfold mk at hm;split at hm
 ·rename_i x heq;exact⟨ρ x,by rw[Ay heq];rfl,hsay x e u hm hv⟩
 ·rename_i x heq;exact⟨ρ x,by rw[Ay heq];rfl,hsay x e u hm hv⟩
 ·rename_i c a b heq;split at hm<;>cases hm;rename_i ec ea eb hc ha hb;simp only[ev]at hv;split at hv
  ·rename_i h1;have hcv:ρ c=_:=hsay c ec _ hc h1;exact⟨ρ a,by rw[Ay heq];simp[execOp,hcv,asBool],hsay a ea u ha hv⟩
  ·rename_i h1;have hcv:ρ c=_:=hsay c ec _ hc h1;exact⟨ρ b,by rw[Ay heq];simp[execOp,hcv,asBool],hsay b eb u hb hv⟩
  ·cases hv
 ·rename_i t parts heq;split at hm<;>try cases hm
  rename_i z ha hf hz;obtain⟨y,h1,h2⟩:=NO (w:=w) ha hf hz (λp _=>hsay p.2) hm hv;exact⟨y,by rw[Ay heq];simp only[execOp,X3];rw[h1];rfl,h2⟩
 ·rename_i f first caps heq
  split at hm<;>try (cases hm;done)
  rename_i k hfi hk;have:=Md caps.toList _ _ _ _ _ _ (λx _=>hsay x) hm hv rfl;subst this;refine⟨_,?_,rfl⟩;obtain⟨fi⟩:=first
  simp only at hfi;subst hfi;rw[Ay heq,hfk _ _ hk];simp[execOp,Instr.makeFunc];rw[<-Yl]
 ·rename_i t x lo hi heq;split at hm
  ·cases hm
  ·rename_i ex hx;split at hm
   ·rename_i hd;split at hm<;>cases hm;rename_i l r hl hr;obtain⟨ux,ul,ur,h1,h2,h3,h4⟩:=TH hv;obtain⟨s,k,lo',k',hi',rfl,rfl,rfl,h5,h6,h7,rfl⟩:=VR h4;have hxv:ρ x=_:=hsay x ex _ hx h1;refine⟨_,?_,rfl⟩;have hlo:=NQ (ρ:=ρ) (λy _=>hsay y) hl h2 h5;have hhi:(hi.map ρ=O/\hi'.toNat=s.size)\/∃ k n,hi.map ρ=U (.int k n)/\0<=n/\hi'.toNat=n.toNat:=by
     cases hi with
     |none=>
      simp only[Pc]at hr;cases hr;obtain⟨q,h8,h9⟩:=Jq h3;rw[h1]at h8;cases h8;simp only[Bw]at h9;cases h9;exact .inl ⟨rfl,by simp⟩
     |some y=>exact .inr ⟨k',hi',by rw[YH,(hsay y r _ hr h3:ρ y=_)],by omega,rfl⟩
    rw[Ay heq];simp only[execOp,X3,hxv,Y2];rw[KT hd hlo hhi (by omega) (by omega)];rfl
   ·rename_i el hd;split at hm<;>cases hm;rename_i n l r hn hl hr;obtain⟨ux,ul,ur,h1,h2,h3,h4⟩:=TH hv;obtain⟨a,len,cap,k,lo',k',hi',rfl,rfl,rfl,h5,h6,h7,rfl⟩:=VS h4;have hxv:ρ x=_:=hsay x ex _ hx h1;refine⟨_,?_,rfl⟩;have hlo:=NQ (ρ:=ρ) (λy _=>hsay y) hl h2 h5;have hhi:(hi.map ρ=O/\hi'.toNat=len)\/∃ k n,hi.map ρ=U (.int k n)/\0<=n/\hi'.toNat=n.toNat:=by
     cases hi with
     |none=>
      simp only[Pc]at hr;cases hr;obtain⟨q,h8,h9⟩:=Jq h3;rw[h1]at h8;cases h8;simp only[Bw]at h9;cases h9;exact .inl ⟨rfl,by simp⟩
     |some y=>exact .inr ⟨k',hi',by rw[YH,(hsay y r _ hr h3:ρ y=_)],by omega,rfl⟩
    rw[Ay heq];simp only[execOp,X3,hxv,Y2];rw[L0 hd hn hlo hhi (by omega) (by omega)];rfl
   ·cases hm
 ·exact gen hm hv
end Go.Cw
namespace Go.Cw
open Go
inductive Ef where
 |new (t:Nat)
 |bsl (t len:Nat)
 |app (t size bytes:Nat)
 |call (f:Nat)
 |cal
 |mnew
 |mupd (kb:Bk)
 |mdel (kb:Bk)
 |st (n:Nat)
 |cpy (size:Nat)
 |rng
 |nxt
 |ent
 deriving Inhabited
abbrev Ctx:=Nat->List Value->Heap->(Value->Heap->Prop)->Prop
def BN (h:Heap) (size:Nat):Value->Option (Nat×Array Value)
 |.string s=>if size=1 then U (s.size,s.data.map λb=>.int .u8 b.toNat)else O
 |.slice O n _=>if n=0 then U (0,#[])else O
 |.slice (U a) n _=>if n*size=0 then U (n,#[])else(h.row a (n*size)).map λc=>(n,c)
 |_=>O
def putRow (h:Heap) (a:Addr) (l:List Value):Option Heap:=
 match l with
 |[]=>U h
 |_=>
  if a.spot.isSome then O else
  match h a.block with
  |some (.cells c t (0,0))=>if a.off+l.length<=c.size/\l.all one=true then U (h.set a.block (.cells (Dy c a.off l) t (0,0)))else O
  |_=>O
def CN (es:Array MapEntry) (since:Nat) (AN:Array Nat):Array (Option MapEntry):=
 let left:=es.filter λe=>!AN.contains e.born
 let old:=left.filter (·.born<since)
 let new:=left.filter (·.born≥since)
 (if old.isEmpty then #[O]else #[])++(old++new).map U
def By (N:Num) (Γ:Ctx) (f:Ef) (us:List Value) (h:Heap) (K:Value->Heap->Prop):Prop:=
 match f,us with
 |.new t,[x]=>∀ b,h b=O->K (.pointer (U ⟨b,0,O⟩)) (h.set b (.cells x.cells (N.tid t) (0,0)))
 |.bsl t len,[.agg c]=>∀ b,h b=O->K (.slice (U ⟨b,0,O⟩) len len) (h.set b (.cells c (N.tid t) (0,0)))
 |.app t size bytes,[.slice a n cap,x]=>
  ∃ m news,BN h size x=U (m,news) /\
   if n+m<=cap then
    match a with
    |none=>K (.slice O (n+m) cap) h
    |some g=>∃ h',putRow h (g.add (n*size)) news.toList=U h'/\K (.slice (U g) (n+m) cap) h'
   else
    n+m<=maxLen/\(n+m)*bytes<=140737488355328 /\
    ∃ m' olds,BN h size (.slice a n cap)=U (m',olds) /\
     ∀ b cap' tail,h b=O->n+m<=cap'->cap'<=maxLen->tail.size=(cap'-(n+m))*size ->
      K (.slice (U ⟨b,0,O⟩) (n+m) cap') (h.set b (.cells (olds++news++tail) (N.tid t) (0,0)))
 |.call f,us=>Γ f us h K
 |.cal,.func (.func g) first caps::us=>∃ k,N.fid k=g/\first=#[]/\Γ k (us++caps.toList) h K
 |.mnew,[]=>∀ b,h b=O->K (.map (U b)) (h.set b (.map #[] 0))
 |.mupd kb,[.map (U r),k,v]=>
  ∃ es ck,h r=U (.map es ck)/\∃ x,Ec kb k es.toList 0=U x /\
   match x with
   |some (i,_)=>K undef (h.set r (.map (es.modify i λe=>{ e with key:=k,val:=v }) ck))
   |none=>K undef (h.set r (.map (es.push { key:=k,val:=v,born:=ck }) (ck+1)))
 |.mdel kb,[.map (U r),k]=>
  ∃ es ck,h r=U (.map es ck)/\∃ x,Ec kb k es.toList 0=U x /\
   match x with
   |some (i,_)=>K undef (h.set r (.map (es.eraseIdxIfInBounds i) ck))
   |none=>K undef h
 |.st n,[.pointer (U a),x]=>x.cells.size=n/\∃ h',putRow h a x.cells.toList=U h'/\K undef h'
 |.cpy size,[.slice (U g) dn dcap,.slice (U a) sn _]=>
  ∃ c,h.row a (min sn dn*size)=U c/\∃ h',putRow h g c.toList=U h'/\dn<=dcap/\K (.int .i64 (min sn dn:Nat)) h'
 |.rng,[.map O]=>∀ b,h b=O->K (.pointer (U ⟨b,0,O⟩)) (h.set b (.mapIter O 0 #[] 0))
 |.rng,[.map (U m)]=>∃ es ck,h m=U (.map es ck)/\∀ b,h b=O->K (.pointer (U ⟨b,0,O⟩)) (h.set b (.mapIter (U m) ck #[] ck))
 |.nxt,[.pointer (U ⟨r,0,O⟩)]=>
  (∃s1 s2 s3,h r=U (.mapIter O s1 s2 s3)/\K (.tuple #[.bool false]) h) \/
  ∃ m since AN last es ck,h r=U (.mapIter (U m) since AN last)/\h m=U (.map es ck) /\
   (!AN.isEmpty&&!es.isEmpty&&es.all (·.born≥last))=false /\
   (CN es since AN).size≠0 /\
   ∀ c∈(CN es since AN).toList,
    match c with
    |some e=>K (.tuple #[.bool true,e.key,e.val]) (h.set r (.mapIter (U m) since (AN.push e.born) ck))
    |none=>K (.tuple #[.bool false]) h
 |.ent,[.pointer (U ⟨r,0,O⟩)]=>
  ∃ m since AN stepped stamp es,h r=U (.mapIter (U m) since AN stepped)/\AN.back?=U stamp/\h m=U (.map es stepped) /\
   ∃ e,es.find? (·.born==stamp)=U e/\K (.tuple #[e.key,e.val]) h
 |_,_=>False
structure Aw (h h':Heap) (w w':World):Prop where
 sub:h'.sub w'
 size:w.heap.size<=w'.heap.size
 os:w'.os=w.os
 tape:w'.tape=w.tape
 output:w'.output=w.output
 frame:∀ b,b<w.heap.size->h b=O->h' b=O/\w'.heap[b]?=w.heap[b]?
theorem Aw.refl {h:Heap} {w:World} (hs:h.sub w):Aw h h w w:=⟨hs,Yq _,rfl,rfl,rfl,λ_ _ hb=>⟨hb,rfl⟩⟩
theorem Aw.trans {h h' h'':Heap} {w w' w'':World} (a:Aw h h' w w') (b:Aw h' h'' w' w''):Aw h h'' w w'':=
 ⟨b.sub,YU a.size b.size,b.os.trans a.os,b.tape.trans a.tape,b.output.trans a.output,λk hk hn=>
  let ⟨h1,h2⟩:=a.frame k hk hn
  let ⟨h3,h4⟩:=b.frame k (Nat.lt_of_lt_of_le hk a.size) h1
  ⟨h3,h4.trans h2⟩⟩
theorem Aw.drew0 {h h':Heap} {w w':World} {n:Nat} (a:Aw h h' { w with drawn:=n } w'):Aw h h' w w':=⟨a.sub,a.size,a.os,a.tape,a.output,a.frame⟩
theorem Heap.fresh {h:Heap} {w:World} (hs:h.sub w) {b:Nat} (hb:w.heap.size<=b):h b=O:=by
 cases hh:h b with
 |none=>rfl
 |some o=>
  have:=hs b o hh;rw[Yv hb]at this;cases this
theorem Aw.push {h:Heap} {w:World} (hs:h.sub w) (o:Obj):Aw h (h.set w.heap.size o) w { w with heap:=w.heap.push o }:=by
 refine⟨?_,by simp,rfl,rfl,rfl,?_⟩
 ·intro b o' hb;simp only[Heap.set]at hb;split at hb
  ·rename_i e;cases hb;subst e;simp
  ·have:=hs b o' hb;have hlt:=(X1.1 this).1;simp[Yt,YC hlt,this]
 ·intro b hlt hn;refine⟨by simp[Heap.set,YC hlt,hn],by simp[Yt,YC hlt]⟩
theorem Aw.setObj {h:Heap} {w:World} (hs:h.sub w) {r:Nat} {o:Obj} (hr:h r=U o) (o':Obj):Aw h (h.set r o') w { w with heap:=w.heap.setIfInBounds r o' }:=by
 have hlt:=(X1.1 (hs r o hr)).1;refine⟨?_,by simp,rfl,rfl,rfl,?_⟩
 ·intro b x hb;simp only[Heap.set]at hb;split at hb
  ·rename_i e;cases hb;subst e;simp[hlt]
  ·rename_i e;have:=hs b x hb;simp[Ya,Ne.symm e,this]
 ·intro b hb hn;have e:b≠r:=by intro e;subst e;rw[hr]at hn;cases hn
  exact⟨by simp[Heap.set,e,hn],by simp[Ya,Ne.symm e]⟩
variable {P:Program} {w:World} {h:Heap} {N:Num}
theorem MU {α:Type} {a:Array α} {b:Nat} {x:α} (hx:a[b]?=U x):a.setIfInBounds b x=a:=by
 apply Y0;intro i;simp only[Ya];split
 ·rename_i e;subst e;obtain⟨hlt,he⟩:=X1.1 hx;simp[hlt,he]
 ·rfl
theorem Ox {b off:Nat} {c:Array Value} {t:TypeId} {v:Value} (hw:w.heap[b]?=U (.cells c t (0,0))) :
  w.setCell ⟨b,off,O⟩ v={ w with heap:=w.heap.setIfInBounds b (.cells (c.setIfInBounds off v) t (0,0)) }:=by
 obtain⟨hlt,he⟩:=X1.1 hw;simp only[World.setCell];congr 1;apply Y0;intro i;simp only[Array.getElem?_modify,Ya];split
 ·rename_i e;subst e;simp[hlt,he]
 ·rfl
theorem KS {b off:Nat} {c:Array Value} {t:TypeId} {v:Value} (hw:w.heap[b]?=U (.cells c t (0,0))) (ho:off<c.size) (h1:one v=true) :
  (store ⟨b,off,O⟩ v).run P w=.ok () { w with heap:=w.heap.setIfInBounds b (.cells (c.setIfInBounds off v) t (0,0)) }:=by
 rw[<-Ox hw];have hc:w.cell? ⟨b,off,O⟩=U c[off]:=by simp[World.cell?,hw,ho]
 have hf:w.frozen? ⟨b,off,O⟩=false:=by simp[World.frozen?,hw]
 cases v<;>first|(simp[one]at h1;done)|simp[store,Sem.run,hc,hf]
theorem EN {b off:Nat} {t:TypeId}:∀ (l:List Value) (i:Nat) (c:Array Value) (w:World),w.heap[b]?=U (.cells c t (0,0))->off+i+l.length<=c.size->l.all one=true ->
  (storeCells ⟨b,off,O⟩ l i).run P w=.ok () { w with heap:=w.heap.setIfInBounds b (.cells (Dy c (off+i) l) t (0,0)) }:=by
 intro l;induction l with
 |nil=>intro i c w hw _ _;simp[storeCells,Dy,MU hw]
 |cons v l ih=>
  intro i c w hw hle h1;simp only[Zd,X6]at h1;simp only[Y5]at hle;have hlt:=(X1.1 hw).1;simp only[storeCells,X3,KK,KS hw (by omega:off+i<c.size) h1.1,X0];rw[ih (i+1) (c.setIfInBounds (off+i) v) _ (by simp[hlt]) (by simp;omega) h1.2];simp[Dy,Zg]
theorem HC (hs:h.sub w) {a:Addr} {l:List Value} {h':Heap} (hp:putRow h a l=U h'):∃ w',(storeCells a l).run P w=.ok () w'/\Aw h h' w w':=by
 unfold putRow at hp;split at hp
 ·cases hp;exact⟨w,rfl,Aw.refl hs⟩
 ·split at hp
  ·cases hp
  ·rename_i hsp;split at hp
   ·rename_i c t hb;split at hp<;>cases hp;rename_i hc;obtain⟨b,off,sp⟩:=a;cases sp with
    |some s=>simp at hsp
    |none=>exact⟨_,EN l 0 c w (hs _ _ hb) (by simpa using hc.1) hc.2,by simpa using Aw.setObj hs hb _⟩
   ·cases hp
theorem Oz (t:TypeId) (c:Array Value):(newRow t c).run P w=.ok ⟨w.heap.size,0,O⟩ { w with heap:=w.heap.push (.cells c t) }:=by
 simp[newRow,newObj,Sem.run]
end Go.Cw
namespace Go.Cw
open Go
variable {P:Program} {w:World} {h:Heap} {N:Num}
theorem Ht (hs:h.sub w) {size m:Nat} {x:Value} {c:Array Value} (hn:BN h size x=U (m,c)) :
  (Builtin.lenOf x).run P w=.ok m w/\(∀w',h.sub w'->(Builtin.firstCells size m x).run P w'=.ok c w'):=by
 unfold BN at hn;split at hn
 ·split at hn<;>cases hn;refine⟨rfl,λw' _=>?_⟩;simp[Builtin.firstCells]
 ·split at hn<;>cases hn;rename_i h0;subst h0;exact⟨rfl,λw' _=>rfl⟩
 ·split at hn
  ·cases hn;rename_i a n cap h0;refine⟨rfl,λw' _=>?_⟩;simp[Builtin.firstCells,h0,loadCells,loadCellsFrom]
  ·obtain⟨c',h1,h2⟩:=XZ.1 hn;cases h2;refine⟨rfl,λw' hs'=>?_⟩;simp[Builtin.firstCells,Heap.sub_row hs' h1]
 ·cases hn
structure Xo (P:Program) (ts:Array TypeId) (e:TypeId) (size bytes:Nat):Prop where
 t:∃ t tx,ts=#[t,tx]/\P.underlying t=U (.slice e)/\(P.underlying tx=U .string\/∃ e',P.underlying tx=U (.slice e'))
 i:∃ i z,P.info? e=U i/\i.size=size/\i.bytes=bytes/\i.zero=U z/\z.cells.size=size
theorem JX {need old:Nat} {e:TypeId} (hn:need<=maxLen):∃ cap,need<=cap/\cap<=maxLen/\cap=(Question.appendCap need old e).cut (w.tape w.drawn (.appendCap need old e)):=by
 refine⟨(Question.appendCap need old e).cut (w.tape w.drawn (.appendCap need old e)),by simp[Question.cut],?_,rfl⟩;have hlt:=Zi (w.tape w.drawn (.appendCap need old e)) (show 0<2^63-need by simp only[maxLen]at hn;omega);simp only[Question.cut,maxLen]at hn ⊢;omega
theorem Ur {ts:Array TypeId} {e:TypeId} {t size bytes:Nat} (ht:Xo P ts e size bytes) (hk:N.tid t=e) (hs:h.sub w) {s x:Value} {K:Value->Heap->Prop} {Γ:Ctx}
  (hK:By N Γ (.app t size bytes) [s,x] h K) (ty:TypeId):∃ v w' h',(Builtin.append_ ts ty #[s,x]).run P w=.ok v w'/\K v h'/\Aw h h' w w':=by
 obtain⟨⟨t1,tx,rfl,hd,hdx⟩,i,z,hi,hsz,hby,hz,hzc⟩:=ht;cases s with
 |slice a n cap=>
  simp only[By]at hK;obtain⟨m,news,hn,hK⟩:=hK;obtain⟨hlen,hfirst⟩:=Ht (P:=P) hs hn;have hsize:∀ w:World,(sizeOf e).run P w=.ok size w:=λw=>by simp[sizeOf,typeInfo,program,Sem.run,hi,hsz]
  have hinfo:∀ w:World,(typeInfo e).run P w=.ok i w:=λw=>by simp[typeInfo,program,Sem.run,hi]
  have hzero:∀ w:World,(zeroValue e).run P w=.ok z w:=λw=>by simp[zeroValue,hinfo,hz]
  rcases hdx with hdx|⟨e',hdx⟩
  all_goals
   by_cases hle:n+m<=cap
   ·simp only[hle,if_true]at hK;cases a with
    |none=>
     refine⟨_,w,h,?_,hK,Aw.refl hs⟩;simp[Builtin.append_,run_underlying hd,hsize,run_underlying hdx,hlen,hfirst w hs,hle]
    |some g=>
     obtain⟨h',hp,hK⟩:=hK;obtain⟨w',h1,h2⟩:=HC (P:=P) hs hp;refine⟨_,w',h',?_,hK,h2⟩;simp[Builtin.append_,run_underlying hd,hsize,run_underlying hdx,hlen,hfirst w hs,hle,h1]
   ·simp only[hle,if_false]at hK;obtain⟨h63,hb,m',olds,ho,hK⟩:=hK;obtain⟨hlen',hfirst'⟩:=Ht (P:=P) hs ho;have hm':m'=n:=by
     have:(Builtin.lenOf (.slice a n cap)).run P w=.ok n w:=rfl;rw[this]at hlen';cases hlen';rfl
    subst hm';obtain⟨cap',hc1,hc2,hch⟩:=JX (w:=w) (old:=cap) (e:=e) h63;have hfit:¬ (Builtin.nextslicecap (m'+m) cap*i.bytes>281474976710656):=by
     have:=growslice_fits (need:=m'+m) (old:=cap) (bytes:=i.bytes) (by omega) (by rw[hby];exact hb);omega
    have hmax:¬ (((m'+m:Nat):Int)>IntKind.i64.max):=by
     simp only[maxLen]at h63;simp[IntKind.max,IntKind.bits,IntKind.signed];omega
    have hKK:=hK w.heap.size cap' (Builtin.zeroCells z.cells (cap'-(m'+m))) (Heap.fresh hs (Yq _)) hc1 hc2 (by simp[Builtin.zeroCells,hzc]);refine⟨_,w.drew.alloc (.cells (olds++news++Builtin.zeroCells z.cells (cap'-(m'+m))) e),_,?_,hKK,?_⟩
    ·have hroom:∀ (b:Nat) (w:World),(askRoom b).run P w=.ok () w:=λb w=>by unfold askRoom;split<;>simp[mark,Sem.run]
     simp only[Builtin.append_,X3,run_underlying hd,hsize,X0,List.getElem?_toArray,List.getElem?_cons_zero,List.getElem?_cons_succ,run_underlying hdx,X8,Ym,if_false,hlen,hle,hinfo];simp only[false_or,hmax,false_and,if_false,X3,X8,X0,hinfo];have hfc:(Question.appendCap (m'+m) cap e).forced=false:=rfl;simp[hfit,hfc,hroom,hinfo,hfirst' w.drew hs,hfirst w.drew hs,hzero,<-hch,Oz]
    ·rw[hk];exact(Aw.push (w:=w.drew) hs _).drew0 (n:=w.drawn+1)
 |_=>simp[By]at hK
end Go.Cw
namespace Go.Cw
open Go
def FB (P:Program) (f:FuncId) (args:List Value) (h:Heap) (K:Value->Heap->Prop):Prop:=
 (∃ fn, P.funcs[f]? = U fn ∧ (fn.name == "runtime.NumGoroutine") = false ∧ fn.body.isNone = false) ∧
 ∀ w,h.sub w->Calls P f args.toArray w λe w'=>∃ v h',e=.returned v/\K v h'/\Aw h h' w w'
def FE (P:Program) (f:FuncId) (args:List Value) (h:Heap) (K:Value->Heap->Prop):Prop:=
 ∀ w,h.sub w->∃ v h' w',(callFunc f args.toArray).run P w=.ok (.value v) w'/\K v h'/\Aw h h' w w'
def FC (P:Program) (f:FuncId) (args:List Value) (h:Heap) (K:Value->Heap->Prop):Prop:=FB P f args h K\/FE P f args h K
def Good (P:Program) (N:Num) (Γ:Ctx):Prop:=∀ k us h K,Γ k us h K->FC P (N.fid k) us h K
def Wq (P:Program) (tk:Nat->Option Nat) (ts:List TypeId):Option Ef:=
 match ts with
 |[t,tx]=>
  match P.underlying t,P.underlying tx with
  |some (.slice e),U .string|some (.slice e),U (.slice _)=>
   match P.info? e,tk e with
   |some i,U k=>
    match i.zero with
    |some z=>if z.cells.size=i.size then U (.app k i.size i.bytes)else O
    |none=>O
   |_,_=>O
  |_,_=>O
 |_=>O
def Kb (P:Program) (t:TypeId):Option Bk:=
 match P.underlying t with
 |some (.map k _)=>match Hm P k with
  |some .bool=>O
  |r=>r
 |_=>O
def Us (P:Program) (tk fk:Nat->Option Nat) (op:Op):Option (Ef×List Operand):=
 match op with
 |.box t x=>(tk t).map λk=>(.new k,[x])
 |.alloc t=>
  match tk t,(P.info? t).bind (·.zero)with
  |some k,U z=>U (.new k,[.const z])
  |_,_=>O
 |.call { callee:=.builtin .append,args:=as,argTypes:=ts }=>(Wq P tk ts.toList).map λe=>(e,as.toList)
 |.call { callee:=.value (.func f),args:=as,argTypes:=_ }=>(fk f).map λk=>(.call k,as.toList)
 |.call { callee:=.value f,args:=as,argTypes:=_ }=>U (.cal,f::as.toList)
 |.makeMap _ O=>U (.mnew,[])
 |.mapUpdate t m k v=>(Kb P t).map λkb=>(.mupd kb,[m,k,v])
 |.insert t m k v=>(Kb P t).map λkb=>(.mupd kb,[m,k,v])
 |.call { callee:=.builtin .delete,args:=as,argTypes:=ts }=>
  match ts.toList with
  |t::_=>(Kb P t).map λkb=>(.mdel kb,as.toList)
  |_=>O
 |.store t a x=>(A7 P t).map λn=>(.st n,[a,x])
 |.call { callee:=.builtin .copy,args:=as,argTypes:=ts }=>
  match ts.toList with
  |t::_=>
   match P.underlying t with
   |some (.slice e)=>(A7 P e).map λn=>(.cpy n,as.toList)
   |_=>O
  |_=>O
 |.range t x=>
  match P.underlying t with
  |some (.map _ _)=>U (.rng,[x])
  |_=>O
 |.next x false=>U (.nxt,[x])
 |.entry x=>U (.ent,[x])
 |_=>O
variable {P:Program} {w:World} {h:Heap} {N:Num} {tk fk:Nat->Option Nat} {Γ:Ctx}
theorem Sf (htk:∀ t k,tk t=U k->N.tid k=t) {ts:Array TypeId} {f:Ef} (ha:Wq P tk ts.toList=U f) :
  ∃ t size bytes,f=.app t size bytes/\Xo P ts (N.tid t) size bytes:=by
 obtain⟨ts⟩:=ts;simp only at ha;unfold Wq at ha;split at ha<;>try cases ha
 rename_i t tx;split at ha<;>try cases ha
 ·rename_i e hd hdx;split at ha<;>try cases ha
  rename_i i k hi hk;split at ha<;>try cases ha
  rename_i z hz;split at ha<;>cases ha;rename_i hzc;exact⟨k,_,_,rfl,⟨t,tx,rfl,by rw[htk _ _ hk];exact hd,.inl hdx⟩,i,z,by rw[htk _ _ hk];exact hi,rfl,rfl,hz,hzc⟩
 ·rename_i e e' hd hdx;split at ha<;>try cases ha
  rename_i i k hi hk;split at ha<;>try cases ha
  rename_i z hz;split at ha<;>cases ha;rename_i hzc;exact⟨k,_,_,rfl,⟨t,tx,rfl,by rw[htk _ _ hk];exact hd,.inr ⟨e',hdx⟩⟩,i,z,by rw[htk _ _ hk];exact hi,rfl,rfl,hz,hzc⟩
theorem Ka {t:TypeId} {kb:Bk} (hm:Kb P t=U kb):∃ k e,P.underlying t=U (.map k e)/\Hm P k=U kb/\kb≠.bool:=by
 unfold Kb at hm;split at hm
 ·rename_i k e hd;split at hm
  ·cases hm
  ·rename_i r hr;exact⟨k,e,hd,hm,λe=>by subst e;exact hr hm⟩
 ·cases hm
theorem BU {o:Oper} {a:Act} {Kw:Act->World->Prop} {Q:Exit->Act->World->Prop} {v:Value} {w':World} (hr:(execOp a.eval o).run P w=.ok (.value v) w') (hk:Kw (a.put o.dst v) w'):o.wp P a w Kw Q:=by
 simp only[Oper.wp,hr,Oper.upon];exact hk
theorem HV {o:Oper} {a:Act} {Kw:Act->World->Prop} {Q:Exit->Act->World->Prop} {w':World} (hr:(execOp a.eval o).run P w=.ok .skip w') (hk:Kw (a.put o.dst undef) w'):o.wp P a w Kw Q:=by
 simp only[Oper.wp,hr,Oper.upon];exact hk
theorem NN {kb:Bk} {k x:Value} (hk:Dv kb k x=U true):k=x:=by
 cases kb<;>cases k<;>cases x<;>simp only[Dv]at hk<;>try (cases hk;done)
 ·split at hk
  ·rename_i h1;simp at hk;rw[h1,hk]
  ·cases hk
 ·rw[Xh (Option.some.inj hk)]
 ·simp at hk;rw[hk]
theorem KR {kb:Bk} {k x:Value} (hk:Dv kb k x=U true):Instr.sameBits 10000 x k=true:=by
 have:=NN hk;subst this;cases kb<;>cases k<;>simp only[Dv]at hk<;>first|(cases hk;done)|(simp[Instr.sameBits,U1];done)
theorem TG {kb:Bk} {k:Value}:∀ (es:List MapEntry) (i j:Nat) (v:Value),Ec kb k es i=U (U (j,v))->i<=j/\∃ e,es[j-i]?=U e/\Dv kb k e.key=U true/\e.val=v:=by
 intro es;induction es with
 |nil=>intro i j v hf;simp[Ec]at hf
 |cons e es ih=>
  intro i j v hf;simp only[Ec]at hf;split at hf
  ·rename_i he;cases hf;exact⟨Yq _,e,by simp,he,rfl⟩
  ·obtain⟨h1,e',h2,h3,h4⟩:=ih _ _ _ hf;refine⟨by omega,e',?_,h3,h4⟩;rw[show j-i=(j-(i+1))+1 by omega];simpa using h2
  ·cases hf
end Go.Cw
namespace Go.Cw
open Go
variable {P:Program} {w:World} {h:Heap} {N:Num} {tk fk:Nat->Option Nat} {Γ:Ctx}
theorem Qr (hΓ:Good P N Γ) (hs:h.sub w) {o:Oper} {a:Act} {k:Nat} {us:List Value} {K:Value->Heap->Prop} {Kw:Act->World->Prop} {Q:Exit->Act->World->Prop}
  (hK:Γ k us h K) (hnext:∀ v h' w',K v h'->Aw h h' w w'->Kw (a.put o.dst v) w')
  (hr:(execOp a.eval o).run P w=(callFunc (N.fid k) us.toArray).run P w):o.wp P a w Kw Q:=by
 rcases hΓ _ _ _ _ hK with⟨⟨fn,hfn,hname,hbody⟩,hc⟩|hx;rotate_left
 ·obtain⟨v,h',w',h1,h2,h3⟩:=hx w hs;simp only[Oper.wp,hr,h1,Oper.upon];exact hnext v h' w' h2 h3
 have hcall:(callFunc (N.fid k) us.toArray).run P w=.ok (.enter (N.fid k) us.toArray) w:=by
  have hn' : fn.name ≠ "runtime.NumGoroutine" := by simpa using hname
  obtain⟨b,hb⟩:∃ b,fn.body=U b:=by
   cases hh:fn.body with
   |none=>rw[hh]at hbody;simp at hbody
   |some b=>exact⟨b,rfl⟩
  simp[callFunc,program,Sem.run,hfn,hn',hb]
 simp only[Oper.wp,hr,hcall,Oper.upon];exact(hc w hs).mono λe w' ⟨v,h',he,hk,hst⟩=>by subst he;exact hnext v h' w' hk hst
theorem Cu {o:Obj} {r:Nat} (hw:w.heap[r]?=U o) (hc:∀ c t f,o≠.cells c t f):(getObj r).run P w=.ok o w:=by
 cases o<;>first|(exact absurd rfl (hc _ _ _))|simp[getObj,Sem.run,hw]
theorem EO {o o':Obj} {r:Nat} (hw:w.heap[r]?=U o) (hc:∀ c t f,o≠.cells c t f):(setObj r o').run P w=.ok () { w with heap:=w.heap.setIfInBounds r o' }:=by
 cases o<;>first|(exact absurd rfl (hc _ _ _))|simp[setObj,Sem.run,hw]
theorem Hr {t:TypeId} {kb:Bk} (hm:Kb P t=U kb) (hs:h.sub w) {r:Nat} {k v:Value} {K:Value->Heap->Prop} (hK:By N Γ (.mupd kb) [.map (U r),k,v] h K) :
  ∃ w' h',(Instr.mapUpdate t (.map (U r)) k v).run P w=.ok () w'/\K undef h'/\Aw h h' w w':=by
 obtain⟨kt,et,hd,hk,_⟩:=Ka hm;simp only[By]at hK;obtain⟨es,ck,hr,x,hx,hK⟩:=hK;have hw:=hs _ _ hr;have hne:∀ c t f,Obj.map es ck≠.cells c t f:=by intro c t f;simp
 cases x with
 |none=>
  refine⟨_,_,?_,hK,Aw.setObj hs hr _⟩;simp[Instr.mapUpdate,run_underlying hd,Cu hw hne,CF hk,Df hk hx,EO hw hne]
 |some p=>
  obtain⟨i,pv⟩:=p;obtain⟨_,e,he,hck,_⟩:=TG _ _ _ _ hx;refine⟨_,_,?_,hK,Aw.setObj hs hr _⟩;have hkey:((es[i]?).map (·.key)).getD k=e.key:=by
   have:es[i]?=U e:=by simpa using he
   simp[this]
  simp only[Instr.mapUpdate,X3,run_underlying hd,X0,Cu hw hne,CF hk,Df hk hx,hkey,Instr.keyThatStays,KR hck,if_true,X8,EO hw hne]
theorem OD {t:TypeId} {kb:Bk} (hm:Kb P t=U kb) (hs:h.sub w) {ts:Array TypeId} (hts:ts[0]?=U t) (ty:TypeId) {r:Nat} {k:Value} {K:Value->Heap->Prop}
  (hK:By N Γ (.mdel kb) [.map (U r),k] h K) :
  ∃ w' h',(Builtin.delete_ ts ty #[.map (U r),k]).run P w=.ok undef w'/\K undef h'/\Aw h h' w w':=by
 obtain⟨kt,et,hd,hk,_⟩:=Ka hm;simp only[By]at hK;obtain⟨es,ck,hr,x,hx,hK⟩:=hK;have hw:=hs _ _ hr;have hne:∀ c t f,Obj.map es ck≠.cells c t f:=by intro c t f;simp
 cases x with
 |none=>
  refine⟨w,h,?_,hK,Aw.refl hs⟩;simp[Builtin.delete_,hts,run_underlying hd,Cu hw hne,CF hk,Df hk hx,EO hw hne,MU hw,undef]
 |some p=>
  obtain⟨i,pv⟩:=p;refine⟨_,_,?_,hK,Aw.setObj hs hr _⟩;simp[Builtin.delete_,hts,run_underlying hd,Cu hw hne,CF hk,Df hk hx,EO hw hne,undef]
theorem SQ {t e:TypeId} {size:Nat} (hd:P.underlying t=U (.slice e)) (hsz:A7 P e=U size) (hs:h.sub w) {ts:Array TypeId} (hts:ts[0]?=U t) (ty:TypeId) {x y:Value} {K:Value->Heap->Prop}
  (hK:By N Γ (.cpy size) [x,y] h K):∃ v w' h',(Builtin.copy_ ts ty #[x,y]).run P w=.ok v w'/\K v h'/\Aw h h' w w':=by
 cases x with
 |slice g dn dcap=>
  cases g with
  |none=>simp[By]at hK
  |some g=>
   cases y with
   |slice a sn scap=>
    cases a with
    |none=>simp[By]at hK
    |some a=>
     simp only[By]at hK;obtain⟨c,hc,h',hp,_,hK⟩:=hK;obtain⟨w',h1,h2⟩:=HC (P:=P) hs hp;refine⟨_,w',h',?_,hK,h2⟩;have hmin:Nat.min sn dn=min sn dn:=rfl;simp[Builtin.copy_,hts,run_underlying hd,Builtin.lenOf,A9 hsz,Builtin.firstCells,hmin,Heap.sub_row hs hc,h1,goInt]
   |_=>simp[By]at hK
 |_=>simp[By]at hK
theorem SN (hs:h.sub w) {x:Value} (ty:TypeId) {K:Value->Heap->Prop} (hK:By N Γ .nxt [x] h K) :
  ∃ v w' h',(Instr.next x false ty).run P w=.ok v w'/\K v h'/\Aw h h' w w':=by
 cases x with
 |pointer a=>
  cases a with
  |none=>simp[By]at hK
  |some a=>
   obtain⟨r,off,sp⟩:=a;cases sp with
   |some s=>cases off<;>simp[By]at hK
   |none=>
    cases off with
    |succ n=>simp[By]at hK
    |zero=>
     simp only[By]at hK;rcases hK with⟨s1,s2,s3,hr,hK⟩|⟨m,since,AN,last,es,ck,hr,hm,hg,hne,hK⟩
     ·refine⟨_,w,h,?_,hK,Aw.refl hs⟩;simp[Instr.next,Cu (P:=P) (hs _ _ hr) (by intro c t f;simp)]
     ·have h1:=Cu (P:=P) (hs _ _ hr) (by intro c t f;simp);have h2:=Cu (P:=P) (hs _ _ hm) (by intro c t f;simp);have hch:∃ n w',(choose (.mapNext (CN es since AN).size)).run P w=.ok n w'/\n<(CN es since AN).size/\(w'=w\/w'={ w with drawn:=w.drawn+1 }):=by
       by_cases hf:(Question.mapNext (CN es since AN).size).forced=true
       ·exact⟨0,w,by simp[choose,Sem.run,hf],Y3 hne,.inl rfl⟩
       ·refine⟨(Question.mapNext (CN es since AN).size).cut (w.tape w.drawn (.mapNext (CN es since AN).size)),{ w with drawn:=w.drawn+1 },by simp[choose,Sem.run,hf],?_,.inr rfl⟩;simp only[Question.cut];exact Zi _ (Y3 hne)
      obtain⟨n,w1,hch,hlt,hw1⟩:=hch;have hs1:h.sub w1:=by rcases hw1 with rfl|rfl<;>exact hs
      have hst:∀ {h' w'},Aw h h' w1 w'->Aw h h' w w':=by
       intro h' w' hh;rcases hw1 with rfl|rfl
       ·exact hh
       ·exact hh.drew0
      have hget:(CN es since AN)[n]?=U ((CN es since AN)[n]):=by simp[hlt]
      have hmem:=hK ((CN es since AN)[n]) (by simp);have hrun:(Instr.next (.pointer (U ⟨r,0,O⟩)) false ty).run P w=(match (CN es since AN)[n]? with
        |some (U e)=>(do setObj r (.mapIter (U m) since (AN.push e.born) ck);pure (.tuple #[.bool true,e.key,e.val]):Sem Value)
        |some O=>pure (.tuple #[.bool false])
        | none => stuck "Next: no such candidate").run P w1 := by
       simp only[Instr.next,X3,h1,X0,h2,hg,Ym,if_false];refine Eq.trans (b:=((choose (.mapNext (CN es since AN).size)).run P w).andThen λn w'=>(match (CN es since AN)[n]? with
        |some (U e)=>(do setObj r (.mapIter (U m) since (AN.push e.born) ck);pure (.tuple #[.bool true,e.key,e.val]):Sem Value)
        |some O=>pure (.tuple #[.bool false])
        | none => stuck "Next: no such candidate").run P w') rfl ?_
       rw[hch];rfl
      rw[hget]at hrun;generalize (CN es since AN)[n]=c at hrun hmem;cases c with
      |none=>exact⟨_,w1,h,hrun,hmem,hst (Aw.refl hs1)⟩
      |some e=>
       refine⟨_,_,_,?_,hmem,hst (Aw.setObj hs1 hr _)⟩;rw[hrun];simp[EO (P:=P) (hs1 _ _ hr) (by intro c t f;simp)]
 |_=>simp[By]at hK
end Go.Cw
namespace Go.Cw
open Go
variable {P:Program} {w:World} {h:Heap} {N:Num} {tk fk:Nat->Option Nat} {Γ:Ctx}
theorem NE (htk:∀ t k,tk t=U k->N.tid k=t) (hfk:∀ f k,fk f=U k->N.fid k=f) (hΓ:Good P N Γ) (hs:h.sub w) {o:Oper} {a:Act} {f:Ef} {xs:List Operand}
  (hr:Us P tk fk o.op=U (f,xs)) {K:Value->Heap->Prop} {Kw:Act->World->Prop} {Q:Exit->Act->World->Prop}
  (hK:By N Γ f (xs.map a.eval) h K) (hnext:∀ v h' w',K v h'->Aw h h' w w'->Kw (a.put o.dst v) w'):o.wp P a w Kw Q:=by
 have newv:∀ {t k:Nat} {x:Value},tk t=U k->By N Γ (.new k) [x] h K->(execOp a.eval o).run P w=.ok (.value (.pointer (U ⟨w.heap.size,0,O⟩))) { w with heap:=w.heap.push (.cells x.cells t) }->o.wp P a w Kw Q:=by
  intro t k x hk hK hrun;simp only[By]at hK;refine BU hrun (hnext _ _ _ (hK _ (Heap.fresh hs (Yq _))) ?_);rw[htk _ _ hk];exact Aw.push hs _
 unfold Us at hr;split at hr
 ·
  rename_i t x heq;obtain⟨k,hk,h1⟩:=XZ.1 hr;cases h1;refine newv (x:=a.eval x) hk (by simpa using hK) ?_;rw[Ay heq];simp[execOp,Instr.box,newVar,newRow,newObj,Sem.run]
 ·
  rename_i t heq;split at hr<;>cases hr;rename_i k z hk hz;refine newv (x:=z) hk (by simpa[Act.eval]using hK) ?_;rw[Ay heq];simp only[execOp,Instr.alloc,X3,Bp hz,X0];simp[newVar,newRow,newObj,Sem.run]
 ·
  rename_i as ts heq;obtain⟨e,he,h1⟩:=XZ.1 hr;cases h1;obtain⟨t,size,bytes,rfl,hat⟩:=Sf htk he;have h2:∃ s x,as.toList.map a.eval=[s,x]:=by
   generalize as.toList.map a.eval=l at hK
   match l,hK with
   |[],hK=>simp[By]at hK
   |[x],hK=>cases x<;>simp[By]at hK
   |[s,x],_=>exact⟨s,x,rfl⟩
   |s::x::y::r,hK=>cases s<;>simp[By]at hK
  obtain⟨s,x,hl⟩:=h2;rw[hl]at hK;obtain⟨v,w',h',h3,h4,h5⟩:=Ur hat rfl hs hK o.type;refine BU ?_ (hnext v h' w' h4 h5);rw[Ay heq];have:as.map a.eval=#[s,x]:=by rw[<-YF,Yl,hl]
  simp[execOp,resolve,invoke,builtin,this,h3]
 ·
  rename_i f' as ts heq;obtain⟨k,hk,h1⟩:=XZ.1 hr;cases h1;refine Qr hΓ hs (k:=k) (us:=as.toList.map a.eval) hK hnext ?_;rw[Ay heq,hfk _ _ hk];simp[execOp,resolve,invoke,Act.eval,Deferred.ofValue,Yl];rw[<-Yl]
 ·
  rename_i fo as ts _ heq;cases hr;simp only[Yj]at hK;generalize hfo:a.eval fo=fv at hK;cases fv with
  |func fn first caps=>
   cases fn with
   |func g=>
    simp only[By]at hK;obtain⟨k,hk,hfirst,hK⟩:=hK;subst hfirst;refine Qr hΓ hs (k:=k) (us:=as.toList.map a.eval++caps.toList) hK hnext ?_;rw[Ay heq,hk];have e:(as.toList.map a.eval++caps.toList).toArray=as.map a.eval++caps:=by rw[<-Yl,<-YW]
    rw[e];simp[execOp,resolve,invoke,hfo,Deferred.ofValue]
   |_=>simp[By]at hK
  |_=>simp[By]at hK
 ·
  rename_i t heq;cases hr;simp only[Yw,By]at hK;refine BU (v:=.map (U w.heap.size)) (w':={ w with heap:=w.heap.push (.map #[] 0) }) ?_ (hnext _ _ _ (hK _ (Heap.fresh hs (Yq _))) (Aw.push hs _));rw[Ay heq];simp[execOp,Instr.makeMap,newObj,Sem.run]
 ·
  rename_i t m k v heq;obtain⟨kb,hm,h1⟩:=XZ.1 hr;cases h1;simp only[Yj,Yw]at hK;generalize hmv:a.eval m=mv at hK;cases mv with
  |map r=>
   cases r with
   |none=>simp[By]at hK
   |some r=>
    obtain⟨w',h',h3,h4,h5⟩:=Hr hm hs hK;refine HV ?_ (hnext _ h' w' h4 h5);rw[Ay heq];simp[execOp,hmv,h3]
  |_=>simp[By]at hK
 ·
  rename_i t m k v heq;obtain⟨kb,hm,h1⟩:=XZ.1 hr;cases h1;simp only[Yj,Yw]at hK;generalize hmv:a.eval m=mv at hK;cases mv with
  |map r=>
   cases r with
   |none=>simp[By]at hK
   |some r=>
    obtain⟨w',h',h3,h4,h5⟩:=Hr hm hs hK;refine HV ?_ (hnext _ h' w' h4 h5);rw[Ay heq];simp[execOp,hmv,h3]
  |_=>simp[By]at hK
 ·
  rename_i as ts heq;split at hr<;>try cases hr
  rename_i t r hts;obtain⟨kb,hm,h1⟩:=XZ.1 hr;cases h1;have h2:∃ r k,as.toList.map a.eval=[.map (U r),k]:=by
   generalize as.toList.map a.eval=l at hK
   match l,hK with
   |[],hK=>simp[By]at hK
   |[x],hK=>cases x<;>simp[By]at hK
   |[s,x],hK=>cases s with
    |map r=>cases r with
     |some r=>exact⟨r,x,rfl⟩
     |none=>simp[By]at hK
    |_=>simp[By]at hK
   |s::x::y::r,hK=>cases s<;>simp[By]at hK
  obtain⟨r,k,hl⟩:=h2;rw[hl]at hK;have ht0:ts[0]?=U t:=by rw[<-YR,hts];rfl
  obtain⟨w',h',h3,h4,h5⟩:=OD hm hs ht0 o.type hK;refine BU ?_ (hnext _ h' w' h4 h5);rw[Ay heq];have:as.map a.eval=#[.map (U r),k]:=by rw[<-YF,Yl,hl]
  simp[execOp,resolve,invoke,builtin,this,h3]
 ·
  rename_i t ad x heq;obtain⟨n,hn,h1⟩:=XZ.1 hr;cases h1;simp only[Yj,Yw]at hK;generalize hav:a.eval ad=av at hK;cases av with
  |pointer p=>
   cases p with
   |none=>simp[By]at hK
   |some p=>
    simp only[By]at hK;obtain⟨hsz,h',hp,hK⟩:=hK;obtain⟨w',h3,h4⟩:=HC (P:=P) hs hp;refine HV ?_ (hnext _ h' w' hK h4);rw[Ay heq];simp[execOp,Instr.storeAt,hav,Instr.sureAddr,storeVar,A9 hn,hsz,h3]
  |_=>simp[By]at hK
 ·
  rename_i as ts heq;split at hr<;>try cases hr
  rename_i t r hts;split at hr<;>try cases hr
  rename_i e hd;obtain⟨n,hn,h1⟩:=XZ.1 hr;cases h1;have h2:∃ x y,as.toList.map a.eval=[x,y]:=by
   generalize as.toList.map a.eval=l at hK
   match l,hK with
   |[],hK=>simp[By]at hK
   |[x],hK=>simp[By]at hK
   |[s,x],hK=>exact⟨s,x,rfl⟩
   |s::x::y::r,hK=>simp[By]at hK
  obtain⟨x,y,hl⟩:=h2;rw[hl]at hK;have ht0:ts[0]?=U t:=by rw[<-YR,hts];rfl
  obtain⟨v,w',h',h3,h4,h5⟩:=SQ hd hn hs ht0 o.type hK;refine BU ?_ (hnext _ h' w' h4 h5);rw[Ay heq];have:as.map a.eval=#[x,y]:=by rw[<-YF,Yl,hl]
  simp[execOp,resolve,invoke,builtin,this,h3]
 ·
  rename_i t x heq;split at hr<;>cases hr;rename_i kt et hd;simp only[Yj,Yw]at hK;generalize hxv:a.eval x=xv at hK;cases xv with
  |map r=>
   cases r with
   |none=>
    simp only[By]at hK;refine BU (v:=.pointer (U ⟨w.heap.size,0,O⟩)) (w':={ w with heap:=w.heap.push (.mapIter O 0 #[] 0) }) ?_ (hnext _ _ _ (hK _ (Heap.fresh hs (Yq _))) (Aw.push hs _));rw[Ay heq];simp[execOp,Instr.range,run_underlying hd,hxv,newObj,Sem.run]
   |some r=>
    simp only[By]at hK;obtain⟨es,ck,hr,hK⟩:=hK;refine BU (v:=.pointer (U ⟨w.heap.size,0,O⟩)) (w':={ w with heap:=w.heap.push (.mapIter (U r) ck #[] ck) }) ?_ (hnext _ _ _ (hK _ (Heap.fresh hs (Yq _))) (Aw.push hs _));rw[Ay heq];simp only[execOp,Instr.range,X3,run_underlying hd,hxv,X0,Gl (hs _ _ hr)];simp[newObj,Sem.run]
  |_=>simp[By]at hK
 ·
  rename_i x heq;cases hr;simp only[Yj,Yw]at hK;obtain⟨v,w',h',h3,h4,h5⟩:=SN (P:=P) hs o.type hK;refine BU ?_ (hnext _ h' w' h4 h5);rw[Ay heq];simp[execOp,h3]
 ·
  rename_i x heq;cases hr;simp only[Yj,Yw]at hK;generalize hxv:a.eval x=xv at hK;cases xv with
  |pointer p=>
   cases p with
   |none=>simp[By]at hK
   |some p=>
    obtain⟨r,off,sp⟩:=p;cases sp with
    |some s=>cases off<;>simp[By]at hK
    |none=>
     cases off with
     |succ n=>simp[By]at hK
     |zero=>
      simp only[By]at hK;obtain⟨m,since,AN,stepped,stamp,es,hr,hb,hm,e,hf,hK⟩:=hK;refine BU (w':=w) ?_ (hnext _ h w hK (Aw.refl hs));rw[Ay heq];simp[execOp,hxv,Instr.entry,Cu (P:=P) (hs _ _ hr) (by intro c t f;simp),hb,Gl (hs _ _ hm),hf]
  |_=>simp[By]at hK
 ·cases hr
end Go.Cw
namespace Go.Cw
open Go
inductive EI where
 |ef (gs:List (Ex×Bool)) (f:Ef) (args:List Ex) (dst:Option Nat)
 |pnew (i:Nat) (e:Ex)
 |pst (i:Nat) (e:Ex)
 deriving Inhabited
structure Hz where
 gs:List (Ex×Bool)
 i:Nat
 e:Ex
 deriving Inhabited
structure Hi where
 lets:List Hz
 eff:Option EI
 deriving Inhabited
inductive DS where
 |done (s:Hi)
 |eff (fl:Bool) (wx:List Hz) (s:Hi) (r:DS)
 |alt (fl:Bool) (wx:List Hz) (s:Hi) (r:DS) (fl':Bool) (wx':List Hz) (s':Hi) (r':DS)
 deriving Inhabited
inductive St where
 |skip
 |ret
 |exit (id:Nat)
 |seq (a b:St)
 |reg (l:List Hi)
 |cond (c:Ex) (a b:St)
 |block (id:Nat) (s:St)
 |loop (s:St)
 |dreg (d:DS)
 |rfn (k off i ip:Nat) (asg body:St)
 deriving Inhabited
def Dz (N:Num) (env:At) (h:Heap):List (Ex×Bool)->Option Bool
 |[]=>U true
 |(e,w)::r=>
  match ev N env h e with
  |none=>O
  |some (.v (.bool b))=>if b=w then Dz N env h r else U false
  |some _=>U false
def AV (N:Num) (env:At) (h:Heap):List Hz->At->Option At
 |[],e=>U e
 |l::r,e=>
  match Dz N env h l.gs with
  |none=>O
  |some false=>AV N env h r (e.put l.i undef)
  |some true=>
   match ev N env h l.e with
   |some (.v x)=>AV N env h r (e.put l.i x)
   |_=>O
def AS (N:Num) (env:At) (h:Heap):List Ex->Option (List Value)
 |[]=>U []
 |e::r=>
  match ev N env h e,AS N env h r with
  |some (.v x),U xs=>U (x::xs)
  |_,_=>O
def Gz (e:At) (d:Option Nat) (v:Value):At:=
 match d with
 |some i=>e.put i v
 |none=>e
def Is (N:Num) (Γ:Ctx) (x:EI) (Bh env1:At) (h:Heap) (K:At->Heap->Prop):Prop:=
 match x with
 |.ef gs f args dst=>
  (Dz N Bh h gs=U true/\∃ us,AS N Bh h args=U us/\By N Γ f us h λr h'=>K (Gz env1 dst r) h') \/
  (Dz N Bh h gs=U false/\K (Gz env1 dst undef) h)
 |.pnew i e=>∃ v,ev N Bh h e=U (.v v)/\K (env1.put i (.agg v.cells)) h
 |.pst i e=>∃ v,ev N Bh h e=U (.v v)/\K (env1.put i v) h
def Fp (N:Num) (Γ:Ctx) (s:Hi) (env:At) (h:Heap) (K:At->Heap->Prop):Prop:=
 ∃ env1,AV N env h s.lets env=U env1 /\
  match s.eff with
  |none=>K env1 h
  |some x=>Is N Γ x env env1 h K
def CU (N:Num) (Γ:Ctx):List Hi->At->Heap->(At->Heap->Prop)->Prop
 |[],env,h,K=>K env h
 |s::r,env,h,K=>Fp N Γ s env h λenv h=>CU N Γ r env h K
def Pp (N:Num) (env:At) (x:Heap) (l:Hz):Prop:=∃ b,Dz N env x l.gs=U b/\(b=true->∃ u,ev N env x l.e=U u)
def K1 (N:Num) (fl:Bool) (wx:List Hz) (ws:List Heap) (env:At) (h:Heap) (K:List Heap->At->Heap->Prop):At->Heap->Prop:=λenv' h'=>
 match wx with
 |[]=>(fl=true->∀ z∈ws,Heap.le z h')/\K (if fl then ws else[]) env' h'
 |l::ls=>∃ x,(x=h\/(Heap.le x h/\∀ l'∈l::ls,Pp N env x l'))/\(fl=true->∀ z∈x::ws,Heap.le z h')/\K (if fl then x::ws else[]) env' h'
def ME (N:Num) (Γ:Ctx):DS->List Heap->At->Heap->(At->Heap->Prop)->Prop
 |.done s,_,env,h,K=>Fp N Γ s env h K
 |.eff fl wx s r,ws,env,h,K=>Fp N Γ s env h (K1 N fl wx ws env h λws env' h'=>ME N Γ r ws env' h' K)
 |.alt fl wx s r fl' wx' s' r',ws,env,h,K=>Fp N Γ s env h (K1 N fl wx ws env h λws env' h'=>ME N Γ r ws env' h' K) /\
   Fp N Γ s' env h (K1 N fl' wx' ws env h λws env' h'=>ME N Γ r' ws env' h' K)
inductive SE where
 |normal
 |exit (id:Nat)
 |ret
def SW (N:Num) (Γ:Ctx):St->(SE->At->Heap->Prop)->At->Heap->Prop
 |.skip,Q,env,h=>Q .normal env h
 |.ret,Q,env,h=>Q .ret env h
 |.exit id,Q,env,h=>Q (.exit id) env h
 |.seq a b,Q,env,h=>SW N Γ a (λe env h=>match e with
   |.normal=>SW N Γ b Q env h
   |e=>Q e env h) env h
 |.reg l,Q,env,h=>CU N Γ l env h (Q .normal)
 |.dreg d,Q,env,h=>ME N Γ d [] env h (Q .normal)
 |.cond c a b,Q,env,h=>∃ t,ev N env h c=U (.v (.bool t))/\(t=true->SW N Γ a Q env h)/\(t=false->SW N Γ b Q env h)
 |.block id s,Q,env,h=>SW N Γ s (λe env h=>match e with
   |.exit j=>if j=id then Q .normal env h else Q (.exit j) env h
   |e=>Q e env h) env h
 |.loop s,Q,env,h=>∃ (I:Nat->At->Heap->Prop) (n:Nat),I n env h /\
   ∀ n env h,I n env h->SW N Γ s (λe env' h'=>match e with
    |.normal=>∃ n',n'<n/\I n' env' h'
    |e=>Q e env' h') env h
 |.rfn k off i ip asg body,Q,env,h=>∃ c a m es ck,env.get i=U (.func (.func (N.fid k)) #[] #[.pointer (U c)])/\h.cell c=U (.pointer (U a))/\h.cell (a.add off)=U (.map (U m))/\h m=U (.map es ck) /\
   (∀e∈es.toList,e.born<ck)/\∃ J:List Nat->Heap->Prop,J [] h/\∀ dn G,J dn G->G m=U (.map es ck)/\((∀e∈es.toList,e.born∈dn)->Q .normal env G) /\
    ∀ e∈es.toList,e.born∉dn->SW N Γ asg (λx env1 G1=>match x with
     |.normal=>SW N Γ body (λy env2 G2=>match y with
      |.normal=>J (dn++[e.born]) G2
      |y=>Q y env G2) env1 G1
     |_=>False) (env.put ip e.key) G
abbrev CO:=List (Nat×Bool)
structure En where
 owner:Nat
 path:CO
 ex:Ex
 deriving Inhabited
abbrev Sg:=List (Nat×En)
def Sg.get (s:Sg) (t:Nat):Option En:=
 match s with
 |[]=>O
 |(t',e)::r=>if t'=t then U e else Sg.get r t
abbrev AR:=List (Nat×Bool)
def ID (n:Nat):Nat->AR->Sg
 |_,[]=>[]
 |i,(slot,pr)::r=>(slot,⟨n+slot,[],if pr then .pad i else .var i⟩)::ID n (i+1) r
def DV (s:Sg) (path:CO):Operand->Option Ex
 |.const v=>U (.con v)
 |.global g=>U (.con (.pointer (U ⟨g,0,O⟩)))
 |.func _=>O
 |.tmp t=>
  match s.get t with
  |some en=>if en.path.all path.contains then U en.ex else O
  |none=>O
def Ca (s:Sg):Operand->Option Nat
 |.tmp t=>(s.get t).map (·.owner)
 |_=>O
structure KL where
 idx:Nat
 path:CO
 ex:Ex
 move:Bool
 uses:List (Nat×CO)
 deriving Inhabited
def IN (ops:Array Oper) (s:Sg) (o:Oper):Option CO:=
 match o.guard with
 |none=>U []
 |some (g,w)=>
  match (ops[g]?).bind (·.dst)with
  |some d=>
   match s.get d with
   |some en=>U (en.path++[(en.owner,w)])
   |none=>O
  |none=>O
def IX:Op->Bool
 |.move _ | .assign _=>true
 |_=>false
def Mc (P:Program) (tk fk:Nat->Option Nat) (s:Sg) (path:CO) (op:Op):Option (Ex×List (Nat×CO)):=
 match op with
 |.pick c a b=>
  let co:=(Ca s c).getD 0
  match c,DV s path c,DV s (path++[(co,true)]) a,DV s (path++[(co,false)]) b with
  |.tmp _,U ec,U ea,U eb=>
   U (.pick ec ea eb,(co,path)::((Ca s a).toList.map λo=>(o,path++[(co,true)]))++((Ca s b).toList.map λo=>(o,path++[(co,false)])))
  |_,_,_,_=>O
 |op=>
  match mk P tk fk (DV s path) op with
  |some e=>U (e,op.operands.toList.filterMap λx=>if(DV s path x).isSome then(Ca s x).map λo=>(o,path)else O)
  |none=>O
def CH (P:Program) (tk fk:Nat->Option Nat) (ops:Array Oper) (nt:Nat):List Nat->Sg->Option (List KL×Sg)
 |[],s=>U ([],s)
 |j::r,s=>
  match ops[j]? with
  |none=>O
  |some o=>
   match o.dst,IN ops s o with
   |some d,U path=>
    match Mc P tk fk s path o.op with
    |some (e,us)=>
     if d<nt then
      match CH P tk fk ops nt r ((d,⟨j,path,e⟩)::s)with
      |some (rs,s')=>U (⟨j,path,e,IX o.op,us⟩::rs,s')
      |none=>O
     else O
    |none=>O
   |_,_=>O
variable {P:Program} {w:World} {h:Heap} {env:At} {N:Num} {tk fk:Nat->Option Nat}
theorem SV {op:Op} {r:O1} {x:Operand} (hr:MW P tk op=U (r,x)):op.operands.toList=[x]:=by
 unfold MW at hr;split at hr
 ·split at hr<;>try (cases hr;done)
  rename_i has _;split at hr<;>cases hr<;>simp[Op.operands,Call.operands,has]
 ·split at hr<;>try (cases hr;done)
  split at hr<;>try (cases hr;done)
  split at hr<;>cases hr;rfl
 ·split at hr<;>cases hr<;>rfl
 ·cases hr;rfl
 ·cases hr;rfl
 ·cases hr;rfl
 ·split at hr<;>try (cases hr;done)
  ·cases hr;rfl
  ·split at hr<;>cases hr;rfl
 ·cases hr;rfl
 ·split at hr<;>try (cases hr;done)
  split at hr<;>try (cases hr;done)
  split at hr<;>cases hr<;>rfl
 ·split at hr<;>cases hr;rfl
 ·cases hr;rfl
 ·split at hr<;>cases hr;rfl
 ·cases hr
theorem SU {op:Op} {r:O2} {x y:Operand} (hr:MV P op=U (r,x,y)):op.operands.toList=[x,y]:=by
 unfold MV at hr;split at hr
 ·split at hr
  ·cases hr;rfl
  ·cases hr;rfl
  ·split at hr<;>try (cases hr;done)
   ·split at hr<;>cases hr;rfl
   ·cases hr;rfl
  ·split at hr<;>try (cases hr;done)
   ·split at hr<;>cases hr;rfl
   ·cases hr;rfl
  ·cases hr
 ·split at hr<;>try (cases hr;done)
  ·obtain⟨n,_,h2⟩:=XZ.1 hr;cases h2;rfl
  ·obtain⟨n,_,h2⟩:=XZ.1 hr;cases h2;rfl
 ·split at hr<;>try (cases hr;done)
  ·cases hr;rfl
  ·split at hr<;>cases hr<;>rfl
 ·split at hr<;>cases hr;rfl
 ·split at hr<;>cases hr;rename_i has;simp[Op.operands,Call.operands,has]
 ·split at hr<;>cases hr;rename_i has;simp[Op.operands,Call.operands,has]
 ·cases hr
theorem J8 {σ:Operand->Option Ex} {t:TypeId}:∀ (parts:List (Nat×Operand)) (b e:Ex) (u:UV),Do P σ t b parts=U e->ev N env h e=U u ->
  ∀ p∈parts,∀ex,σ p.2=U ex->∃ ux,ev N env h ex=U ux:=by
 intro parts;induction parts with
 |nil=>intro b e u _ _ p hp;simp at hp
 |cons q parts ih=>
  intro b e u hm hv p hp ex hx;obtain⟨i,x⟩:=q;simp only[Do]at hm;split at hm<;>try (cases hm;done)
  rename_i off n ex' hpa hx';obtain⟨ub,h1⟩:=J9 _ _ _ _ hm hv;obtain⟨xv,yv,h2,h3,h4⟩:=GP h1;simp only[X5]at hp;rcases hp with rfl|hp
  ·rw[hx']at hx;cases hx;exact⟨_,h3⟩
  ·exact ih _ _ _ hm hv p hp ex hx
theorem KX {σ:Operand->Option Ex}:∀ (l:List Operand) (b e:Ex) (u:UV),Fq σ b l=U e->ev N env h e=U u->∀ x∈l,∀ex,σ x=U ex->∃ ux,ev N env h ex=U ux:=by
 intro l;induction l with
 |nil=>intro b e u _ _ p hp;simp at hp
 |cons y l ih=>
  intro b e u hm hv x hp ex hx;simp only[Fq]at hm;split at hm<;>try (cases hm;done)
  rename_i ex' hx';obtain⟨ub,h1⟩:=Ls _ _ _ _ hm hv;obtain⟨xv,yv,h2,h3,h4⟩:=GP h1;simp only[X5]at hp;rcases hp with rfl|hp
  ·rw[hx']at hx;cases hx;exact⟨_,h3⟩
  ·exact ih _ _ _ hm hv x hp ex hx
theorem Lr {σ:Operand->Option Ex} {op:Op} {e:Ex} {u:UV} (hnp:∀ c a b,op≠.pick c a b) (hm:mk P tk fk σ op=U e) (hv:ev N env h e=U u) :
  ∀ x∈op.operands.toList,∀ex,σ x=U ex->∃ ux,ev N env h ex=U ux:=by
 intro x hx ex hex;unfold mk at hm;split at hm
 ·simp[Op.operands]at hx;subst hx;rw[hex]at hm;cases hm;exact⟨u,hv⟩
 ·simp[Op.operands]at hx;subst hx;rw[hex]at hm;cases hm;exact⟨u,hv⟩
 ·exact absurd rfl (hnp _ _ _)
 ·split at hm<;>try (cases hm;done)
  simp only[Op.operands,Yu]at hx;obtain⟨p,hp,rfl⟩:=hx;exact J8 _ _ _ _ hm hv p hp ex hex
 ·split at hm<;>try (cases hm;done)
  rename_i hfi hk;simp only[Op.operands,YW,hfi,YI]at hx;exact KX _ _ _ _ hm hv x hx ex hex
 ·rename_i t x' lo hi;split at hm
  ·cases hm
  ·rename_i ex' hx';have hgo:∀ {l r:Ex} {o:O3} {o1:O1} {u},OZ σ lo=U l->Pc o1 ex' σ hi=U r->ev N env h (.o3 o ex' l r)=U u->∃ ux,ev N env h ex=U ux:=by
    intro l r o o1 u hl hr hv;obtain⟨ux,ul,ur,h1,h2,h3,_⟩:=TH hv;cases lo<;>cases hi<;>simp[Op.operands]at hx
    ·subst hx;rw[hex]at hx';cases hx';exact⟨_,h1⟩
    ·rcases hx with rfl|rfl
     ·rw[hex]at hx';cases hx';exact⟨_,h1⟩
     ·simp only[Pc]at hr;rw[hex]at hr;cases hr;exact⟨_,h3⟩
    ·rcases hx with rfl|rfl
     ·rw[hex]at hx';cases hx';exact⟨_,h1⟩
     ·simp only[OZ]at hl;rw[hex]at hl;cases hl;exact⟨_,h2⟩
    ·rcases hx with rfl|rfl|rfl
     ·rw[hex]at hx';cases hx';exact⟨_,h1⟩
     ·simp only[OZ]at hl;rw[hex]at hl;cases hl;exact⟨_,h2⟩
     ·simp only[Pc]at hr;rw[hex]at hr;cases hr;exact⟨_,h3⟩
   split at hm
   ·split at hm<;>cases hm;rename_i hl hr;exact hgo hl hr hv
   ·split at hm<;>cases hm;rename_i hl hr;exact hgo hl hr hv
   ·cases hm
 ·split at hm
  ·rename_i r y hr;obtain⟨ey,h1,rfl⟩:=XZ.1 hm;rw[SV hr]at hx;simp at hx;subst hx;rw[h1]at hex;cases hex;obtain⟨ux,h2,_⟩:=Jq hv;exact⟨_,h2⟩
  ·split at hm
   ·rename_i r y z hr;split at hm<;>cases hm;rename_i ey ez hy hz;rw[SU hr]at hx;simp at hx;obtain⟨ux,uy,h2,h3,_⟩:=GP hv;rcases hx with rfl|rfl
    ·rw[hy]at hex;cases hex;exact⟨_,h2⟩
    ·rw[hz]at hex;cases hex;exact⟨_,h3⟩
   ·cases hm
end Go.Cw
namespace Go.Cw
open Go
variable {P:Program} {w:World} {h:Heap} {env:At} {N:Num} {tk fk:Nat->Option Nat} {pb:Nat->Option Nat}
def BK (N:Num) (env:At) (h:Heap) (g:Nat->Option Ex):CO->Option Bool
 |[]=>U true
 |(k,w)::r=>
  match (g k).bind (ev N env h)with
  |none=>O
  |some (.v (.bool b))=>if b=w then BK N env h g r else U false
  |some _=>U false
theorem DH {g:Nat->Option Ex} (p q:CO):BK N env h g (p++q)=(match BK N env h g p with
  |some true=>BK N env h g q
  |x=>x):=by
 induction p with
 |nil=>rfl
 |cons x p ih=>
  obtain⟨k,w⟩:=x;simp only[Y7,BK];split
  ·rfl
  ·split
   ·exact ih
   ·rfl
  ·rfl
theorem Pj {g:Nat->Option Ex} {p q:CO} (hp:p.isPrefixOf q=true) (hq:BK N env h g q=U true):BK N env h g p=U true:=by
 obtain⟨r,rfl⟩:=Yz.1 hp;rw[DH]at hq;split at hq
 ·assumption
 ·rename_i x hx;cases hh:BK N env h g p with
  |none=>rw[hh]at hq;cases hq
  |some b=>cases b with
   |true=>rfl
   |false=>rw[hh]at hq;cases hq
theorem US {g:Nat->Option Ex}:∀ (q:CO),BK N env h g q=U true->∀ k w,(k,w)∈q->(g k).bind (ev N env h)=U (.v (.bool w)):=by
 intro q;induction q with
 |nil=>intro _ k w hk;cases hk
 |cons x q ih=>
  obtain⟨k',w'⟩:=x;intro hq k w hk;simp only[BK]at hq;split at hq
  ·cases hq
  ·rename_i b hb;split at hq
   ·rename_i e;subst e;simp only[X5,Prod.mk.injEq]at hk;rcases hk with⟨rfl,rfl⟩|hk
    ·exact hb
    ·exact ih hq k w hk
   ·cases hq
  ·cases hq
theorem UR {g:Nat->Option Ex}:∀ (p:CO) {q:CO},p.all q.contains=true->BK N env h g q=U true->BK N env h g p=U true:=by
 intro p;induction p with
 |nil=>intro q _ _;rfl
 |cons x p ih=>
  obtain⟨k,w⟩:=x;intro q hp hq;simp only[Zd,X6,X9]at hp;simp only[BK,US q hq k w hp.1,if_true];exact ih hp.2 hq
theorem Fu {g:Nat->Option Ex} {p:CO} {k:Nat} {w:Bool} (hq:BK N env h g (p++[(k,w)])=U true) :
  BK N env h g p=U true/\∃ e,g k=U e/\ev N env h e=U (.v (.bool w)):=by
 rw[DH]at hq;split at hq
 ·rename_i hp;refine⟨hp,?_⟩;simp only[BK]at hq;split at hq
  ·cases hq
  ·rename_i b hb;obtain⟨e,h1,h2⟩:=X2.1 hb;split at hq
   ·rename_i e';subst e';exact⟨e,h1,h2⟩
   ·cases hq
  ·cases hq
 ·rename_i x hx;exact absurd hq hx
theorem Kr {g:Nat->Option Ex} {p:CO} {k:Nat} {w:Bool} (hq:BK N env h g (p++[(k,w)])=U false) :
  BK N env h g p=U false\/(BK N env h g p=U true/\∃ e u,g k=U e/\ev N env h e=U u/\u≠.v (.bool w)):=by
 rw[DH]at hq;split at hq
 ·rename_i hp;refine .inr ⟨hp,?_⟩;simp only[BK]at hq;split at hq
  ·cases hq
  ·rename_i b hb;obtain⟨e,h1,h2⟩:=X2.1 hb;split at hq
   ·cases hq
   ·rename_i hne;exact⟨e,_,h1,h2,by simpa using hne⟩
  ·rename_i u hne hb;obtain⟨e,h1,h2⟩:=X2.1 hb;exact⟨e,u,h1,h2,λe=>hne w e⟩
 ·exact .inl hq
def Eg (N:Num) (env:At) (h:Heap) (g:Nat->Option Ex) (pb:Nat->Option Nat) (s:Sg) (a:Act):Prop:=
 ∀ t en,s.get t=U en->g en.owner=U en.ex /\
  (BK N env h g en.path=U true->∀ u,ev N env h en.ex=U u->Ei pb u (a.tmps.getD t undef)) /\
  (BK N env h g en.path=U false->a.tmps.getD t undef=undef)
theorem CY {a:Act} {d:Nat} {v:Value} (hd:d<a.tmps.size):(a.put (U d) v).tmps.getD d undef=v:=by
 simp[Act.put,Array.getD,hd]
theorem Bq {a:Act} {d t:Nat} {v:Value} (hd:d≠t):(a.put (U d) v).tmps.getD t undef=a.tmps.getD t undef:=by
 simp only[Act.put,X4,Ya,hd,if_false]
theorem DO {g:Nat->Option Ex} {s:Sg} {a:Act} (hi:Eg N env h g pb s a) {path:CO} (hp:BK N env h g path=U true) (x:Operand):N8 N env h pb (DV s path) a.eval x:=by
 intro e u he hv;cases x with
 |const v=>simp only[DV]at he;cases he;simp only[ev]at hv;cases hv;rfl
 |global k=>simp only[DV]at he;cases he;simp only[ev]at hv;cases hv;rfl
 |func f=>simp[DV]at he
 |tmp t=>
  simp only[DV]at he;split at he
  ·rename_i en hen;split at he<;>cases he;rename_i hpre;exact(hi t en hen).2.1 (UR _ hpre hp) u hv
  ·cases he
theorem J3 {g:Nat->Option Ex} {s:Sg} {a:Act} (hi:Eg N env h g pb s a) {x:Operand} {o:Nat} (ho:Ca s x=U o) {path:CO} {e:Ex} (he:DV s path x=U e):g o=U e:=by
 cases x with
 |tmp t=>
  simp only[Ca,XZ]at ho;obtain⟨en,h1,rfl⟩:=ho;simp only[DV,h1]at he;split at he<;>cases he;exact(hi t en h1).1
 |_=>simp[Ca]at ho
theorem De {g:Nat->Option Ex} {ops:Array Oper} {s:Sg} {a:Act} (hi:Eg N env h g pb s a) {o:Oper} {path:CO} (hp:IN ops s o=U path) (hv:BK N env h g path=U true) :
  Region.wanted o (yielded ops a.tmps)=true:=by
 unfold IN at hp;unfold Region.wanted;split at hp
 ·rename_i hg;rw[hg]
 ·rename_i k w hg;rw[hg];split at hp
  ·rename_i d hd;split at hp<;>cases hp;rename_i en hen;obtain⟨h1,e,h2,h3⟩:=Fu hv;obtain⟨h4,h5,_⟩:=hi d en hen;rw[h4]at h2;cases h2;have h6:=h5 h1 _ h3;rw[Bl]at h6;have h7:a.tmps[d]?=U (.bool w):=by
    rw[X4]at h6;cases hh:a.tmps[d]? with
    |none=>rw[hh]at h6;simp[undef]at h6
    |some v=>rw[hh]at h6;simp at h6;rw[h6]
   simp[yielded,hd,h7]
  ·cases hp
theorem FY {g:Nat->Option Ex} {ops:Array Oper} {s:Sg} {a:Act} (hi:Eg N env h g pb s a) {o:Oper} {path:CO} (hp:IN ops s o=U path) (hv:BK N env h g path=U false) :
  Region.wanted o (yielded ops a.tmps)=false:=by
 unfold IN at hp;unfold Region.wanted;split at hp
 ·cases hp;simp[BK]at hv
 ·rename_i k w hg;rw[hg];split at hp
  ·rename_i d hd;split at hp<;>cases hp;rename_i en hen;obtain⟨h4,h5,h6⟩:=hi d en hen;have key:∀ v,a.tmps.getD d undef=v->v≠.bool w->(yielded ops a.tmps k==U w)=false:=by
    intro v h1 h2;have:yielded ops a.tmps k≠U w:=by
     intro h3;unfold yielded at h3;rw[hd]at h3;simp only[YE]at h3;split at h3
     ·rename_i b hb;cases h3;rw[X4,hb]at h1;simp at h1;exact h2 h1.symm
     ·cases h3
    simpa using this
   rcases Kr hv with h1|⟨h1,e,u,h2,h3,h7⟩
   ·exact key undef (h6 h1) (by simp[undef])
   ·rw[h4]at h2;cases h2;have h8:=h5 h1 u h3;cases u with
    |v x=>
     rw[Bl]at h8;exact key x h8 (λe=>h7 (by rw[e]))
    |p i off=>
     obtain⟨b,_,h9⟩:=h8;exact key _ h9 (by simp)
  ·cases hp
theorem Gp (htk:∀ t k,tk t=U k->N.tid k=t) (hfk:∀ f k,fk f=U k->N.fid k=f) {g:Nat->Option Ex} {s:Sg} {a:Act} (hi:Eg N env h g pb s a) {path:CO} (hp:BK N env h g path=U true)
  {o:Oper} {e:Ex} {us:List (Nat×CO)} (hm:Mc P tk fk s path o.op=U (e,us)) {u:UV} (hv:ev N env h e=U u) (hs:BT P tk o.op=true->h.sub w) (hpr:BT P tk o.op=true->Hj pb env h w) :
  (∃y,(execOp a.eval o).run P w=.ok (.value y) w/\Ei pb u y)/\∀ k p,(k,p)∈us->BK N env h g p=U true->∃ e u,g k=U e/\ev N env h e=U u:=by
 unfold Mc at hm;split at hm
 ·rename_i c x y heq;simp only at hm;split at hm<;>cases hm;rename_i t ec ea eb hc ha hb;obtain⟨en,hen,hpre,rfl⟩:∃ en,s.get t=U en/\en.path.all path.contains=true/\en.ex=ec:=by
   simp only[DV]at hc;split at hc
   ·rename_i en hen;split at hc<;>cases hc;exact⟨en,hen,‹_›,rfl⟩
   ·cases hc
  have hco:(Ca s (.tmp t)).getD 0=en.owner:=by simp[Ca,hen]
  rw[hco]at ha hb ⊢;have hg:=(hi t en hen).1;simp only[ev]at hv;have hcond:∀ b,ev N env h en.ex=U (.v (.bool b))->BK N env h g (path++[(en.owner,b)])=U true:=by
   intro b hb;rw[DH,hp];simp[BK,hg,hb]
  have hother:∀ b b',ev N env h en.ex=U (.v (.bool b))->BK N env h g (path++[(en.owner,b')])=U true->b=b':=by
   intro b b' hb h1;obtain⟨_,e,h2,h3⟩:=Fu h1;rw[hg]at h2;cases h2;rw[hb]at h3;cases h3;rfl
  split at hv
  ·rename_i hcv;have hce:a.eval (.tmp t)=.bool true:=DO hi hp (.tmp t) _ _ (by simp[DV,hen,hpre]) hcv;refine⟨⟨a.eval x,by rw[Ay heq];simp[execOp,hce,asBool],DO hi (hcond true hcv) x ea u ha hv⟩,?_⟩;intro k p hk hkp;simp only[X5,Yd,Yu]at hk;rcases hk with(h1|⟨o',ho,h1⟩)|⟨o',ho,h1⟩
   ·cases h1;exact⟨_,_,hg,hcv⟩
   ·cases h1;exact⟨ea,u,J3 hi (by simpa using ho) ha,hv⟩
   ·cases h1;exact absurd (hother true false hcv hkp) (by simp)
  ·rename_i hcv;have hce:a.eval (.tmp t)=.bool false:=DO hi hp (.tmp t) _ _ (by simp[DV,hen,hpre]) hcv;refine⟨⟨a.eval y,by rw[Ay heq];simp[execOp,hce,asBool],DO hi (hcond false hcv) y eb u hb hv⟩,?_⟩;intro k p hk hkp;simp only[X5,Yd,Yu]at hk;rcases hk with(h1|⟨o',ho,h1⟩)|⟨o',ho,h1⟩
   ·cases h1;exact⟨_,_,hg,hcv⟩
   ·cases h1;exact absurd (hother false true hcv hkp) (by simp)
   ·cases h1;exact⟨eb,u,J3 hi (by simpa using ho) hb,hv⟩
  ·cases hv
 ·rename_i hnp;split at hm<;>cases hm;rename_i hmk;refine⟨Tk htk hfk (λx=>DO hi hp x) hmk hv hs hpr,?_⟩;intro k p hk hkp;simp only[Yg]at hk;obtain⟨x,hx,hk⟩:=hk;split at hk
  ·rename_i hsm;obtain⟨ex,hsx⟩:=Ys.1 hsm;obtain⟨o',ho,h1⟩:=XZ.1 hk;cases h1;obtain⟨ux,h2⟩:=Lr (λc a b=>hnp c a b) hmk hv x hx ex hsx;exact⟨ex,ux,J3 hi ho hsx,h2⟩
  ·cases hk
end Go.Cw
namespace Go.Cw
open Go
variable {P:Program} {w:World} {h:Heap} {env:At} {N:Num} {tk fk:Nat->Option Nat} {pb:Nat->Option Nat}
theorem Eg.put {g:Nat->Option Ex} {s:Sg} {a:Act} (hi:Eg N env h g pb s a) {d:Nat} {v:Value} (hd:d<a.tmps.size) {en:En} (hg:g en.owner=U en.ex)
  (h1:BK N env h g en.path=U true->∀ u,ev N env h en.ex=U u->Ei pb u v) (h2:BK N env h g en.path=U false->v=undef) :
  Eg N env h g pb ((d,en)::s) (a.put (U d) v):=by
 intro t en' he;simp only[Sg.get]at he;split at he
 ·rename_i e;subst e;cases he;rw[CY hd];exact⟨hg,h1,h2⟩
 ·rename_i e;rw[Bq e];exact hi t en' he
theorem MY (htk:∀ t k,tk t=U k->N.tid k=t) (hfk:∀ f k,fk f=U k->N.fid k=f) {g:Nat->Option Ex} {ops:Array Oper} {nt:Nat} {Q:Exit->Act->World->Prop} {rest:List Nat}
  (hs:h.sub w) (hpr:Hj pb env h w):∀ (L:List Nat) (s s':Sg) (rs:List KL) (a:Act),CH P tk fk ops nt L s=U (rs,s')->Eg N env h g pb s a->a.tmps.size=nt ->
   (∀r∈rs,g r.idx=U r.ex)->(∀r∈rs,BK N env h g r.path≠O/\(BK N env h g r.path=U true->r.move=true\/∃ u,ev N env h r.ex=U u)) ->
   (∀a',Eg N env h g pb s' a'->a'.tmps.size=nt->a'.defers=a.defers->wpOps P ops Q rest a' w)->wpOps P ops Q (L++rest) a w:=by
 intro L;induction L with
 |nil=>
  intro s s' rs a hp hi hn _ _ hK;simp only[CH]at hp;cases hp;exact hK a hi hn rfl
 |cons j L ih=>
  intro s s' rs a hp hi hn hg hc hK;simp only[CH]at hp;split at hp<;>try (cases hp;done)
  rename_i o ho;split at hp<;>try (cases hp;done)
  rename_i d path hd hpath;split at hp<;>try (cases hp;done)
  rename_i e us hm;split at hp<;>try (cases hp;done)
  rename_i hdn;split at hp<;>cases hp;rename_i rs' hp;have hrec:=hc _ (Yf ..);have hgj:g j=U e:=hg _ (Yf ..);simp only at hrec;have hd':d<a.tmps.size:=by rw[hn];exact hdn
  have next:∀ v,(BK N env h g path=U true->∀ u,ev N env h e=U u->Ei pb u v)->(BK N env h g path=U false->v=undef)->wpOps P ops Q (L++rest) (a.put (U d) v) w:=by
   intro v h1 h2;refine ih _ s' rs' _ hp (hi.put hd' hgj h1 h2) (by simp[Act.put,hn]) (λr hr=>hg r (Yb _ hr)) (λr hr=>hc r (Yb _ hr)) ?_;intro a' h3 h4 h5;exact hK a' h3 h4 h5
  simp only[Y7,wpOps,ho];cases hev:BK N env h g path with
  |none=>exact absurd hev hrec.1
  |some b=>
   cases b with
   |true=>
    rw[if_pos (De hi hpath hev)];left;cases hu:ev N env h e with
    |none=>
     rcases hrec.2 hev with hmv|⟨u,hu'⟩
     ·obtain⟨x,hx⟩:∃ x,o.op=.move x\/o.op=.assign x:=by
       cases ho':o.op<;>rw[ho']at hmv<;>simp[IX]at hmv
       ·exact⟨_,.inl rfl⟩
       ·exact⟨_,.inr rfl⟩
      have hrun:(execOp a.eval o).run P w=.ok (.value (a.eval x)) w:=by
       rcases hx with hx|hx<;>rw[Ay hx]<;>rfl
      refine BU hrun ?_;rw[hd];exact next _ (λ_ u hu'=>by rw[hu]at hu';cases hu') (λh=>by rw[hev]at h;cases h)
     ·rw[hu]at hu';cases hu'
    |some u=>
     obtain⟨⟨y,hrun,hy⟩,_⟩:=Gp htk hfk hi hev hm hu (λ_=>hs) (λ_=>hpr);refine BU hrun ?_;rw[hd];exact next y (λ_ u' hu'=>by rw[hu]at hu';cases hu';exact hy) (λh=>by rw[hev]at h;cases h)
   |false=>
    rw[if_neg (by rw[FY hi hpath hev];simp)];rw[hd];exact next undef (λh=>by rw[hev]at h;cases h) (λ_=>rfl)
def NI (rs:List KL) (c:List (Nat×CO)):List (Nat×CO):=
 rs.foldr (λr c=>if c.contains (r.idx,r.path)then r.uses++c else c) c
def ER:CO->CO->List (Nat×CO)
 |_,[]=>[]
 |acc,(k,w)::r=>(k,acc)::ER (acc++[(k,w)]) r
def Tc (rs:List KL) (c:List (Nat×CO)):Bool:=
 rs.all λr=>(r.move||c.contains (r.idx,r.path))&&(ER [] r.path).all λx=>c.contains x
def U7 (N:Num) (env:At) (h:Heap) (g:Nat->Option Ex) (c:List (Nat×CO)):Prop:=
 ∀ k p,(k,p)∈c->BK N env h g p=U true->∃ e u,g k=U e/\ev N env h e=U u
theorem Mn {g:Nat->Option Ex}:∀ (p acc:CO),BK N env h g acc≠O->(∀k q,(k,q)∈ER acc p->BK N env h g q=U true->∃ e u,g k=U e/\ev N env h e=U u)->BK N env h g (acc++p)≠O:=by
 intro p;induction p with
 |nil=>intro acc ha _;simpa using ha
 |cons x p ih=>
  intro acc ha hc;obtain⟨k,w⟩:=x;have:=ih (acc++[(k,w)]) ?_ (λk' q hk=>hc k' q (by simp[ER,hk]))
  ·simpa using this
  ·rw[DH];cases he:BK N env h g acc with
   |none=>exact absurd he ha
   |some b=>
    cases b with
    |false=>simp
    |true=>
     simp only;obtain⟨e,u,h1,h2⟩:=hc k acc (by simp[ER]) he;simp only[BK,h1,YE,h2];cases u with
     |p _ _=>simp
     |v x=>
      cases x<;>simp[BK];split<;>simp
end Go.Cw
namespace Go.Cw
open Go
variable {P:Program} {w:World} {h:Heap} {env:At} {N:Num} {tk fk:Nat->Option Nat} {pb:Nat->Option Nat}
def SG (g:Nat->Option Ex) (s:Sg):Prop:=∀ t en,s.get t=U en->g en.owner=U en.ex
theorem FK {g:Nat->Option Ex} {s:Sg} (hi:SG g s) {x:Operand} {o:Nat} (ho:Ca s x=U o) {path:CO} {e:Ex} (he:DV s path x=U e):g o=U e:=by
 cases x with
 |tmp t=>
  simp only[Ca,XZ]at ho;obtain⟨en,h1,rfl⟩:=ho;simp only[DV,h1]at he;split at he<;>cases he;exact hi t en h1
 |_=>simp[Ca]at ho
def T6 (N:Num) (env:At) (h:Heap) (g:Nat->Option Ex) (r:KL):Prop:=
 (∀k p,(k,p)∈r.uses->r.path.isPrefixOf p=true)/\(BK N env h g r.path=U true->(∃u,ev N env h r.ex=U u)->∀ k p,(k,p)∈r.uses->BK N env h g p=U true->∃ e u,g k=U e/\ev N env h e=U u)
theorem Tl {s:Sg} {path:CO} {op:Op} {e:Ex} {us:List (Nat×CO)} (hm:Mc P tk fk s path op=U (e,us)):∀ k p,(k,p)∈us->path.isPrefixOf p=true:=by
 unfold Mc at hm;split at hm
 ·simp only at hm;split at hm<;>cases hm;intro k p hk;simp only[X5,Yd,Yu]at hk;rcases hk with(h1|⟨o',ho,h1⟩)|⟨o',ho,h1⟩<;>cases h1<;>simp[Yz]
 ·split at hm<;>cases hm;intro k p hk;simp only[Yg]at hk;obtain⟨x,hx,hk⟩:=hk;split at hk
  ·obtain⟨o',ho,h1⟩:=XZ.1 hk;cases h1;simp[Yz]
  ·cases hk
theorem Rn {g:Nat->Option Ex} {s:Sg} (hi:SG g s) {path:CO} (hp:BK N env h g path=U true)
  {op:Op} {e:Ex} {us:List (Nat×CO)} (hm:Mc P tk fk s path op=U (e,us)) {u:UV} (hv:ev N env h e=U u) :
  ∀ k p,(k,p)∈us->BK N env h g p=U true->∃ e u,g k=U e/\ev N env h e=U u:=by
 unfold Mc at hm;split at hm
 ·rename_i c x y;simp only at hm;split at hm<;>cases hm;rename_i t ec ea eb hc ha hb;obtain⟨en,hen,hpre,rfl⟩:∃ en,s.get t=U en/\en.path.all path.contains=true/\en.ex=ec:=by
   simp only[DV]at hc;split at hc
   ·rename_i en hen;split at hc<;>cases hc;exact⟨en,hen,‹_›,rfl⟩
   ·cases hc
  have hco:(Ca s (.tmp t)).getD 0=en.owner:=by simp[Ca,hen]
  rw[hco]at ha hb ⊢;have hg:=hi t en hen;simp only[ev]at hv;have hother:∀ b b',ev N env h en.ex=U (.v (.bool b))->BK N env h g (path++[(en.owner,b')])=U true->b=b':=by
   intro b b' hb h1;obtain⟨_,e,h2,h3⟩:=Fu h1;rw[hg]at h2;cases h2;rw[hb]at h3;cases h3;rfl
  intro k p hk hkp;simp only[X5,Yd,Yu]at hk;split at hv
  ·rename_i hcv;rcases hk with(h1|⟨o',ho,h1⟩)|⟨o',ho,h1⟩
   ·cases h1;exact⟨_,_,hg,hcv⟩
   ·cases h1;exact⟨ea,u,FK hi (by simpa using ho) ha,hv⟩
   ·cases h1;exact absurd (hother true false hcv hkp) (by simp)
  ·rename_i hcv;rcases hk with(h1|⟨o',ho,h1⟩)|⟨o',ho,h1⟩
   ·cases h1;exact⟨_,_,hg,hcv⟩
   ·cases h1;exact absurd (hother false true hcv hkp) (by simp)
   ·cases h1;exact⟨eb,u,FK hi (by simpa using ho) hb,hv⟩
  ·cases hv
 ·rename_i hnp;split at hm<;>cases hm;rename_i hmk;intro k p hk hkp;simp only[Yg]at hk;obtain⟨x,hx,hk⟩:=hk;split at hk
  ·rename_i hsm;obtain⟨ex,hsx⟩:=Ys.1 hsm;obtain⟨o',ho,h1⟩:=XZ.1 hk;cases h1;obtain⟨ux,h2⟩:=Lr (λc a b=>hnp c a b) hmk hv x hx ex hsx;exact⟨ex,ux,FK hi ho hsx,h2⟩
  ·cases hk
theorem L7 {g:Nat->Option Ex} {ops:Array Oper} {nt:Nat}:∀ (L:List Nat) (s s':Sg) (rs:List KL),CH P tk fk ops nt L s=U (rs,s')->SG g s->(∀r∈rs,g r.idx=U r.ex) ->
  (∀r∈rs,T6 N env h g r)/\SG g s':=by
 intro L;induction L with
 |nil=>intro s s' rs hp hi _;simp only[CH]at hp;cases hp;exact⟨by simp,hi⟩
 |cons j L ih=>
  intro s s' rs hp hi hg;simp only[CH]at hp;split at hp<;>try (cases hp;done)
  split at hp<;>try (cases hp;done)
  rename_i d path hd hpath;split at hp<;>try (cases hp;done)
  rename_i e us hm;split at hp<;>try (cases hp;done)
  split at hp<;>cases hp;rename_i rs' hp;have hgj:g j=U e:=hg _ (Yf ..);have hi':SG g ((d,⟨j,path,e⟩)::s):=by
   intro t en he;simp only[Sg.get]at he;split at he
   ·cases he;exact hgj
   ·exact hi t en he
  obtain⟨h1,h2⟩:=ih _ _ _ hp hi' (λr hr=>hg r (Yb _ hr));refine⟨λr hr=>?_,h2⟩;simp only[X5]at hr;rcases hr with rfl|hr
  ·exact⟨Tl hm,λh3 ⟨u,h4⟩=>Rn hi h3 hm h4⟩
  ·exact h1 r hr
theorem NH {g:Nat->Option Ex}:∀ (rs:List KL) (c:List (Nat×CO)),(∀r∈rs,T6 N env h g r)->(∀r∈rs,g r.idx=U r.ex)->U7 N env h g c->U7 N env h g (NI rs c):=by
 intro rs;induction rs with
 |nil=>intro c _ _ hc;exact hc
 |cons r rs ih=>
  intro c hs hg hc;have h1:=ih c (λr hr=>hs r (Yb _ hr)) (λr hr=>hg r (Yb _ hr)) hc;simp only[NI,List.foldr_cons]at h1 ⊢;split
  ·rename_i hcon;intro k p hk hp;simp only[Yd]at hk;rcases hk with hk|hk
   ·have hmem:(r.idx,r.path)∈List.foldr (λr c=>if c.contains (r.idx,r.path)then r.uses++c else c) c rs:=by simpa using hcon
    obtain⟨hpre,hstr⟩:=hs r (Yf ..);have hpr:=Pj (hpre k p hk) hp;obtain⟨e,u,h2,h3⟩:=h1 _ _ hmem hpr;have:=hg r (Yf ..);rw[h2]at this;cases this;exact hstr hpr ⟨u,h3⟩ k p hk hp
   ·exact h1 k p hk hp
  ·exact h1
end Go.Cw
namespace Go.Cw
open Go
variable {P:Program} {w:World} {h:Heap} {env:At} {N:Num} {tk fk:Nat->Option Nat} {pb:Nat->Option Nat}
def Qj (rs:List KL) (s0:Sg) (k:Nat):Option Ex:=
 match rs.find? (λr=>r.idx==k)with
 |some r=>U r.ex
 |none=>(s0.find? λx=>x.2.owner==k).map λx=>x.2.ex
def DE (g:Nat->Option Ex):CO->Option (List (Ex×Bool))
 |[]=>U []
 |(k,w)::r=>
  match g k,DE g r with
  |some e,U l=>U ((e,w)::l)
  |_,_=>O
def IT (g:Nat->Option Ex) (s:Sg) (n:Nat):Nat->AR->Option (List Hz×List (Nat×CO))
 |_,[]=>U ([],[])
 |i,(slot,pr)::r=>
  match s.get slot,IT g s n (i+1) r with
  |some en,U (ls,c)=>
   if en.owner=n+slot then U (ls,c)
   else if pr then O else
   match DE g en.path with
   |some gs=>U (⟨gs,i,en.ex⟩::ls,(en.owner,en.path)::ER [] en.path++c)
   |none=>O
  |_,_=>O
def EW (slot:Nat):Nat->AR->Option (Nat×Bool)
 |_,[]=>O
 |i,(s,pr)::r=>if s=slot then U (i,pr)else EW slot (i+1) r
def JD:Ex->Option Nat
 |.pad i=>U i
 |.o1 (.fadr _) a=>JD a
 |.o1 .nilck a=>JD a
 |.o2 (.aadr _ _) a _=>JD a
 |_=>O
def D8 (s:Sg) (path:CO):List Operand->Option (List Ex)
 |[]=>U []
 |x::r=>
  match DV s path x,D8 s path r with
  |some e,U l=>U (e::l)
  |_,_=>O
def BH (s:Sg) (path:CO) (l:List Operand):List (Nat×CO):=l.filterMap λx=>(Ca s x).map λo=>(o,path)
def LR (P:Program) (e:TypeId) (len:Nat):Option (Array Value):=
 match P.info? e with
 |some i=>
  match i.zero with
  |some z=>if z.cells.size=i.size/\len*i.size<=16777216/\0<i.size then U (((Array.range (len*i.size)).map (z.cells[·%z.cells.size]!)))else O
  |none=>O
 |none=>O
def Dn (σ:Operand->Option Ex) (size:Nat):Ex->List (Nat×Operand)->Option Ex
 |b,[]=>U b
 |b,(i,x)::r=>
  match σ x with
  |some e=>Dn σ size (.o2 (.bput (i*size) size) b e) r
  |none=>O
def Ky (m:AR) (nt:Nat):Option Nat->Option (Option Nat)
 |none=>U O
 |some d=>if d<nt then
   match EW d 0 m with
   |none=>U O
   |some (i,false)=>U (U i)
   |some (_,true)=>O
  else O
def SL (m:AR):Option Nat->Option (Nat×Bool)
 |some d=>EW d 0 m
 |none=>O
def Po (s:Sg) (nt i:Nat) (path:CO) (dst:Option Nat) (x:Operand):Option (EI×List (Nat×CO)):=
 match path,DV s [] x,dst with
 |[],U e,U d=>if d<nt then U (.pnew i e,BH s [] [x])else O
 |_,_,_=>O
def TL (P:Program) (nt i:Nat) (path:CO) (dst:Option Nat) (t:TypeId):Option (EI×List (Nat×CO)):=
 match path,(P.info? t).bind (·.zero),dst with
 |[],U z,U d=>if d<nt then U (.pnew i (.con z),[])else O
 |_,_,_=>O
def TK (P:Program) (g:Nat->Option Ex) (s:Sg) (path:CO) (dst:Option Nat) (t:TypeId) (a x:Operand):Option (EI×List (Nat×CO)):=
 match DV s path a,DV s path x,A7 P t,dst with
 |some ea,U ex,U n,O=>
  match JD ea with
  |some i=>if path.isEmpty then U (.pst i (.upd (.cnt i) i n ea ex),BH s path [a,x])else O
  |none=>
   match DE g path with
   |some gs=>U (.ef gs (.st n) [ea,ex] O,ER [] path++BH s path [a,x])
   |none=>O
 |_,_,_,_=>O
def Pn (P:Program) (tk:Nat->Option Nat) (nt:Nat) (m:AR) (g:Nat->Option Ex) (s:Sg) (path:CO) (dst:Option Nat) (t:TypeId) (len:Nat) (parts:List (Nat×Operand)):Option (EI×List (Nat×CO)):=
 match P.underlying t with
 |some (.slice e)=>
  match LR P e len,A7 P e,tk e,DE g path,Ky m nt dst with
  |some z,U size,U k,U gs,U d=>
   match Dn (DV s path) size (.con (.agg z)) parts with
   |some ex=>U (.ef gs (.bsl k len) [ex] d,ER [] path++BH s path (parts.map (·.2)))
   |none=>O
  |_,_,_,_,_=>O
 |_=>O
def Pm (P:Program) (tk fk:Nat->Option Nat) (nt:Nat) (m:AR) (g:Nat->Option Ex) (s:Sg) (path:CO) (dst:Option Nat) (op:Op):Option (EI×List (Nat×CO)):=
 match Us P tk fk op with
 |some (f,xs)=>
  match D8 s path xs,DE g path,Ky m nt dst with
  |some es,U gs,U d=>U (.ef gs f es d,ER [] path++BH s path xs)
  |_,_,_=>O
 |none=>O
def Kv (P:Program) (tk fk:Nat->Option Nat) (ops:Array Oper) (nt:Nat) (m:AR) (g:Nat->Option Ex) (s:Sg) (o:Oper):Option (EI×List (Nat×CO)):=
 match IN ops s o with
 |none=>O
 |some path=>
  match SL m o.dst with
  |some (i,true)=>
   match o.op with
   |.box _ x=>Po s nt i path o.dst x
   |.alloc t=>TL P nt i path o.dst t
   |_=>O
  |_=>
   match o.op with
   |.store t a x=>TK P g s path o.dst t a x
   |.buildSlice t len parts=>Pn P tk nt m g s path o.dst t len parts.toList
   |op=>Pm P tk fk nt m g s path o.dst op
def IS:List Nat->Bool
 |[]=>true
 |x::r=>!r.contains x&&IS r
def HX (P:Program) (tk fk:Nat->Option Nat) (ops:Array Oper) (nt:Nat) (m:AR) (L:List Nat) (x:Option Nat):Option Hi:=
 match CH P tk fk ops nt L (ID ops.size 0 m)with
 |none=>O
 |some (rs,s)=>
  let g:=Qj rs (ID ops.size 0 m)
  if IS L&&L.all (·<ops.size)then
   match IT g s ops.size 0 m with
   |none=>O
   |some (lets,c1)=>
    match x with
    |none=>if Tc rs (NI rs c1)then U ⟨lets,O⟩else O
    |some j=>
     match ops[j]? with
     |none=>O
     |some o=>
      match Kv P tk fk ops nt m g s o with
      |some (ei,c2)=>if Tc rs (NI rs (c1++c2))then U ⟨lets,U ei⟩else O
      |none=>O
  else O
def Gs:Op->Bool
 |.move _ | .assign _ | .pick _ _ _ | .build _ _ | .makeFunc _ _ _ | .slice _ _ _ _ _ | .fieldAddr _ _ _ | .load _ _ | .nilCheck _ | .unOp _ _ _ | .binOp _ _ _ _ _ | .convert _ _ _
 |.extract _ _ | .field _ _ _ | .makeInterface _ _ | .typeAssert _ _ _ _ | .indexAddr _ _ _ | .index _ _ _ | .lookup _ _ _ _=>true
 |.call { callee:=.builtin b,args:=_,argTypes:=_ }=>match b with
  |.len | .max | .min=>true
  |_=>false
 |_=>false
def DD (P:Program) (tk fk:Nat->Option Nat) (ops:Array Oper) (nt:Nat) (m:AR):List Nat->List Nat->Option (List Hi)
 |acc,[]=>if acc.isEmpty then U []else(HX P tk fk ops nt m acc.reverse O).map λs=>[s]
 |acc,j::r=>
  match ops[j]? with
  |none=>O
  |some o=>
   if Gs o.op then DD P tk fk ops nt m (j::acc) r
   else
    match HX P tk fk ops nt m acc.reverse (U j),DD P tk fk ops nt m [] r with
    |some s,U l=>U (s::l)
    |_,_=>O
end Go.Cw
namespace Go.Cw
open Go
variable {P:Program} {w:World} {h:Heap} {env:At} {N:Num} {tk fk:Nat->Option Nat} {pb:Nat->Option Nat}
structure Hn (m:AR) (nt:Nat) (h0:Heap) (w0:World) (pb:Nat->Option Nat) (env:At) (h:Heap) (a:Act) (w:World):Prop where
 elen:env.length=m.length
 plain:∀ i slot,m[i]?=U (slot,false)->∀ v,env.get i=U v->a.tmps.getD slot undef=v
 prom:∀ i slot,m[i]?=U (slot,true)->∀ v,env.get i=U v->∃ b,pb i=U b/\a.tmps.getD slot undef=.pointer (U ⟨b,0,O⟩)
 priv:Hj pb env h w
 pbm:∀ i b,pb i=U b->∃ slot,m[i]?=U (slot,true)/\w0.heap.size<=b
 inj:∀ i j b,pb i=U b->pb j=U b->i=j
 step:Aw h0 h w0 w
 nt:a.tmps.size=nt
 df:a.defers=[]
theorem ED {g:Nat->Option Ex}:∀ (p:CO) (gs:List (Ex×Bool)),DE g p=U gs->Dz N env h gs=BK N env h g p:=by
 intro p;induction p with
 |nil=>intro gs hg;simp only[DE]at hg;cases hg;rfl
 |cons x p ih=>
  intro gs hg;obtain⟨k,w⟩:=x;simp only[DE]at hg;split at hg<;>cases hg;rename_i e l he hl;simp only[Dz,BK,he,YE,ih l hl]
  all_goals
   cases hv:ev N env h e with
   |none=>rfl
   |some u=>cases u with
    |p _ _=>rfl
    |v x=>cases x<;>rfl
theorem Lk {g:Nat->Option Ex}:∀ (p acc:CO),BK N env h g (acc++p)≠O->U7 N env h g (ER acc p):=by
 intro p;induction p with
 |nil=>intro acc _ k q hk;simp[ER]at hk
 |cons x p ih=>
  intro acc ha k q hk hq;obtain⟨k',w⟩:=x;simp only[ER,X5]at hk;rcases hk with hk|hk
  ·cases hk;rw[DH,hq]at ha;simp only[BK]at ha;cases hb:(g k).bind (ev N env h)with
   |none=>rw[hb]at ha;simp at ha
   |some u=>
    obtain⟨e,h1,h2⟩:=X2.1 hb;exact⟨e,u,h1,h2⟩
  ·exact ih (acc++[(k',w)]) (by simpa using ha) k q hk hq
theorem LY {n:Nat}:∀ (m:AR) (i t:Nat) (en:En),(ID n i m).get t=U en->∃ (j:Nat) (pr:Bool),m[j]?=U (t,pr)/\en=⟨n+t,[],if pr=true then .pad (i+j)else .var (i+j)⟩:=by
 intro m;induction m with
 |nil=>intro i t en he;simp[ID,Sg.get]at he
 |cons x m ih=>
  intro i t en he;obtain⟨slot,pr⟩:=x;simp only[ID,Sg.get]at he;split at he
  ·rename_i e;subst e;cases he;exact⟨0,pr,rfl,by simp⟩
  ·obtain⟨j,pr',h1,h2⟩:=ih _ _ _ he;exact⟨j+1,pr',by simpa using h1,by rw[h2];simp[Zg,Nat.add_comm 1 j]⟩
theorem SM {n:Nat}:∀ (m:AR) (i t:Nat) (en:En),(ID n i m).get t=U en->((ID n i m).find? λx=>x.2.owner==n+t).map (λx=>x.2.ex)=U en.ex:=by
 intro m;induction m with
 |nil=>intro i t en he;simp[ID,Sg.get]at he
 |cons x m ih=>
  intro i t en he;obtain⟨slot,pr⟩:=x;simp only[ID,Sg.get]at he ⊢;split at he
  ·rename_i e;subst e;cases he;simp
  ·rename_i e;have:(n+slot==n+t)=false:=by simp;exact e
   rw[YQ (by simpa using e)];exact ih _ _ _ he
theorem HG:∀ (l:List Nat),IS l=true->l.Nodup:=by
 intro l;induction l with
 |nil=>intro _;exact YJ
 |cons x l ih=>
  intro hl;simp only[IS,X6,YD,List.contains_eq_mem,decide_eq_false_iff_not]at hl;exact Yr.2 ⟨hl.1,ih hl.2⟩
theorem Lj {ops:Array Oper} {nt:Nat}:∀ (L:List Nat) (s s':Sg) (rs:List KL),CH P tk fk ops nt L s=U (rs,s')->rs.map (·.idx)=L:=by
 intro L;induction L with
 |nil=>intro s s' rs hp;simp only[CH]at hp;cases hp;rfl
 |cons j L ih=>
  intro s s' rs hp;simp only[CH]at hp;split at hp<;>try (cases hp;done)
  split at hp<;>try (cases hp;done)
  split at hp<;>try (cases hp;done)
  split at hp<;>try (cases hp;done)
  split at hp<;>cases hp;rename_i rs' hp;simp[ih _ _ _ hp]
theorem UN {rs:List KL} {s0:Sg}:(rs.map (·.idx)).Nodup->∀ r∈rs,Qj rs s0 r.idx=U r.ex:=by
 intro hn r hr;have:rs.find? (λx=>x.idx==r.idx)=U r:=by
  induction rs with
  |nil=>simp at hr
  |cons x rs ih=>
   simp only[Yj,Yr]at hn;simp only[X5]at hr;rcases hr with rfl|hr
   ·simp
   ·have hne:x.idx≠r.idx:=by
     intro e;exact hn.1 (e▸YX hr)
    rw[YQ (by simpa using hne)];exact ih hn.2 hr
 simp[Qj,this]
theorem Qi {rs:List KL} {n:Nat} {m:AR} (hlt:∀ r∈rs,r.idx<n):SG (Qj rs (ID n 0 m)) (ID n 0 m):=by
 intro t en he;obtain⟨j,pr,h1,h2⟩:=LY m 0 t en he;have hno:rs.find? (λr=>r.idx==n+t)=O:=by
  rw[List.find?_eq_none];intro r hr;have:=hlt r hr;simp;omega
 have ho:en.owner=n+t:=by rw[h2]
 rw[ho];simp only[Qj,hno];exact SM m 0 t en he
theorem Hn.sinv {m:AR} {nt:Nat} {h0:Heap} {w0:World} {a:Act} (hr:Hn m nt h0 w0 pb env h a w) {rs:List KL} {n:Nat} (hlt:∀ r∈rs,r.idx<n) :
  Eg N env h (Qj rs (ID n 0 m)) pb (ID n 0 m) a:=by
 intro t en he;obtain⟨j,pr,h1,h2⟩:=LY m 0 t en he;refine⟨Qi hlt t en he,?_,?_⟩
 ·intro _ u hu;subst h2;simp only[Yn]at hu;cases pr with
  |false=>
   simp only[Ym,if_false,ev,XZ]at hu;obtain⟨v,h3,rfl⟩:=hu;exact hr.plain j t h1 v h3
  |true=>
   simp only[if_true,ev,XZ]at hu;obtain⟨v,h3,rfl⟩:=hu;obtain⟨b,h4,h5⟩:=hr.prom j t h1 v h3;exact⟨b,h4,h5⟩
 ·intro hf;rw[h2]at hf;simp[BK]at hf
end Go.Cw
namespace Go.Cw
open Go
variable {P:Program} {w:World} {h:Heap} {env:At} {N:Num} {tk fk:Nat->Option Nat} {pb:Nat->Option Nat}
theorem At.get_put_same {e:At} {i:Nat} {v:Value} (hi:i<e.length):(At.put e i v).get i=U v:=by
 simp[At.get,At.put,hi]
theorem At.get_put_other {e:At} {i j:Nat} {v:Value} (hij:i≠j):(At.put e i v).get j=e.get j:=by
 simp[At.get,At.put,List.getElem?_set,hij]
theorem At.len_put {e:At} {i:Nat} {v:Value}:(At.put e i v).length=e.length:=by simp[At.put]
theorem Lu {g:Nat->Option Ex} {s:Sg} {n:Nat}:∀ (m:AR) (k:Nat) (ls:List Hz) (c:List (Nat×CO)) (e e1:At),IT g s n k m=U (ls,c)->AV N env h ls e=U e1->k+m.length<=e.length ->
  (∀t en,s.get t=U en->g en.owner=U en.ex) ->
  e1.length=e.length/\(∀j,j<k->e1.get j=e.get j)/\U7 N env h g c /\
  ∀ (j slot:Nat) (pr:Bool),m[j]?=U (slot,pr)->∃ en,s.get slot=U en /\
   ((en.owner=n+slot/\e1.get (k+j)=e.get (k+j)) \/
   (pr=false/\((BK N env h g en.path=U true/\∃ x,ev N env h en.ex=U (.v x)/\e1.get (k+j)=U x)\/(BK N env h g en.path=U false/\e1.get (k+j)=U undef)))):=by
 intro m;induction m with
 |nil=>
  intro k ls c e e1 hl hp _ _;simp only[IT]at hl;cases hl;simp only[AV]at hp;cases hp;exact⟨rfl,λ_ _=>rfl,by intro k p hk;simp at hk,by intro j slot pr hm;simp at hm⟩
 |cons x m ih=>
  intro k ls c e e1 hl hp hlen hg;obtain⟨slot,pr⟩:=x;simp only[IT]at hl;split at hl<;>try (cases hl;done)
  rename_i en ls' c' hen hl';simp only[Y5]at hlen;split at hl
  ·rename_i ho;cases hl;obtain⟨h1,h2,h3,h4⟩:=ih (k+1) ls c e e1 hl' hp (by omega) hg;refine⟨h1,λj hj=>h2 j (by omega),h3,?_⟩;intro j slot' pr' hm;cases j with
   |zero=>simp at hm;obtain⟨rfl,rfl⟩:=hm;exact⟨en,hen,.inl ⟨ho,h2 k (by omega)⟩⟩
   |succ j=>
    have:=h4 j slot' pr' (by simpa using hm)
    rwa [show k+1+j=k+(j+1) by omega]at this
  ·rename_i ho;split at hl<;>try (cases hl;done)
   rename_i hpr;split at hl<;>cases hl;rename_i gs hgs;simp only[AV]at hp;have hgse:=ED (N:=N) (env:=env) (h:=h) en.path gs hgs;have hgo:=hg slot en hen;have fin:∀ v,AV N env h ls' (e.put k v)=U e1->BK N env h g en.path≠O ->
     ((BK N env h g en.path=U true/\∃ x,ev N env h en.ex=U (.v x)/\v=x)\/(BK N env h g en.path=U false/\v=undef)) ->
     e1.length=e.length/\(∀j,j<k->e1.get j=e.get j)/\U7 N env h g ((en.owner,en.path)::ER [] en.path++c') /\
     ∀ (j slot':Nat) (pr':Bool),((slot,pr)::m)[j]?=U (slot',pr')->∃ en,s.get slot'=U en /\
      ((en.owner=n+slot'/\e1.get (k+j)=e.get (k+j)) \/
      (pr'=false/\((BK N env h g en.path=U true/\∃ x,ev N env h en.ex=U (.v x)/\e1.get (k+j)=U x)\/(BK N env h g en.path=U false/\e1.get (k+j)=U undef)))):=by
    intro v hp hne hv;obtain⟨h1,h2,h3,h4⟩:=ih (k+1) ls' c' (e.put k v) e1 hl' hp (by rw[At.len_put];omega) hg;have hk:e1.get k=U v:=by rw[h2 k (by omega)];exact At.get_put_same (by omega)
    refine⟨by rw[h1,At.len_put],λj hj=>?_,?_,?_⟩
    ·rw[h2 j (by omega)];exact At.get_put_other (by omega)
    ·intro k' p hk' hp';simp only[Yd,X5]at hk';rcases hk' with(hk'|hk')|hk'
     ·cases hk';rcases hv with⟨_,x,hx,_⟩|⟨hf,_⟩
      ·exact⟨_,_,hgo,hx⟩
      ·rw[hf]at hp';cases hp'
     ·exact Lk en.path [] (by simpa using hne) k' p hk' hp'
     ·exact h3 k' p hk' hp'
    ·intro j slot' pr' hm;cases j with
     |zero=>
      simp at hm;obtain⟨rfl,rfl⟩:=hm;refine⟨en,hen,.inr ⟨by simpa using hpr,?_⟩⟩;rw[YV,hk];rcases hv with⟨ht,x,hx,rfl⟩|⟨hf,rfl⟩
      ·exact .inl ⟨ht,_,hx,rfl⟩
      ·exact .inr ⟨hf,rfl⟩
     |succ j=>
      obtain⟨en',h5,h6⟩:=h4 j slot' pr' (by simpa using hm);refine⟨en',h5,?_⟩;rw[show k+1+j=k+(j+1) by omega]at h6
      rwa [At.get_put_other (by omega)]at h6
   split at hp
   ·cases hp
   ·rename_i hf;rw[hgse]at hf;exact fin undef hp (by rw[hf];simp) (.inr ⟨hf,rfl⟩)
   ·rename_i ht;rw[hgse]at ht;split at hp
    ·rename_i x hx;exact fin x hp (by rw[ht];simp) (.inl ⟨ht,x,hx,rfl⟩)
    ·cases hp
theorem Hn.lets {m:AR} {nt:Nat} {h0:Heap} {w0:World} {a a':Act} (hr:Hn m nt h0 w0 pb env h a w) {g:Nat->Option Ex} {s:Sg} {n:Nat} {ls:List Hz} {c:List (Nat×CO)} {e1:At}
  (hl:IT g s n 0 m=U (ls,c)) (hp:AV N env h ls env=U e1) (hi:Eg N env h g pb s a') (hn:a'.tmps.size=nt) (hd:a'.defers=a.defers)
  (hini:∀ t en,s.get t=U en->en.owner=n+t->∃ (j:Nat) (pr:Bool),m[j]?=U (t,pr)/\en.path=[]/\en.ex=if pr=true then .pad j else .var j)
  (hnd:(m.map (·.1)).Nodup):Hn m nt h0 w0 pb e1 h a' w:=by
 obtain⟨h1,_,_,h4⟩:=Lu m 0 ls c env e1 hl hp (by rw[hr.elen];omega) (λt en he=>(hi t en he).1);have huniq:∀ (j j' slot:Nat) (pr pr':Bool),m[j]?=U (slot,pr)->m[j']?=U (slot,pr')->j=j'/\pr=pr':=by
  intro j j' slot pr pr' hj hj';have e1:(m.map (·.1))[j]?=U slot:=by simp[hj]
  have e2:(m.map (·.1))[j']?=U slot:=by simp[hj']
  have hjl:j<(m.map (·.1)).length:=(Yk.1 e1).1;have:=(Y4 hjl hnd).1 (e1.trans e2.symm);subst this;rw[hj]at hj';cases hj';exact⟨rfl,rfl⟩
 have hkeep:∀ (j slot:Nat) (pr:Bool) (en:En),m[j]?=U (slot,pr)->s.get slot=U en->en.owner=n+slot->en.path=[]/\en.ex=if pr=true then .pad j else .var j:=by
  intro j slot pr en hj hen ho;obtain⟨j',pr',h5,h6,h7⟩:=hini slot en hen ho;obtain⟨rfl,rfl⟩:=huniq _ _ _ _ _ hj h5;exact⟨h6,h7⟩
 have hprom:∀ i slot,m[i]?=U (slot,true)->e1.get i=env.get i:=by
  intro i slot hm;obtain⟨en,h5,h6⟩:=h4 i slot true hm;rcases h6 with⟨_,h6⟩|⟨h6,_⟩
  ·simpa using h6
  ·cases h6
 refine⟨by rw[h1,hr.elen],?_,?_,?_,hr.pbm,hr.inj,hr.step,hn,by rw[hd,hr.df]⟩
 ·intro i slot hm v hv;obtain⟨en,h5,h6⟩:=h4 i slot false hm;rw[Yn]at h6;rcases h6 with⟨ho,h6⟩|⟨_,h6⟩
  ·obtain⟨h7,h8⟩:=hkeep i slot false en hm h5 ho;have:=(hi slot en h5).2.1 (by rw[h7];rfl) (.v v) (by rw[h8];simp only[Ym,if_false,ev];rw[<-h6,hv];rfl);exact this
  ·rcases h6 with⟨ht,x,hx,h6⟩|⟨hf,h6⟩
   ·rw[h6]at hv;cases hv;exact(hi slot en h5).2.1 ht _ hx
   ·rw[h6]at hv;cases hv;exact(hi slot en h5).2.2 hf
 ·intro i slot hm v hv;obtain⟨en,h5,h6⟩:=h4 i slot true hm;rcases h6 with⟨ho,h6⟩|⟨h6,_⟩
  ·rw[Yn]at h6;obtain⟨h7,h8⟩:=hkeep i slot true en hm h5 ho;have:=(hi slot en h5).2.1 (by rw[h7];rfl) (.p i 0) (by rw[h8];simp only[if_true,ev];rw[<-h6,hv];rfl);exact this
  ·cases h6
 ·intro i b hb;obtain⟨c',t,h5,h6,h7⟩:=hr.priv i b hb;obtain⟨slot,h8,_⟩:=hr.pbm i b hb;exact⟨c',t,by rw[hprom i slot h8];exact h5,h6,h7⟩
end Go.Cw
namespace Go.Cw
open Go
variable {P:Program} {w:World} {h:Heap} {env:At} {N:Num} {tk fk:Nat->Option Nat} {pb:Nat->Option Nat} {Γ:Ctx}
theorem Bt {slot:Nat}:∀ (m:AR) (k i:Nat) (pr:Bool),EW slot k m=U (i,pr)->∃ j,i=k+j/\m[j]?=U (slot,pr):=by
 intro m;induction m with
 |nil=>intro k i pr hi;simp[EW]at hi
 |cons x m ih=>
  intro k i pr hi;obtain⟨s,p⟩:=x;simp only[EW]at hi;split at hi
  ·rename_i e;subst e;cases hi;exact⟨0,by simp,by simp⟩
  ·obtain⟨j,h1,h2⟩:=ih _ _ _ hi;exact⟨j+1,by omega,by simpa using h2⟩
theorem Pb {slot:Nat}:∀ (m:AR) (k:Nat),EW slot k m=O->∀ (j:Nat) (pr:Bool),m[j]?≠U (slot,pr):=by
 intro m;induction m with
 |nil=>intro k _ j pr;simp
 |cons x m ih=>
  intro k hi j pr;obtain⟨s,p⟩:=x;simp only[EW]at hi;split at hi
  ·cases hi
  ·rename_i hne;cases j with
   |zero=>intro hj;simp at hj;exact hne hj.1
   |succ j=>simpa using ih _ hi j pr
theorem EA {m:AR} (hnd:(m.map (·.1)).Nodup) {j j' slot:Nat} {pr pr':Bool} (hj:m[j]?=U (slot,pr)) (hj':m[j']?=U (slot,pr')):j=j'/\pr=pr':=by
 have e1:(m.map (·.1))[j]?=U slot:=by simp[hj]
 have e2:(m.map (·.1))[j']?=U slot:=by simp[hj']
 have hjl:j<(m.map (·.1)).length:=(Yk.1 e1).1;have:=(Y4 hjl hnd).1 (e1.trans e2.symm);subst this;rw[hj]at hj';cases hj';exact⟨rfl,rfl⟩
theorem Hj.step {h':Heap} {w':World} (hp:Hj pb env h w) (hst:Aw h h' w w'):Hj pb env h' w':=by
 intro i b hb;obtain⟨c,t,h1,h2,h3⟩:=hp i b hb;obtain⟨h4,h5⟩:=hst.frame b (X1.1 h2).1 h3;exact⟨c,t,h1,by rw[h5];exact h2,h4⟩
theorem Hn.put {m:AR} {nt:Nat} {h0:Heap} {w0:World} {a:Act} (hr:Hn m nt h0 w0 pb env h a w) (hnd:(m.map (·.1)).Nodup) {o:Option Nat} {d:Option Nat} (hd:Ky m nt o=U d)
  {h':Heap} {w':World} (hst:Aw h h' w w') (v:Value):Hn m nt h0 w0 pb (Gz env d v) h' (a.put o v) w':=by
 unfold Ky at hd;split at hd
 ·cases hd;exact⟨hr.elen,hr.plain,hr.prom,hr.priv.step hst,hr.pbm,hr.inj,hr.step.trans hst,hr.nt,hr.df⟩
 ·rename_i d' ;split at hd<;>try (cases hd;done)
  rename_i hlt;have hsz:d'<a.tmps.size:=by rw[hr.nt];exact hlt
  split at hd<;>cases hd
  ·rename_i hi;have hne:∀ {i slot:Nat} {pr:Bool},m[i]?=U (slot,pr)->d'≠slot:=by
    intro i slot pr hm e;subst e;exact Pb m 0 hi i pr hm
   refine⟨hr.elen,?_,?_,hr.priv.step hst,hr.pbm,hr.inj,hr.step.trans hst,by simp[Act.put,hr.nt],hr.df⟩
   ·intro i slot hm v' hv;rw[Bq (hne hm)];exact hr.plain i slot hm v' hv
   ·intro i slot hm v' hv;rw[Bq (hne hm)];exact hr.prom i slot hm v' hv
  ·rename_i i hi;obtain⟨j,rfl,hj⟩:=Bt m 0 _ _ hi;rw[Yn];have hjl:j<env.length:=by rw[hr.elen];exact(Yk.1 hj).1
   have hpriv:∀ i b,pb i=U b->i≠j:=by
    intro i b hb e;subst e;obtain⟨slot,h1,_⟩:=hr.pbm i b hb;rw[hj]at h1;cases h1
   refine⟨by simp only[Gz];rw[At.len_put];exact hr.elen,?_,?_,?_,hr.pbm,hr.inj,hr.step.trans hst,by simp[Act.put,hr.nt],hr.df⟩
   ·intro i slot hm v' hv;simp only[Gz]at hv;by_cases e:j=i
    ·subst e;rw[hj]at hm;cases hm;rw[At.get_put_same hjl]at hv;cases hv;exact CY hsz
    ·rw[At.get_put_other e]at hv;have:d'≠slot:=by intro e';subst e';exact e (EA hnd hj hm).1
     rw[Bq this];exact hr.plain i slot hm v' hv
   ·intro i slot hm v' hv;simp only[Gz]at hv;have e:j≠i:=by intro e;subst e;rw[hj]at hm;cases hm
    rw[At.get_put_other e]at hv;have:d'≠slot:=by intro e';subst e';exact e (EA hnd hj hm).1
    rw[Bq this];exact hr.prom i slot hm v' hv
   ·intro i b hb;obtain⟨c,t,h1,h2,h3⟩:=hr.priv.step hst i b hb;exact⟨c,t,by simp only[Gz];rw[At.get_put_other (Ne.symm (hpriv i b hb))];exact h1,h2,h3⟩
theorem Jp {g:Nat->Option Ex} {s:Sg} {a:Act} (hi:Eg N env h g pb s a) {path:CO} (hp:BK N env h g path=U true):∀ (xs:List Operand) (es:List Ex) (us:List Value),
  D8 s path xs=U es->AS N env h es=U us->xs.map a.eval=us:=by
 intro xs;induction xs with
 |nil=>intro es us h1 h2;simp only[D8]at h1;cases h1;simp only[AS]at h2;cases h2;rfl
 |cons x xs ih=>
  intro es us h1 h2;simp only[D8]at h1;split at h1<;>cases h1;rename_i e l he hl;simp only[AS]at h2;split at h2<;>cases h2;rename_i v vs hv hvs;have:a.eval x=v:=DO hi hp x e _ he hv;simp[this,ih l vs hl hvs]
theorem HN {g:Nat->Option Ex} {s:Sg} (hi:SG g s) {path:CO}:∀ (xs:List Operand) (es:List Ex),D8 s path xs=U es->(∀e∈es,∃u,ev N env h e=U u) ->
  ∀ k p,(k,p)∈BH s path xs->∃ e u,g k=U e/\ev N env h e=U u:=by
 intro xs;induction xs with
 |nil=>intro es _ _ k p hk;simp[BH]at hk
 |cons x xs ih=>
  intro es h1 h2 k p hk;simp only[D8]at h1;split at h1<;>cases h1;rename_i e l he hl;simp only[BH,Yg,X5]at hk;obtain⟨y,hy,hk⟩:=hk;obtain⟨o,ho,h3⟩:=XZ.1 hk;cases h3;rcases hy with rfl|hy
  ·obtain⟨u,hu⟩:=h2 e (Yf ..);exact⟨e,u,FK hi ho he,hu⟩
  ·exact ih l hl (λe he=>h2 e (Yb _ he)) _ _ (by simp only[BH,Yg];exact⟨y,hy,by rw[ho];rfl⟩)
theorem GQ {es:List Ex} {us:List Value} (hv:AS N env h es=U us):∀ e∈es,∃u,ev N env h e=U u:=by
 induction es generalizing us with
 |nil=>intro e he;simp at he
 |cons x es ih=>
  simp only[AS]at hv;split at hv<;>cases hv;rename_i v vs h1 h2;intro e he;simp only[X5]at he;rcases he with rfl|he
  ·exact⟨_,h1⟩
  ·exact ih h2 e he
theorem J7 {σ:Operand->Option Ex} {size:Nat}:∀ (parts:List (Nat×Operand)) (b e:Ex) (u:UV),Dn σ size b parts=U e->ev N env h e=U u->∃ ub,ev N env h b=U ub:=by
 intro parts;induction parts with
 |nil=>intro b e u hm hv;simp only[Dn]at hm;cases hm;exact⟨u,hv⟩
 |cons p parts ih=>
  intro b e u hm hv;obtain⟨i,x⟩:=p;simp only[Dn]at hm;split at hm<;>try (cases hm;done)
  obtain⟨ub,h1⟩:=ih _ _ _ hm hv;obtain⟨xv,yv,h2,h3,h4⟩:=GP h1;exact⟨_,h2⟩
theorem J6 {σ:Operand->Option Ex} {size:Nat}:∀ (parts:List (Nat×Operand)) (b e:Ex) (u:UV),Dn σ size b parts=U e->ev N env h e=U u ->
  ∀ p∈parts,∃ex,σ p.2=U ex/\∃ ux,ev N env h ex=U ux:=by
 intro parts;induction parts with
 |nil=>intro b e u _ _ p hp;simp at hp
 |cons q parts ih=>
  intro b e u hm hv p hp;obtain⟨i,x⟩:=q;simp only[Dn]at hm;split at hm<;>try (cases hm;done)
  rename_i ex' hx';obtain⟨ub,h1⟩:=J7 _ _ _ _ hm hv;obtain⟨xv,yv,h2,h3,h4⟩:=GP h1;simp only[X5]at hp;rcases hp with rfl|hp
  ·exact⟨_,hx',_,h3⟩
  ·exact ih _ _ _ hm hv p hp
theorem KW {σ:Operand->Option Ex} {ρ:Operand->Value} {size:Nat} :
  ∀ (parts:List (Nat×Operand)) (b e:Ex) (u:UV) (c:Array Value),(∀p∈parts,N8 N env h pb σ ρ p.2)->Dn σ size b parts=U e->ev N env h e=U u->ev N env h b=U (.v (.agg c)) ->
   ∃ c',u=.v (.agg c')/\Instr.fill (λi=>U (i*size,size)) c (parts.map λp=>(p.1,ρ p.2))=U c':=by
 intro parts;induction parts with
 |nil=>
  intro b e u c _ hm hv hb;simp only[Dn]at hm;cases hm;rw[hb]at hv;cases hv;exact⟨c,rfl,rfl⟩
 |cons p parts ih=>
  intro b e u c hs hm hv hb;obtain⟨i,x⟩:=p;simp only[Dn]at hm;split at hm<;>try (cases hm;done)
  rename_i ex hx;obtain⟨ub,h1⟩:=J7 _ _ _ _ hm hv;obtain⟨xv,yv,h2,h3,h4⟩:=GP h1;rw[hb]at h2;cases h2;obtain⟨c0,z,e1,e2,h5,h6,e3⟩:=P0 h4;cases e1;subst e2;subst e3;have hz:ρ x=z:=hs (i,x) (by simp) ex _ hx h3;obtain⟨c',e4,h7⟩:=ih _ _ _ _ (λp hp=>hs p (by simp[hp])) hm hv h1;refine⟨c',e4,?_⟩;rw[Yj,hz,Qo _ c i (i*size) size z _ rfl h5 h6];exact h7
theorem JY {t e:TypeId} (hd:P.underlying t=U (.slice e)) {len size:Nat} {z:Array Value} (hz:LR P e len=U z) (hsz:A7 P e=U size)
  {σ:Operand->Option Ex} {ρ:Operand->Value} {parts:Array (Nat×Operand)} (hs:∀ p∈parts.toList,N8 N env h pb σ ρ p.2) {ex:Ex} (hm:Dn σ size (.con (.agg z)) parts.toList=U ex)
  {u:UV} (hv:ev N env h ex=U u):∃ c,u=.v (.agg c) /\
   (Instr.buildSlice t len (parts.map λp=>(p.1,ρ p.2))).run P w=.ok (.slice (U ⟨w.heap.size,0,O⟩) len len) { w with heap:=w.heap.push (.cells c e) }:=by
 obtain⟨c,hu,hf⟩:=KW (ρ:=ρ) parts.toList _ _ _ z hs hm hv rfl;refine⟨c,hu,?_⟩;unfold LR at hz;split at hz<;>try (cases hz;done)
 rename_i i hi;split at hz<;>try (cases hz;done)
 rename_i zv hzv;split at hz<;>cases hz;rename_i hc;have A5:i.size=size:=by simp[A7,hi]at hsz;exact hsz
 obtain⟨hc1,hc2,hc3⟩:=hc;have hl:(parts.map λp=>(p.1,ρ p.2)).toList=parts.toList.map λp=>(p.1,ρ p.2):=by simp
 rw[A5]at hc2;have hz0:=Bp (P:=P) (w:=w) (t:=e) (z:=zv) (by simp[hi,hzv]);have hnew:∀ c:Array Value,(newRow e c).run P w=.ok ⟨w.heap.size,0,O⟩ { w with heap:=w.heap.push (.cells c e) }:=λc=>by simp[newRow,newObj,Sem.run]
 have hle:¬ (len*size>2^24):=by omega
 by_cases h0:len*size=0
 ·simp only[Instr.buildSlice,X3,run_underlying hd,X0,A9 hsz,hle,if_false,h0,if_true,X8];rw[A5,h0]at hf;simp only[Array.range,Array.ofFn_zero,Array.map_empty]at hf ⊢;simp only[hl,hf,X3,hnew,X0,X8];simp[hnew]
 ·simp only[Instr.buildSlice,X3,run_underlying hd,X0,A9 hsz,hle,if_false,h0,hz0,X8];rw[A5]at hf;simp only[hl,hf,X3,hnew,X0,X8]
end Go.Cw
namespace Go.Cw
open Go
variable {P:Program} {w:World} {h:Heap} {env:At} {N:Num} {tk fk:Nat->Option Nat} {pb:Nat->Option Nat} {Γ:Ctx}
theorem DQ {g:Nat->Option Ex} {path:CO} {gs:List (Ex×Bool)} (hg:DE g path=U gs) {b:Bool} (hb:Dz N env h gs=U b):U7 N env h g (ER [] path):=by
 have:=ED (N:=N) (env:=env) (h:=h) path gs hg;exact Lk path [] (by rw[YI,<-this,hb];simp)
theorem XK {g:Nat->Option Ex} {s:Sg} (hi:SG g s) {path:CO} {x:Operand} {e:Ex} {u:UV} (hx:DV s path x=U e) (hu:ev N env h e=U u) :
  ∀ k p,(k,p)∈BH s path [x]->∃ e u,g k=U e/\ev N env h e=U u:=
 HN hi [x] [e] (by simp only[D8,hx]) (by simp[hu])
theorem XJ {g:Nat->Option Ex} {s:Sg} (hi:SG g s) {path:CO} {x y:Operand} {e e':Ex} {u u':UV} (hx:DV s path x=U e) (hu:ev N env h e=U u) (hy:DV s path y=U e') (hu':ev N env h e'=U u') :
  ∀ k p,(k,p)∈BH s path [x,y]->∃ e u,g k=U e/\ev N env h e=U u:=
 HN hi [x,y] [e,e'] (by simp only[D8,hx,hy]) (by simp[hu,hu'])
theorem UY {ops:Array Oper} {nt:Nat} {m:AR} {g:Nat->Option Ex} {s:Sg} {o:Oper} {ei:EI} {c:List (Nat×CO)} (he:Kv P tk fk ops nt m g s o=U (ei,c)) (hi:SG g s)
  {env1:At} {K:At->Heap->Prop} (hK:Is N Γ ei env env1 h K):U7 N env h g c:=by
 have Oh:∀ {path:CO} {gs:List (Ex×Bool)} {xs:List Operand} {es:List Ex} {f:Ef} {d:Option Nat},DE g path=U gs->D8 s path xs=U es->Is N Γ (.ef gs f es d) env env1 h K ->
   U7 N env h g (ER [] path++BH s path xs):=by
  intro path gs xs es f d hg hx hK k p hk hp;simp only[Is]at hK;simp only[Yd]at hk;rcases hK with⟨h1,us,h2,_⟩|⟨h1,_⟩
  ·rcases hk with hk|hk
   ·exact DQ hg h1 k p hk hp
   ·exact HN hi xs es hx (GQ h2) k p hk
  ·rcases hk with hk|hk
   ·exact DQ hg h1 k p hk hp
   ·simp only[BH,Yg]at hk;obtain⟨y,hy,hk⟩:=hk;obtain⟨o',ho,h3⟩:=XZ.1 hk;cases h3;rw[<-ED path gs hg,h1]at hp;cases hp
 unfold Kv at he;split at he
 ·cases he
 ·rename_i path hpath;split at he
  ·split at he
   ·unfold Po at he;split at he<;>try (cases he;done)
    split at he<;>cases he;rename_i hx _ _;simp only[Is]at hK;obtain⟨v,h1,_⟩:=hK;intro k p hk _;exact XK hi hx h1 k p hk
   ·unfold TL at he;split at he<;>try (cases he;done)
    split at he<;>cases he;intro k p hk _;simp at hk
   ·cases he
  ·split at he
   ·unfold TK at he;split at he<;>try (cases he;done)
    rename_i ea ex n hea hx _ _;split at he
    ·split at he<;>cases he;simp only[Is]at hK;obtain⟨v,h1,_⟩:=hK;simp only[ev]at h1;split at h1
     ·rename_i c' j off y h2 h3 h4;intro k p hk _;exact XJ hi hea h3 hx h4 k p hk
     ·cases h1
    ·split at he<;>cases he;rename_i hg;exact Oh hg (by simp only[D8,hea,hx]) hK
   ·unfold Pn at he;split at he<;>try (cases he;done)
    split at he<;>try (cases he;done)
    rename_i z size k gs d hz hsz hk hg hd;split at he<;>cases he;rename_i ex hex;intro k p hk hp;simp only[Is]at hK;simp only[Yd]at hk;rcases hK with⟨h1,us,h2,_⟩|⟨h1,_⟩
    ·rcases hk with hk|hk
     ·exact DQ hg h1 k p hk hp
     ·obtain⟨u,hu⟩:=GQ h2 ex (by simp);simp only[BH,Yg,Yu]at hk;obtain⟨y,⟨q,hq,rfl⟩,hk⟩:=hk;obtain⟨o',ho,h3⟩:=XZ.1 hk;cases h3;obtain⟨ey,h4,uy,h5⟩:=J6 _ _ _ _ hex hu q hq;exact⟨ey,uy,FK hi ho h4,h5⟩
    ·rcases hk with hk|hk
     ·exact DQ hg h1 k p hk hp
     ·simp only[BH,Yg]at hk;obtain⟨y,hy,hk⟩:=hk;obtain⟨o',ho,h3⟩:=XZ.1 hk;cases h3;rw[<-ED path gs hg,h1]at hp;cases hp
   ·unfold Pm at he;split at he<;>try (cases he;done)
    split at he<;>cases he;rename_i es gs d hes hg hd;exact Oh hg hes hK
end Go.Cw
namespace Go.Cw
open Go
variable {P:Program} {w:World} {h:Heap} {env:At} {N:Num} {tk fk:Nat->Option Nat} {pb:Nat->Option Nat} {Γ:Ctx}
def Sh (m:AR) (nt:Nat) (h0:Heap) (w0:World) (K:At->Heap->Prop) (R:Act->World->Prop):Prop:=
 ∀ pb env h a w,K env h->Hn m nt h0 w0 pb env h a w->R a w
def EI.prom:EI->Bool
 |.ef _ _ _ _=>false
 |_=>true
def Vv (m:AR) (nt:Nat) (h0:Heap) (w0:World) (ei:EI) (pb0:Nat->Option Nat) (env1:At) (K:At->Heap->Prop) (R:Act->World->Prop):Prop:=
 ∀ pb env h a w,K env h->Hn m nt h0 w0 pb env h a w->(ei.prom=false->pb=pb0/\∀ (i slot:Nat),m[i]?=U (slot,true)->env.get i=env1.get i)->R a w
theorem IL {m:AR} {nt:Nat} {o d:Option Nat} (hd:Ky m nt o=U d) (env:At) (v:Value):∀ (i slot:Nat),m[i]?=U (slot,true)->(Gz env d v).get i=env.get i:=by
 intro i slot hm;unfold Ky at hd;split at hd
 ·cases hd;rfl
 ·split at hd<;>try (cases hd;done)
  split at hd<;>cases hd
  ·rfl
  ·rename_i k hk;obtain⟨j,rfl,hj⟩:=Bt m 0 _ _ hk;have e:0+j≠i:=by intro e;rw[Yn]at e;subst e;rw[hm]at hj;cases hj
   exact At.get_put_other e
theorem JJ {ops:Array Oper} {Q:Exit->Act->World->Prop} {j:Nat} {o:Oper} (ho:ops[j]?=U o) {a:Act} {rest:List Nat} (hw:Region.wanted o (yielded ops a.tmps)=true)
  (h:o.wp P a w (wpOps P ops Q rest) Q):wpOps P ops Q (j::rest) a w:=by
 simp only[wpOps,ho,hw,if_true];exact .inl h
theorem QA {ops:Array Oper} {Q:Exit->Act->World->Prop} {j:Nat} {o:Oper} (ho:ops[j]?=U o) {a:Act} {rest:List Nat} (hw:Region.wanted o (yielded ops a.tmps)=false)
  (h:wpOps P ops Q rest (a.put o.dst undef) w):wpOps P ops Q (j::rest) a w:=by
 simp only[wpOps,ho,hw];exact h
theorem ND (htk:∀ t k,tk t=U k->N.tid k=t) (hfk:∀ f k,fk f=U k->N.fid k=f) (hΓ:Good P N Γ) {ops:Array Oper} {nt:Nat} {m:AR} {g:Nat->Option Ex} {s:Sg} {o:Oper} {ei:EI} {c:List (Nat×CO)} {j:Nat}
  (ho:ops[j]?=U o) (he:Kv P tk fk ops nt m g s o=U (ei,c)) (hnd:(m.map (·.1)).Nodup) {h0:Heap} {w0:World} {a:Act} (hi:Eg N env h g pb s a) {env1:At} (hr:Hn m nt h0 w0 pb env1 h a w)
  (hkeep:∀ i slot,m[i]?=U (slot,true)->env1.get i=env.get i)
  {K:At->Heap->Prop} (hK:Is N Γ ei env env1 h K) {Q:Exit->Act->World->Prop} {rest:List Nat} (hn:Vv m nt h0 w0 ei pb env1 K (wpOps P ops Q rest)):wpOps P ops Q (j::rest) a w:=by
 have hs:h.sub w:=hr.step.sub;unfold Kv at he;split at he
 ·cases he
 ·rename_i path hpath;have gen:∀ {gs:List (Ex×Bool)} {f:Ef} {es:List Ex} {d:Option Nat},Vv m nt h0 w0 (.ef gs f es d) pb env1 K (wpOps P ops Q rest)->DE g path=U gs->Ky m nt o.dst=U d->Is N Γ (.ef gs f es d) env env1 h K ->
    (∀us,BK N env h g path=U true->AS N env h es=U us->By N Γ f us h (λr h'=>K (Gz env1 d r) h')->o.wp P a w (wpOps P ops Q rest) Q)->wpOps P ops Q (j::rest) a w:=by
   intro gs f es d hn hg hd hK hrun;simp only[Is]at hK;have hgs:=ED (N:=N) (env:=env) (h:=h) path gs hg;rcases hK with⟨h1,us,h2,h3⟩|⟨h1,h2⟩
   ·rw[hgs]at h1;exact JJ ho (De hi hpath h1) (hrun us h1 h2 h3)
   ·rw[hgs]at h1;exact QA ho (FY hi hpath h1) (hn _ _ _ _ _ h2 (hr.put hnd hd (Aw.refl hs) undef) (λ_=>⟨rfl,IL hd _ _⟩))
  split at he
  ·rename_i i hslot;have pn:Sh m nt h0 w0 K (wpOps P ops Q rest)->∀ {d:Nat} {x:Value} {t:TypeId},o.dst=U d->d<nt->K (env1.put i (.agg x.cells)) h->Region.wanted o (yielded ops a.tmps)=true ->
     (execOp a.eval o).run P w=.ok (.value (.pointer (U ⟨w.heap.size,0,O⟩))) { w with heap:=w.heap.push (.cells x.cells t) }->wpOps P ops Q (j::rest) a w:=by
    intro hn' d x t hd hlt hK hw hrun;rw[hd]at hslot;simp only[SL]at hslot;obtain⟨i',rfl,hm⟩:=Bt m 0 _ _ hslot;rw[Yn]at hK;have hil:i'<env1.length:=by rw[hr.elen];exact(Yk.1 hm).1
    have hsz:d<a.tmps.size:=by rw[hr.nt];exact hlt
    have hold:∀ k b,pb k=U b->b<w.heap.size:=λk b hb=>by
     obtain⟨c',t',_,h2,_⟩:=hr.priv k b hb;exact(X1.1 h2).1
    refine JJ ho hw (BU hrun ?_);rw[hd];refine hn' (λk=>if k=i' then U w.heap.size else pb k) _ _ _ _ hK ?_;have hst:Aw h h w { w with heap:=w.heap.push (.cells x.cells t) }:=by
     refine⟨λb o' hb=>?_,by simp,rfl,rfl,rfl,λb hb hn=>⟨hn,by simp[Yt,YC hb]⟩⟩;have:=hs b o' hb;have hlt':=(X1.1 this).1;simp[Yt,YC hlt',this]
    refine⟨by rw[At.len_put];exact hr.elen,?_,?_,?_,?_,?_,hr.step.trans hst,by simp[Act.put,hr.nt],hr.df⟩
    ·intro k slot hmk v hv;have e:i'≠k:=by intro e;subst e;rw[hm]at hmk;cases hmk
     rw[At.get_put_other e]at hv;have:d≠slot:=by intro e';subst e';exact e (EA hnd hm hmk).1
     rw[Bq this];exact hr.plain k slot hmk v hv
    ·intro k slot hmk v hv;by_cases e:k=i'
     ·subst e;rw[hm]at hmk;cases hmk;exact⟨w.heap.size,by simp,CY hsz⟩
     ·rw[At.get_put_other (Ne.symm e)]at hv;have:d≠slot:=by intro e';subst e';exact e (EA hnd hmk hm).1
      obtain⟨b,h1,h2⟩:=hr.prom k slot hmk v hv;exact⟨b,by simp[e,h1],by rw[Bq this];exact h2⟩
    ·intro k b hb;simp only at hb;split at hb
     ·rename_i e;cases hb;subst e;exact⟨x.cells,t,At.get_put_same hil,by simp,Heap.fresh hs (Yq _)⟩
     ·rename_i e;obtain⟨c',t',h1,h2,h3⟩:=hr.priv k b hb;exact⟨c',t',by rw[At.get_put_other (Ne.symm e)];exact h1,by simp[Yt,YC (hold k b hb),h2],h3⟩
    ·intro k b hb
     try simp only at hb
     split at hb
     ·rename_i e;cases hb;subst e;exact⟨d,hm,hr.step.size⟩
     ·exact hr.pbm k b hb
    ·intro k k' b hb hb'
     try simp only at hb hb'
     split at hb<;>split at hb'
     ·rename_i e1 e2;rw[e1,e2]
     ·cases hb;exact absurd (hold _ _ hb') (Zf _)
     ·cases hb';exact absurd (hold _ _ hb) (Zf _)
     ·exact hr.inj k k' b hb hb'
   have hw0:path=[]->Region.wanted o (yielded ops a.tmps)=true:=λe=>De hi (e▸hpath) rfl;split at he
   ·rename_i t x hop;unfold Po at he;split at he<;>try (cases he;done)
    rename_i e d hx hd;split at he<;>cases he;rename_i hlt;simp only[Is]at hK;obtain⟨v,h1,hK⟩:=hK;have hxv:a.eval x=v:=DO hi (path:=[]) rfl x e _ hx h1;refine pn (λpb env h a w hk hr=>hn pb env h a w hk hr (λh=>by cases h)) hd hlt hK (hw0 rfl) (t:=t) ?_;rw[Ay hop];simp[execOp,Instr.box,newVar,newRow,newObj,Sem.run,hxv]
   ·rename_i t hop;unfold TL at he;split at he<;>try (cases he;done)
    rename_i z d hz hd;split at he<;>cases he;rename_i hlt;simp only[Is,ev]at hK;obtain⟨v,h1,hK⟩:=hK;cases h1;refine pn (λpb env h a w hk hr=>hn pb env h a w hk hr (λh=>by cases h)) hd hlt hK (hw0 rfl) (t:=t) ?_;rw[Ay hop];simp only[execOp,Instr.alloc,X3,Bp hz,X0];simp[newVar,newRow,newObj,Sem.run]
   ·cases he
  ·split at he
   ·
    rename_i t ad x hop;unfold TK at he;split at he<;>try (cases he;done)
    rename_i ea ex n hea hx hsz hdst;split at he
    ·rename_i i hroot;split at he<;>cases he;rename_i hemp;have hp0:path=[]:=by simpa using hemp
     subst hp0;simp only[Is]at hK;obtain⟨v,h1,hK⟩:=hK;simp only[ev]at h1;split at h1
     ·rename_i c' k off y h2 h3 h4;split at h1<;>cases h1;rename_i hcond;obtain⟨rfl,hn1,hn2,hone⟩:=hcond;have hxv:a.eval x=y:=DO hi (path:=[]) rfl x ex _ hx h4;obtain⟨b,hb,hav⟩:=DO hi (path:=[]) rfl ad ea _ hea h3;obtain⟨slot,hm,hb0⟩:=hr.pbm k b hb;obtain⟨c1,t1,h5,h6,h7⟩:=hr.priv k b hb;have hc:c1=c':=by
       rw[hkeep k slot hm]at h5;obtain⟨v',h8,h9⟩:=XZ.1 h2;cases h9;rw[h8]at h5;cases h5;rfl
      subst hc;have hkl:k<env1.length:=by rw[hr.elen];exact(Yk.1 hm).1
      have hrun:=EN (P:=P) (off:=off) y.cells.toList 0 c1 w h6 (by simp;omega) hone;have hbl:=(X1.1 h6).1;refine JJ ho (De hi hpath rfl) (HV (w':={ w with heap:=w.heap.setIfInBounds b (.cells (Dy c1 off y.cells.toList) t1 (0,0)) }) ?_ ?_)
      ·rw[Ay hop];simp only[YV]at hrun;simp[execOp,Instr.storeAt,hav,Instr.sureAddr,storeVar,A9 hsz,hxv,hn1,hrun]
      ·rw[hdst];refine hn pb _ _ _ _ hK ?_ (λh=>by cases h);refine⟨by rw[At.len_put];exact hr.elen,?_,?_,?_,hr.pbm,hr.inj,?_,hr.nt,hr.df⟩
       ·intro i slot' hm' v hv;have e:k≠i:=by intro e;subst e;rw[hm]at hm';cases hm'
        rw[At.get_put_other e]at hv;exact hr.plain i slot' hm' v hv
       ·intro i slot' hm' v hv;by_cases e:k=i
        ·subst e;exact hr.prom k slot' hm' _ h5
        ·rw[At.get_put_other e]at hv;exact hr.prom i slot' hm' v hv
       ·intro i b' hb';by_cases e:k=i
        ·subst e;rw[hb]at hb';cases hb';exact⟨_,t1,At.get_put_same hkl,by simp[hbl],h7⟩
        ·obtain⟨c2,t2,h8,h9,h10⟩:=hr.priv i b' hb';have hne:b≠b':=by intro e';subst e';exact e (hr.inj _ _ _ hb hb')
         exact⟨c2,t2,by rw[At.get_put_other e];exact h8,by simp[Ya,hne,h9],h10⟩
       ·refine⟨λb' o' hb'=>?_,by simpa using hr.step.size,hr.step.os,hr.step.tape,hr.step.output,λb' hlt hn0=>?_⟩
        ·have hne:b≠b':=by intro e;subst e;rw[h7]at hb';cases hb'
         simp[Ya,hne,hs b' o' hb']
        ·obtain⟨h8,h9⟩:=hr.step.frame b' hlt hn0;have hne:b≠b':=by omega
         exact⟨h8,by simp[Ya,hne,h9]⟩
     ·cases h1
    ·split at he<;>cases he;rename_i gs hg;refine gen hn hg (by rw[hdst];rfl) hK λus hev hus hef=>?_;have hmap:=Jp hi hev [ad,x] [ea,ex] us (by simp only[D8,hea,hx]) hus;refine NE htk hfk hΓ hs (f:=.st n) (xs:=[ad,x]) ?_ (by rw[hmap];exact hef) ?_
     ·rw[hop];simp[Us,hsz]
     ·intro v h' w' hk hst;exact hn _ _ _ _ _ hk (hr.put hnd (by rw[hdst];rfl) hst v) (λ_=>⟨rfl,λ_ _ _=>rfl⟩)
   ·
    rename_i t len parts hop;unfold Pn at he;split at he<;>try (cases he;done)
    rename_i e hd;split at he<;>try (cases he;done)
    rename_i z size k gs d hz hsz hk hg hdst;split at he<;>cases he;rename_i ex hex;refine gen hn hg hdst hK λus hev hus hef=>?_;obtain⟨u,hu⟩:=GQ hus ex (by simp);obtain⟨c',rfl,hrun⟩:=JY (P:=P) (w:=w) hd hz hsz (λp _=>DO hi hev p.2) hex hu;simp only[AS,hu]at hus;cases hus;simp only[By]at hef;refine BU (v:=.slice (U ⟨w.heap.size,0,O⟩) len len) (w':={ w with heap:=w.heap.push (.cells c' e) }) ?_ (hn _ _ _ _ _ (hef _ (Heap.fresh hs (Yq _))) (hr.put hnd hdst ?_ _) (λ_=>⟨rfl,IL hdst _ _⟩))
    ·rw[Ay hop];simp only[execOp,X3];rw[hrun];rfl
    ·rw[htk _ _ hk];exact Aw.push hs _
   ·unfold Pm at he;split at he<;>try (cases he;done)
    rename_i f xs hres;split at he<;>cases he;rename_i es gs d hes hg hdst;refine gen hn hg hdst hK λus hev hus hef=>?_;have hmap:=Jp hi hev xs es us hes hus;exact NE htk hfk hΓ hs hres (by rw[hmap];exact hef) λv h' w' hk hst=>hn _ _ _ _ _ hk (hr.put hnd hdst hst v) (λ_=>⟨rfl,IL hdst _ _⟩)
end Go.Cw
namespace Go.Cw
open Go
variable {P:Program} {w:World} {h:Heap} {env:At} {N:Num} {tk fk:Nat->Option Nat} {pb:Nat->Option Nat} {Γ:Ctx}
theorem MZ {ops:Array Oper} {nt n:Nat} {s0:Sg}:∀ (L:List Nat) (s s':Sg) (rs:List KL),CH P tk fk ops nt L s=U (rs,s')->(∀j∈L,j<n) ->
  (∀t en,s.get t=U en->en.owner=n+t->s0.get t=U en)->(∀t en,s'.get t=U en->en.owner=n+t->s0.get t=U en):=by
 intro L;induction L with
 |nil=>intro s s' rs hp _ hs;simp only[CH]at hp;cases hp;exact hs
 |cons j L ih=>
  intro s s' rs hp hlt hs;simp only[CH]at hp;split at hp<;>try (cases hp;done)
  split at hp<;>try (cases hp;done)
  split at hp<;>try (cases hp;done)
  split at hp<;>try (cases hp;done)
  split at hp<;>cases hp;rename_i rs' hp;refine ih _ _ _ hp (λk hk=>hlt k (Yb _ hk)) ?_;intro t en he ho;simp only[Sg.get]at he;split at he
  ·cases he;have:=hlt j (Yf ..);simp only at ho;omega
  ·exact hs t en he ho
theorem EK {ops:Array Oper} {nt:Nat} {m:AR} (hnd:(m.map (·.1)).Nodup)
  {h0:Heap} {w0:World} {a:Act} (hr:Hn m nt h0 w0 pb env h a w) {L:List Nat} {x:Option Nat} {st:Hi} (hst:HX P tk fk ops nt m L x=U st) {K:At->Heap->Prop} (hK:Fp N Γ st env h K) :
  ∃ (rs:List KL) (s:Sg) (g:Nat->Option Ex) (env1:At),g=Qj rs (ID ops.size 0 m)/\CH P tk fk ops nt L (ID ops.size 0 m)=U (rs,s)/\Eg N env h g pb (ID ops.size 0 m) a/\(∀r∈rs,g r.idx=U r.ex) /\
   (∀r∈rs,BK N env h g r.path≠O/\(BK N env h g r.path=U true->r.move=true\/∃ u,ev N env h r.ex=U u)) /\
   (∀a':Act,Eg N env h g pb s a'->a'.tmps.size=nt->a'.defers=a.defers->Hn m nt h0 w0 pb env1 h a' w) /\
   (∀i slot,m[i]?=U (slot,true)->env1.get i=env.get i) /\
   (match x with
    |none=>K env1 h
    |some j=>∃ o ei c,ops[j]?=U o/\Kv P tk fk ops nt m g s o=U (ei,c)/\st.eff=U ei/\Is N Γ ei env env1 h K):=by
 unfold HX at hst;split at hst
 ·cases hst
 ·rename_i rs s hp;simp only at hst;split at hst<;>try (cases hst;done)
  rename_i hL;simp only[X6,Yc,decide_eq_true_eq]at hL;split at hst
  ·cases hst
  ·rename_i lets c1 hlets;have hidx:=Lj _ _ _ _ hp;have hndr:(rs.map (·.idx)).Nodup:=by rw[hidx];exact HG _ hL.1
   have hlt:∀ r∈rs,r.idx<ops.size:=λr hr'=>hL.2 _ (by rw[<-hidx];exact YX hr');have hg:=UN (s0:=ID ops.size 0 m) hndr;have hsg:=Qi (n:=ops.size) (m:=m) hlt;obtain⟨hstrict,hsg'⟩:=L7 (N:=N) (env:=env) (h:=h) _ _ _ _ hp hsg hg;have hfin:∀ t en,s.get t=U en->en.owner=ops.size+t->∃ (j:Nat) (pr:Bool),m[j]?=U (t,pr)/\en.path=[]/\en.ex=if pr=true then .pad j else .var j:=by
    intro t en he ho;have h1:=MZ (n:=ops.size) (s0:=ID ops.size 0 m) L _ _ _ hp hL.2 (λt en he _=>he) t en he ho;obtain⟨j,pr,h2,h3⟩:=LY m 0 t en h1;exact⟨j,pr,h2,by rw[h3],by rw[h3];simp⟩
   have conds:∀ {c:List (Nat×CO)},Tc rs (NI rs c)=true->U7 N env h (Qj rs (ID ops.size 0 m)) c ->
     ∀ r∈rs,BK N env h (Qj rs (ID ops.size 0 m)) r.path≠O/\(BK N env h (Qj rs (ID ops.size 0 m)) r.path=U true->r.move=true\/∃ u,ev N env h r.ex=U u):=by
    intro c hok hcov r hr';have hcv:=NH rs c hstrict hg hcov;have:=Yc.1 hok r hr';simp only[X6,Yy,Yc,X9]at this;obtain⟨h1,h2⟩:=this;refine⟨?_,λht=>?_⟩
    ·have:=Mn (N:=N) (env:=env) (h:=h) (g:=Qj rs (ID ops.size 0 m)) r.path [] (by simp[BK]) (λk q hk hq=>hcv k q (h2 (k,q) hk) hq);simpa using this
    ·rcases h1 with h1|h1
     ·exact .inl h1
     ·obtain⟨e,u,h3,h4⟩:=hcv _ _ h1 ht;rw[hg r hr']at h3;cases h3;exact .inr ⟨u,h4⟩
   obtain⟨env1,hput,hK⟩:=hK;have hlets':st.lets=lets:=by
    split at hst
    ·split at hst<;>cases hst;rfl
    ·split at hst
     ·cases hst
     ·split at hst
      ·split at hst<;>cases hst;rfl
      ·cases hst
   rw[hlets']at hput;obtain⟨_,_,hlcov,h4⟩:=Lu m 0 lets c1 env env1 hlets hput (by rw[hr.elen];omega) hsg';have hkeep:∀ i slot,m[i]?=U (slot,true)->env1.get i=env.get i:=by
    intro i slot hm;obtain⟨en,h5,h6⟩:=h4 i slot true hm;rcases h6 with⟨_,h6⟩|⟨h6,_⟩
    ·simpa using h6
    ·cases h6
   have hrel:∀ a':Act,Eg N env h (Qj rs (ID ops.size 0 m)) pb s a'->a'.tmps.size=nt->a'.defers=a.defers->Hn m nt h0 w0 pb env1 h a' w:=λa' h1 h2 h3=>hr.lets hlets hput h1 h2 h3 hfin hnd;split at hst
   ·split at hst<;>cases hst;rename_i hok;exact⟨rs,s,_,env1,rfl,hp,hr.sinv hlt,hg,conds hok hlcov,hrel,hkeep,hK⟩
   ·rename_i j;split at hst
    ·cases hst
    ·rename_i o ho;split at hst
     ·rename_i ei c2 heff;split at hst<;>cases hst;rename_i hok;refine⟨rs,s,_,env1,rfl,hp,hr.sinv hlt,hg,conds hok ?_,hrel,hkeep,o,ei,c2,ho,heff,rfl,hK⟩;intro k p hk hp';simp only[Yd]at hk;rcases hk with hk|hk
      ·exact hlcov k p hk hp'
      ·exact UY heff hsg' hK k p hk hp'
     ·cases hst
theorem Jc (htk:∀ t k,tk t=U k->N.tid k=t) (hfk:∀ f k,fk f=U k->N.fid k=f) (hΓ:Good P N Γ) {ops:Array Oper} {nt:Nat} {m:AR} (hnd:(m.map (·.1)).Nodup)
  {h0:Heap} {w0:World} {a:Act} (hr:Hn m nt h0 w0 pb env h a w) {L:List Nat} {x:Option Nat} {st:Hi} (hst:HX P tk fk ops nt m L x=U st) {K:At->Heap->Prop} (hK:Fp N Γ st env h K)
  {Q:Exit->Act->World->Prop} {rest:List Nat} (hn:Sh m nt h0 w0 K (wpOps P ops Q rest)):wpOps P ops Q (L++(x.toList++rest)) a w:=by
 obtain⟨rs,s,g,env1,_,hp,hi,hg,hc,hrel,hkeep,hx⟩:=EK hnd hr hst hK;refine MY htk hfk hr.step.sub hr.priv L _ _ _ a hp hi hr.nt hg hc (λa' h1 h2 h3=>?_);cases x with
 |none=>
  simp only[Option.toList_none,YI];exact hn _ _ _ _ _ hx (hrel a' h1 h2 h3)
 |some j=>
  obtain⟨o,ei,c,ho,heff,_,hK⟩:=hx;simp only[Option.toList_some,List.singleton_append];exact ND htk hfk hΓ ho heff hnd h1 (hrel a' h1 h2 h3) hkeep hK (λpb env h a w hk hr _=>hn pb env h a w hk hr)
theorem Gh (htk:∀ t k,tk t=U k->N.tid k=t) (hfk:∀ f k,fk f=U k->N.fid k=f) (hΓ:Good P N Γ) {ops:Array Oper} {nt:Nat} {m:AR} (hnd:(m.map (·.1)).Nodup)
  {h0:Heap} {w0:World} {Q:Exit->Act->World->Prop}:∀ (L acc:List Nat) (l:List Hi) (pb:Nat->Option Nat) (env:At) (h:Heap) (a:Act) (w:World) (K:At->Heap->Prop),
   DD P tk fk ops nt m acc L=U l->Hn m nt h0 w0 pb env h a w->CU N Γ l env h K->Sh m nt h0 w0 K (λa w=>Q .normal a w)->wpOps P ops Q (acc.reverse++L) a w:=by
 intro L;induction L with
 |nil=>
  intro acc l pb env h a w K hl hr hK hn;simp only[DD]at hl;split at hl
  ·rename_i he;cases hl;have:acc=[]:=by simpa using he
   subst this;simp only[CU]at hK;exact hn _ _ _ _ _ hK hr
  ·obtain⟨s,h1,rfl⟩:=XZ.1 hl;simp only[CU]at hK;have:=Jc htk hfk hΓ hnd hr h1 hK (rest:=[]) (Q:=Q) (λpb env h a w hk hr=>by simp only[wpOps];exact hn _ _ _ _ _ hk hr);simpa using this
 |cons j L ih=>
  intro acc l pb env h a w K hl hr hK hn;simp only[DD]at hl;split at hl
  ·cases hl
  ·split at hl
   ·have:=ih (j::acc) l pb env h a w K hl hr hK hn;simpa using this
   ·split at hl<;>cases hl;rename_i s l' h1 h2;simp only[CU]at hK;have:=Jc htk hfk hΓ hnd hr h1 hK (rest:=L) (Q:=Q) (λpb env h a w hk hr=>by
     have:=ih [] l' pb env h a w K h2 hr hk hn;simpa using this)
    simpa using this
end Go.Cw
namespace Go.Cw
open Go
def HP (m:AR):Operand->Option Ex
 |.tmp t=>
  match EW t 0 m with
  |some (i,false)=>U (.var i)
  |_=>O
 |.const (.bool b)=>U (.con (.bool b))
 |_=>O
def UP:SE->Exit
 |.normal=>.normal
 |.exit id=>.exit id
 |.ret=>.ret
variable {P:Program} {N:Num} {tk fk:Nat->Option Nat} {Γ:Ctx}
def XN (m:AR) (nt:Nat) (h0:Heap) (w0:World) (Q:SE->At->Heap->Prop) (Q':Exit->Act->World->Prop):Prop:=
 ∀ e pb env h a w,Q e env h->Hn m nt h0 w0 pb env h a w->Q' (UP e) a w
def DZ (P:Program) (N:Num) (Γ:Ctx) (m:AR) (nt:Nat) (s:St) (c:Code):Prop:=
 ∀ (h0:Heap) (w0:World) (Q:SE->At->Heap->Prop) (Q':Exit->Act->World->Prop) (pb:Nat->Option Nat) (env:At) (h:Heap) (a:Act) (w:World),
  SW N Γ s Q env h->Hn m nt h0 w0 pb env h a w->XN m nt h0 w0 Q Q'->c.wp P Q' a w
theorem QK (htk:∀ t k,tk t=U k->N.tid k=t) (hfk:∀ f k,fk f=U k->N.fid k=f) (hΓ:Good P N Γ) {m:AR} {nt:Nat} (hnd:(m.map (·.1)).Nodup) {id:Nat} {ops:Array Oper} {l:List Hi}
  (hl:DD P tk fk ops nt m [] (Yh ops.size)=U l):DZ P N Γ m nt (.reg l) (.region id ops false):=by
 intro h0 w0 Q Q' pb env h a w hK hr hQ;refine wp_region ?_;have:=Gh htk hfk hΓ hnd (Q:=Q') (h0:=h0) (w0:=w0) (Yh ops.size) [] l pb env h a w (Q .normal) hl hr (by simpa only[SW]using hK) (λpb env h a w hk hr=>hQ .normal pb env h a w hk hr);simpa using this
theorem QI {m:AR} {nt:Nat} {s t:St} {c d:Code} (hs:DZ P N Γ m nt s c) (ht:DZ P N Γ m nt t d):DZ P N Γ m nt (.seq s t) (.seq c d):=by
 intro h0 w0 Q Q' pb env h a w hK hr hQ;simp only[SW]at hK;refine wp_seq (hs h0 w0 _ _ pb env h a w hK hr ?_);intro e pb env h a w hq hr;cases e with
 |normal=>exact ht h0 w0 Q Q' pb env h a w hq hr hQ
 |exit id=>exact hQ (.exit id) pb env h a w hq hr
 |ret=>exact hQ .ret pb env h a w hq hr
theorem Ov {m:AR} {nt:Nat} {s t:St} {c d:Code} {x:Operand} {e:Ex} (hx:HP m x=U e) (hs:DZ P N Γ m nt s c) (ht:DZ P N Γ m nt t d):DZ P N Γ m nt (.cond e s t) (.cond x c d):=by
 intro h0 w0 Q Q' pb env h a w hK hr hQ;simp only[SW]at hK;obtain⟨b,hb,h1,h2⟩:=hK;have hev:a.eval x=.bool b:=by
  unfold HP at hx;split at hx
  ·rename_i t';split at hx<;>cases hx;rename_i i hi;obtain⟨j,rfl,hj⟩:=Bt m 0 _ _ hi;simp only[ev,XZ]at hb;obtain⟨v,h3,h4⟩:=hb;cases h4;rw[Yn]at h3;exact hr.plain j t' hj _ h3
  ·cases hx;simp only[ev]at hb;cases hb;rfl
  ·cases hx
 cases b with
 |true=>exact wp_cond_true hev (hs h0 w0 Q Q' pb env h a w (h1 rfl) hr hQ)
 |false=>exact wp_cond_false hev (ht h0 w0 Q Q' pb env h a w (h2 rfl) hr hQ)
theorem MS {m:AR} {nt:Nat} {id:Nat} {s:St} {c:Code} (hs:DZ P N Γ m nt s c):DZ P N Γ m nt (.block id s) (.block id c):=by
 intro h0 w0 Q Q' pb env h a w hK hr hQ;simp only[SW]at hK;refine wp_block (hs h0 w0 _ _ pb env h a w hK hr ?_);intro e pb env h a w hq hr;cases e with
 |normal=>exact hQ .normal pb env h a w hq hr
 |exit j=>
  simp only[UP,Exit.inBlock];split
  ·rename_i e;simp only[e,if_true]at hq;exact hQ .normal pb env h a w hq hr
  ·rename_i e;simp only[e,if_false]at hq;exact hQ (.exit j) pb env h a w hq hr
 |ret=>exact hQ .ret pb env h a w hq hr
theorem Oq {m:AR} {nt:Nat} {s:St} {c:Code} (hs:DZ P N Γ m nt s c):DZ P N Γ m nt (.loop s) (.loop c):=by
 intro h0 w0 Q Q' pb env h a w hK hr hQ;simp only[SW]at hK;obtain⟨I,n,hI,hround⟩:=hK;refine wp_loop_ghost (λn a w=>∃ pb env h,I n env h/\Hn m nt h0 w0 pb env h a w) n ⟨pb,env,h,hI,hr⟩ ?_;rintro n a w ⟨pb,env,h,hI,hr⟩;refine hs h0 w0 _ _ pb env h a w (hround n env h hI) hr ?_;intro e pb env h a w hq hr;cases e with
 |normal=>obtain⟨n',hlt,hI'⟩:=hq;exact⟨n',hlt,pb,env,h,hI',hr⟩
 |exit id=>exact hQ (.exit id) pb env h a w hq hr
 |ret=>exact hQ .ret pb env h a w hq hr
theorem Ot {m:AR} {nt:Nat} {id:Nat}:DZ P N Γ m nt (.exit id) (.exit id):=λ_ _ _ _ _ _ _ _ _ hK hr hQ=>wp_exit (hQ (.exit id) _ _ _ _ _ hK hr)
theorem QJ {m:AR} {nt:Nat}:DZ P N Γ m nt .ret .ret:=λ_ _ _ _ _ _ _ _ _ hK hr hQ=>wp_ret (hQ .ret _ _ _ _ _ hK hr)
theorem Oo {m:AR} {nt:Nat}:DZ P N Γ m nt .skip .skip:=λ_ _ _ _ _ _ _ _ _ hK hr hQ=>wp_skip (hQ .normal _ _ _ _ _ hK hr)
structure SFun where
 np:Nat
 nv:Nat
 body:St
 res:List Ex
 deriving Inhabited
def MB:List Value->Value
 |[v]=>v
 |vs=>.tuple vs.toArray
def Bh (nv:Nat) (args:List Value):At:=args.map U++List.replicate (nv-args.length) O
def SF (N:Num) (Γ:Ctx) (F:SFun) (args:List Value) (h:Heap) (K:Value->Heap->Prop):Prop:=
 args.length=F.np/\SW N Γ F.body (λe env h'=>match e with
  |.exit _=>False
  |_=>∃ vs,AS N env h' F.res=U vs/\K (MB vs) h') (Bh F.nv args) h
def Jf (P:Program) (m:AR):List ResultVar->Option (List Ex)
 |[]=>U []
 |.tmp t::r=>
  match EW t 0 m,Jf P m r with
  |some (i,false),U l=>U (.var i::l)
  |_,_=>O
 |.cell t ty::r=>
  match EW t 0 m,Ee P ty,A7 P ty,Jf P m r with
  |some (i,true),U false,U 1,U l=>U (.o1 .ld (.pad i)::l)
  |some (i,true),U true,U n,U l=>U (.o1 (.ldn n) (.pad i)::l)
  |_,_,_,_=>O
theorem QN {m:AR} {nt:Nat} {h0:Heap} {w0:World} {pb:Nat->Option Nat} {env:At} {h:Heap} {a:Act} {w:World} (hr:Hn m nt h0 w0 pb env h a w)
  {f:ResultVar->Sem Value} (hf1:∀ t,f (.tmp t)=pure (a.tmps.getD t undef)) (hf2:∀ x t,f (.cell x t)=(do loadVar t (<-asAddr (a.tmps.getD x undef)))) :
  ∀ (rs:List ResultVar) (es:List Ex) (vs:List Value),Jf P m rs=U es->AS N env h es=U vs ->
   (rs.mapM f).run P w=.ok vs w:=by
 intro rs;induction rs with
 |nil=>intro es vs h1 h2;simp only[Jf]at h1;cases h1;simp only[AS]at h2;cases h2;rfl
 |cons r rs ih=>
  intro es vs h1 h2;cases r with
  |tmp t=>
   simp only[Jf]at h1;split at h1<;>cases h1;rename_i i l hi hl;simp only[AS]at h2;split at h2<;>cases h2;rename_i v vs' hv hvs;obtain⟨j,rfl,hj⟩:=Bt m 0 _ _ hi;simp only[ev,XZ,Yn]at hv;obtain⟨v',h3,h4⟩:=hv;cases h4;simp only[YK,X3,hf1,X8,X0,hr.plain j t hj _ h3,ih l vs' hl hvs]
  |cell x t=>
   simp only[Jf]at h1;split at h1
   ·cases h1;rename_i i l hi ha hsz hl;simp only[AS]at h2;split at h2<;>cases h2;rename_i v vs' hv hvs;obtain⟨j,rfl,hj⟩:=Bt m 0 _ _ hi;obtain⟨u,h3,h4⟩:=Jq hv;simp only[ev,XZ,Yn]at h3;obtain⟨v',h5,rfl⟩:=h3;obtain⟨b,h6,h7⟩:=hr.prom j x hj _ h5;obtain⟨c,y,h8,h9,h10⟩:=J4 h4;cases h10;obtain⟨c',t',h11,h12,h13⟩:=hr.priv j b h6;rw[h8]at h11;cases h11;have hc:w.cell? ⟨b,0,O⟩=U v:=by simp[World.cell?,h12,h9]
    have hh:(asAddr (a.tmps.getD x undef)).run P w=.ok ⟨b,0,O⟩ w:=by rw[h7];rfl
    simp only[YK,hf2,X3,hh,X8,X0,Id ha hc,ih l vs' hl hvs]
   ·cases h1;rename_i i n l hi ha hsz hl;simp only[AS]at h2;split at h2<;>cases h2;rename_i v vs' hv hvs;obtain⟨j,rfl,hj⟩:=Bt m 0 _ _ hi;obtain⟨u,h3,h4⟩:=Jq hv;simp only[ev,XZ,Yn]at h3;obtain⟨v',h5,rfl⟩:=h3;obtain⟨b,h6,h7⟩:=hr.prom j x hj _ h5;obtain⟨c,h8,h9,h10⟩:=Ji h4;cases h10;obtain⟨c',t',h11,h12,h13⟩:=hr.priv j b h6;rw[h8]at h11;cases h11;have hc:=G9 (P:=P) (w:=w) ha hsz (L3 (P:=P) h12 0 n h9);have hh:(asAddr (a.tmps.getD x undef)).run P w=.ok ⟨b,0,O⟩ w:=by rw[h7];rfl
    simp only[YK,hf2,X3,hh,X8,X0,hc,ih l vs' hl hvs]
   ·cases h1
theorem RJ {f : FuncId} {fn : Func} {c : Code} (hf : P.funcs[f]? = U fn) (hname : (fn.name == "runtime.NumGoroutine") = false) (hb : fn.body = U c) {m : AR} {F : SFun} (hc : DZ P N Γ m fn.ntmps F.body c)
  (hres:Jf P m fn.results.toList=U F.res) (hnv:F.nv=m.length) (hm0:∀ i,i<F.np->m[i]?=U (i,false)) (hnp:F.np<=fn.ntmps) (hle:F.np<=F.nv) {args:List Value} {h:Heap} {K:Value->Heap->Prop} (hK:SF N Γ F args h K) :
  FC P f args h K:=by
 obtain⟨hlen,hK⟩:=hK;refine .inl ⟨⟨fn,hf,hname,by rw[hb];rfl⟩,λw hs=>?_⟩;refine calls_of_wp hf hb ?_;have hrel:Hn m fn.ntmps h w (λ_=>O) (Bh F.nv args) h { tmps:=args.toArray++Array.replicate (fn.ntmps-args.toArray.size) undef,defers:=[] } w:=by
  refine⟨?_,?_,?_,(by intro i b hb;cases hb),(by intro i b hb;cases hb),(by intro i j b hb;cases hb),Aw.refl hs,?_,rfl⟩
  ·simp[Bh,hlen];omega
  ·intro i slot hm v hv;by_cases hi:i<args.length
   ·have:=hm0 i (by omega);rw[this]at hm;cases hm;simp only[At.get,Bh,List.getElem?_append_left (show i<(args.map U).length by simpa using hi),List.getElem?_map]at hv;have hg:args[i]?=U v:=by
     cases hh:args[i]? with
     |none=>rw[hh]at hv;simp at hv
     |some x=>rw[hh]at hv;simp at hv;rw[hv]
    rw[X4,Array.getElem?_append_left (by simpa using hi)];simp[hg]
   ·simp only[At.get,Bh,YN (show(args.map U).length<=i by simpa using hi),YP]at hv;split at hv<;>simp at hv
  ·intro i slot hm v hv;by_cases hi:i<args.length
   ·have:=hm0 i (by omega);rw[this]at hm;cases hm
   ·simp only[At.get,Bh,YN (show(args.map U).length<=i by simpa using hi),YP]at hv;split at hv<;>simp at hv
  ·simp;omega
 refine hc h w _ _ _ _ _ _ _ hK hrel ?_;intro e pb env h' a w' hq hr;have fin:(∃vs,AS N env h' F.res=U vs/\K (MB vs) h')->∃ v,(results fn a.tmps).run P w'=.ok v w'/\∃ v_1 h',Ending.returned v=.returned v_1/\K v_1 h'/\Aw h h' w w':=by
  rintro⟨vs,h1,h2⟩;refine⟨MB vs,?_,MB vs,h',rfl,h2,hr.step⟩;unfold results;rw[YO];simp only[X3,Zh];rw[QN (N:=N) (P:=P) hr (λ_=>rfl) (λ_ _=>rfl) fn.results.toList F.res vs hres h1];simp only[X0,X8]
  match vs with
  |[]=>rfl
  |[v]=>rfl
  |v::u::r=>simp[MB]
 cases e with
 |normal=>exact⟨hr.df,fin hq⟩
 |exit id=>exact hq.elim
 |ret=>exact⟨hr.df,fin hq⟩
end Go.Cw
namespace Go.Cw
open Go
variable {P:Program} {w:World} {h:Heap} {env:At} {N:Num} {tk fk:Nat->Option Nat} {pb:Nat->Option Nat} {Γ:Ctx}
def Gy (ops:Array Oper) (t:Nat):Option Nat:=(Yh ops.size).find? λj=>(ops.getD j default).dst==U t
def tv (ops:Array Oper) (val:Nat->Value) (S:Nat->Bool) (a0:Nat->Value) (t:Nat):Value:=
 match Gy ops t with
 |some i=>if S i then val i else a0 t
 |none=>a0 t
def KN (l:List Nat) (i:Nat):Bool:=l.contains i
def HU (P:Program) (tk:Nat->Option Nat) (ops:Array Oper) (nt:Nat) (a0:Nat->Value) (o:Oper) (val:Nat->Value) (pre:List Nat) (v:Value) (C:World->Prop):Prop:=
 ∀ (a:Act) (w:World),a.tmps.size=nt->(∀t∈o.looksAt ops,a.tmps.getD t undef=tv ops val (KN pre) a0 t)->(BT P tk o.op=true->C w) ->
  (Region.wanted o (yielded ops a.tmps)=true/\(execOp a.eval o).run P w=.ok (.value v) w)\/(Region.wanted o (yielded ops a.tmps)=false/\v=undef)
theorem MK {u:UV} {x y:Value} (hx:Ei pb u x) (hy:Ei pb u y):x=y:=by
 cases u with
 |v z=>rw[Bl]at hx hy;rw[hx,hy]
 |p i off=>
  obtain⟨b,h1,h2⟩:=hx;obtain⟨b',h3,h4⟩:=hy;rw[h1]at h3;cases h3;rw[h2,h4]
theorem E1 {ops:Array Oper} {o:Oper} {a a':Act} (hs:∀ t∈o.looksAt ops,a.tmps.getD t undef=a'.tmps.getD t undef):∀ x∈o.op.operands,a.eval x=a'.eval x:=by
 intro x hx;cases x with
 |tmp t=>exact hs t (by simp only[Oper.looksAt,Yd,Yg];exact .inl ⟨.tmp t,by simpa using hx,rfl⟩)
 |_=>rfl
theorem CE {ops:Array Oper} {o:Oper} {a a':Act} (hn:a.tmps.size=a'.tmps.size) (hs:∀ t∈o.looksAt ops,a.tmps.getD t undef=a'.tmps.getD t undef) :
  Region.wanted o (yielded ops a.tmps)=Region.wanted o (yielded ops a'.tmps):=by
 unfold Region.wanted;split
 ·rfl
 ·rename_i g w hg;have:yielded ops a.tmps g=yielded ops a'.tmps g:=by
   unfold yielded;cases hd:(ops[g]?).bind (·.dst)with
   |none=>rfl
   |some d=>
    have h1:=hs d (by simp only[Oper.looksAt,hg,hd,Yd];exact .inr (by simp));have h2:a.tmps[d]?=a'.tmps[d]?:=by
     by_cases hlt:d<a.tmps.size
     ·have hlt':d<a'.tmps.size:=hn▸hlt;simp only[Array.getD,hlt,hlt',dite_true]at h1;rw[Yi hlt,Yi hlt'];exact congrArg U h1
     ·rw[Yv (Y9 hlt),Yv (by rw[<-hn];exact Y9 hlt)]
    simp[h2]
  rw[this]
theorem Jk {s:Sg} {path:CO} {op:Op} {r:Ex×List (Nat×CO)} (hm:Mc P tk fk s path op=U r):∀ cs b,op≠.select cs b:=by
 intro cs b e;subst e;simp[Mc,mk,MW,MV]at hm
def Hx (ops:Array Oper):Bool:=(Yh ops.size).all λj=>
 match (ops.getD j default).dst with
 |some d=>Gy ops d==U j
 |none=>true
theorem Kx {ops:Array Oper} (hd:Hx ops=true) {j d:Nat} {o:Oper} (ho:ops[j]?=U o) (hod:o.dst=U d):Gy ops d=U j:=by
 have hlt:=(X1.1 ho).1;have:=Yc.1 hd j (by simpa using hlt);have hg:ops.getD j default=o:=by rw[X4,ho];rfl
 rw[hg,hod]at this;simpa using this
theorem VB {ops:Array Oper} {val:Nat->Value} {pre:List Nat} {a0:Nat->Value} {j d:Nat} {y:Value} (hw:Gy ops d=U j) (hnj:j∉pre) {t:Nat} :
  tv ops (λi=>if i=j then y else val i) (KN (pre++[j])) a0 t=if t=d then y else tv ops val (KN pre) a0 t:=by
 by_cases e:t=d
 ·subst e;simp[tv,hw,KN]
 ·simp only[e,if_false];unfold tv;cases hwt:Gy ops t with
  |none=>rfl
  |some i=>
   simp only;have hne:i≠j:=by
    intro e';subst e';have h1:(ops.getD i default).dst==U t:=by have:=YM hwt;simpa using this
    have h2:(ops.getD i default).dst==U d:=by have:=YM hw;simpa using this
    have h1':(ops.getD i default).dst=U t:=by simpa using h1
    have h2':(ops.getD i default).dst=U d:=by simpa using h2
    rw[h1']at h2';cases h2';exact e rfl
   simp[KN,hne]
theorem Sz {ops:Array Oper} {val val':Nat->Value} {pre:List Nat} {a0:Nat->Value} (hv:∀ i∈pre,val' i=val i) (t:Nat):tv ops val' (KN pre) a0 t=tv ops val (KN pre) a0 t:=by
 unfold tv;cases Gy ops t with
 |none=>rfl
 |some i=>
  simp only;by_cases hi:i∈pre
  ·simp[KN,hi,hv i hi]
  ·simp[KN,hi]
theorem HU.congr {ops:Array Oper} {nt:Nat} {a0:Nat->Value} {o:Oper} {val val':Nat->Value} {pre:List Nat} {v:Value} {C:World->Prop} (hf:HU P tk ops nt a0 o val pre v C) (hv:∀ i∈pre,val' i=val i) :
  HU P tk ops nt a0 o val' pre v C:=by
 intro a w hn ht hc;exact hf a w hn (λt htt=>by rw[ht t htt,Sz hv]) hc
theorem Js {x h:Heap} (hl:Heap.le x h) {b:Nat} {c:Array Value} (hc:x.cells b=U c):h.cells b=U c:=by
 unfold Heap.cells at hc ⊢;split at hc
 ·rename_i c' t fz hb;rw[hl b _ hb];exact hc
 ·cases hc
theorem Ce {x h:Heap} (hl:Heap.le x h) {a:Addr} {v:Value} (hc:x.cell a=U v):h.cell a=U v:=by
 unfold Heap.cell at hc ⊢;split
 ·rename_i hs;rw[if_pos hs]at hc;exact hc
 ·rename_i hs;rw[if_neg hs]at hc;obtain⟨c,h1,h2⟩:=X2.1 hc;rw[Js hl h1];exact h2
theorem EB {x h:Heap} (hl:Heap.le x h) {a:Addr} {n:Nat} {r:Array Value} (hc:x.row a n=U r):h.row a n=U r:=by
 unfold Heap.row at hc ⊢;split
 ·rename_i hs;rw[if_pos hs]at hc;exact hc
 ·rename_i hs;rw[if_neg hs]at hc;split
  ·rename_i h2;rw[if_pos h2]at hc;exact hc
  ·rename_i h2;rw[if_neg h2]at hc;obtain⟨c,h1,h3⟩:=X2.1 hc;rw[Js hl h1];exact h3
theorem Fv {x h:Heap} (hl:Heap.le x h) {v:Value} {es:List MapEntry} (hc:BL x v=U es):BL h v=U es:=by
 unfold BL at hc ⊢;split
 ·exact hc
 ·simp only at hc;split at hc
  ·rename_i e1;rw[hl _ _ e1];exact hc
  ·cases hc
 ·rename_i h1 h2;split at hc
  ·exact absurd rfl h1
  ·rename_i r;exact absurd rfl (h2 r)
  ·cases hc
theorem Ri {x h:Heap} (hl:Heap.le x h) {o:O1} {u r:UV} (hr:Bw N env x o u=U r):Bw N env h o u=U r:=by
 cases u with
 |p i off=>simpa only[Bw]using hr
 |v y=>
  unfold Bw at hr ⊢;simp only at hr ⊢;split at hr<;>first|exact hr|skip
  all_goals first
   |(obtain⟨c,h1,h2⟩:=XZ.1 hr;simp only[Fv hl h1,Ce hl h1,EB hl h1,YH,h2];done)
   |(obtain⟨c,h1,h2⟩:=XZ.1 hr;rw[Fv hl h1];simp[h2];done)
   |(obtain⟨c,h1,h2⟩:=XZ.1 hr;rw[Ce hl h1];simp[h2];done)
   |(obtain⟨c,h1,h2⟩:=XZ.1 hr;rw[EB hl h1];simp[h2];done)
   |(obtain⟨c,h1,h2⟩:=X2.1 hr;rw[EB hl h1];exact h2)
theorem Rg {x h:Heap} (hl:Heap.le x h) {o:O2} {a b r:UV} (hr:A8 x o a b=U r):A8 h o a b=U r:=by
 cases a with
 |p i off=>
  cases b with
  |p j off'=>simp[A8]at hr
  |v z=>cases z<;>first|(simp only[A8]at hr ⊢;exact hr)|(simp[A8]at hr;done)
 |v y=>
  cases b with
  |p i off=>simp[A8]at hr
  |v z=>
   unfold A8 at hr ⊢;simp only at hr ⊢;split at hr<;>first|exact hr|skip
   all_goals (obtain⟨c,h1,h2⟩:=X2.1 hr;rw[Fv hl h1];exact h2)
theorem Kq {x h:Heap} (hl:Heap.le x h):∀ (e:Ex) {u:UV},ev N env x e=U u->ev N env h e=U u:=by
 intro e;induction e with
 |var i=>intro u hu;exact hu
 |pad i=>intro u hu;exact hu
 |cnt i=>intro u hu;exact hu
 |con y=>intro u hu;exact hu
 |mkf f=>intro u hu;exact hu
 |o1 o a ih=>
  intro u hu;simp only[ev,X2]at hu ⊢;obtain⟨v,h1,h2⟩:=hu;exact⟨v,ih h1,Ri hl h2⟩
 |o2 o a b iha ihb=>
  intro u hu;simp only[ev,X2]at hu ⊢;obtain⟨v,h1,w,h2,h3⟩:=hu;exact⟨v,iha h1,w,ihb h2,Rg hl h3⟩
 |o3 o a b c iha ihb ihc=>
  intro u hu;simp only[ev,X2]at hu ⊢;obtain⟨v,h1,w,h2,z,h3,h4⟩:=hu;exact⟨v,iha h1,w,ihb h2,z,ihc h3,h4⟩
 |pick c a b ihc iha ihb=>
  intro u hu;simp only[ev]at hu ⊢;split at hu
  ·rename_i hc;rw[ihc hc];exact iha hu
  ·rename_i hc;rw[ihc hc];exact ihb hu
  ·cases hu
 |upd base i n a v ihb iha ihv=>
  intro u hu;simp only[ev]at hu ⊢;split at hu
  ·rename_i h1 h2 h3;rw[ihb h1,iha h2,ihv h3];exact hu
  ·cases hu
theorem I2 {x h:Heap} (hl:Heap.le x h) {g:Nat->Option Ex}:∀ (p:CO) {b:Bool},BK N env x g p=U b->BK N env h g p=U b:=by
 intro p;induction p with
 |nil=>intro b hb;exact hb
 |cons y r ih=>
  obtain⟨k,w⟩:=y;intro b hb;simp only[BK]at hb ⊢;cases hg:g k with
  |none=>rw[hg]at hb;simp at hb
  |some e=>
   rw[hg]at hb;simp only[YE]at hb ⊢;cases hv:ev N env x e with
   |none=>rw[hv]at hb;simp at hb
   |some u=>
    rw[hv]at hb;rw[Kq hl e hv];cases u with
    |p i off=>exact hb
    |v z=>
     cases z<;>first|exact hb|skip
     simp only at hb ⊢;split
     ·rename_i hw;rw[if_pos hw]at hb;exact ih hb
     ·rename_i hw;rw[if_neg hw]at hb;exact hb
theorem Eg.hanti {x:Heap} (hl:Heap.le x h) {g:Nat->Option Ex} {s:Sg} {a:Act} (hi:Eg N env h g pb s a):Eg N env x g pb s a:=by
 intro t en he;obtain⟨h1,h2,h3⟩:=hi t en he;exact⟨h1,λhp u hu=>h2 (I2 hl _ hp) u (Kq hl _ hu),λhp=>h3 (I2 hl _ hp)⟩
theorem M0 (htk:∀ t k,tk t=U k->N.tid k=t) (hfk:∀ f k,fk f=U k->N.fid k=f) {g:Nat->Option Ex} {ops:Array Oper} {nt:Nat} {a0:Nat->Value} (hdst:Hx ops=true)
  (hs:h.sub w) (hpr:Hj pb env h w):∀ (L:List Nat) (s s':Sg) (rs:List KL) (a:Act) (val:Nat->Value) (pre:List Nat),CH P tk fk ops nt L s=U (rs,s')->Eg N env h g pb s a->a.tmps.size=nt ->
   (∀r∈rs,g r.idx=U r.ex)->(∀r∈rs,BK N env h g r.path≠O/\(BK N env h g r.path=U true->r.move=true\/∃ u,ev N env h r.ex=U u)) ->
   (∀t,a.tmps.getD t undef=tv ops val (KN pre) a0 t)->(pre++L).Nodup ->
   ∃ (val':Nat->Value) (a':Act),(∀i,i∉L->val' i=val i)/\Eg N env h g pb s' a'/\a'.tmps.size=nt/\a'.defers=a.defers/\(∀t,a'.tmps.getD t undef=tv ops val' (KN (pre++L)) a0 t) /\
    ∀ L1 j L2,L=L1++j::L2->∃ o r,ops[j]?=U o/\r∈rs/\r.idx=j/\HU P tk ops nt a0 o val' (pre++L1) (val' j) (λw=>h.sub w/\Hj pb env h w) /\
     ∀ x,Heap.le x h->(BK N env x g r.path≠O/\(BK N env x g r.path=U true->r.move=true\/∃ u,ev N env x r.ex=U u))->HU P tk ops nt a0 o val' (pre++L1) (val' j) (λw=>x.sub w/\Hj pb env x w):=by
 intro L;induction L with
 |nil=>
  intro s s' rs a val pre hp hi hn _ _ ht _;simp only[CH]at hp;cases hp;exact⟨val,a,λ_ _=>rfl,hi,hn,rfl,by simpa using ht,λL1 j L2 e=>by simp at e⟩
 |cons j L ih=>
  intro s s' rs a val pre hp hi hn hg hc ht hnd;simp only[CH]at hp;split at hp<;>try (cases hp;done)
  rename_i o ho;split at hp<;>try (cases hp;done)
  rename_i d path hd hpath;split at hp<;>try (cases hp;done)
  rename_i e us hm;split at hp<;>try (cases hp;done)
  rename_i hdn;split at hp<;>cases hp;rename_i rs' hp;have hrec:=hc _ (Yf ..);have hgj:g j=U e:=hg _ (Yf ..);simp only at hrec;have hd':d<a.tmps.size:=by rw[hn];exact hdn
  have hwr:=Kx hdst ho hd;have hnj:j∉pre:=by
   intro hj;have:=Yp.1 hnd;exact this.2.2 j hj j (by simp) rfl
  have hnjL:j∉L:=by
   have:=(Yp.1 hnd).2.1;exact(Yr.1 this).1
  have key:∃ y,(BK N env h g path=U true->∀ u,ev N env h e=U u->Ei pb u y)/\(BK N env h g path=U false->y=undef) /\
    HU P tk ops nt a0 o val pre y (λw=>h.sub w/\Hj pb env h w) /\
    ∀ x,Heap.le x h->(BK N env x g path≠O/\(BK N env x g path=U true->IX o.op=true\/∃ u,ev N env x e=U u))->HU P tk ops nt a0 o val pre y (λw=>x.sub w/\Hj pb env x w):=by
   have movef:∀ y,(BK N env h g path=U true)->IX o.op=true->(execOp a.eval o).run P w=.ok (.value y) w->∀ C,HU P tk ops nt a0 o val pre y C:=by
    intro y hev hmv hrun C a' w' hn' ht' _;have hwant:=De hi hpath hev;obtain⟨x,hx⟩:∃ x,o.op=.move x\/o.op=.assign x:=by
     cases ho':o.op<;>rw[ho']at hmv<;>simp[IX]at hmv
     ·exact⟨_,.inl rfl⟩
     ·exact⟨_,.inr rfl⟩
    have hmem:x∈o.op.operands:=by rcases hx with hx|hx<;>rw[hx]<;>simp[Op.operands]
    have hag:∀ t∈o.looksAt ops,a'.tmps.getD t undef=a.tmps.getD t undef:=λt htt=>by rw[ht' t htt,ht t]
    have hy:y=a.eval x:=by
     have h1:(execOp a.eval o).run P w=.ok (.value (a.eval x)) w:=by rcases hx with hx|hx<;>rw[Ay hx]<;>rfl
     rw[h1]at hrun;cases hrun;rfl
    refine .inl ⟨by rw[CE (hn'.trans hn.symm) hag];exact hwant,?_⟩;rw[hy,<-E1 hag x hmem];rcases hx with hx|hx<;>rw[Ay hx]<;>rfl
   cases hev:BK N env h g path with
   |none=>exact absurd hev hrec.1
   |some b=>
    cases b with
    |true=>
     have hwant:=De hi hpath hev;cases hu:ev N env h e with
     |none=>
      rcases hrec.2 hev with hmv|⟨u,hu'⟩
      ·obtain⟨x,hx⟩:∃ x,o.op=.move x\/o.op=.assign x:=by
        cases ho':o.op<;>rw[ho']at hmv<;>simp[IX]at hmv
        ·exact⟨_,.inl rfl⟩
        ·exact⟨_,.inr rfl⟩
       have hmem:x∈o.op.operands:=by rcases hx with hx|hx<;>rw[hx]<;>simp[Op.operands]
       have hrun0:(execOp a.eval o).run P w=.ok (.value (a.eval x)) w:=by rcases hx with hx|hx<;>rw[Ay hx]<;>rfl
       refine⟨a.eval x,(λ_ u hu'=>by cases hu'),(λh=>by cases h),?_,λ_ _ _=>movef _ hev hmv hrun0 _⟩;intro a' w' hn' ht' _;have hag:∀ t∈o.looksAt ops,a'.tmps.getD t undef=a.tmps.getD t undef:=λt htt=>by rw[ht' t htt,ht t]
       refine .inl ⟨by rw[CE (hn'.trans hn.symm) hag];exact hwant,?_⟩;rw[<-E1 hag x hmem];rcases hx with hx|hx<;>rw[Ay hx]<;>rfl
      ·rw[hu]at hu';cases hu'
     |some u=>
      obtain⟨⟨y,hrun,hy⟩,_⟩:=Gp htk hfk hi hev hm hu (λ_=>hs) (λ_=>hpr);refine⟨y,(λ_ u' hu'=>by cases hu';exact hy),(λh=>by cases h),?_,?_⟩;rotate_left
      ·intro x hx ⟨c1,c2⟩;have hevx:BK N env x g path=U true:=by
        cases hb:BK N env x g path with
        |none=>exact absurd hb c1
        |some b=>rw[I2 hx _ hb]at hev;cases hev;rfl
       rcases c2 hevx with hmv|⟨ux,hux⟩
       ·exact movef y hev hmv hrun _
       ·have e1:ux=u:=by have:=Kq hx e hux;rw[hu]at this;cases this;rfl
        subst e1;intro a' w' hn' ht' hc';have hag:∀ t∈o.looksAt ops,a'.tmps.getD t undef=a.tmps.getD t undef:=λt htt=>by rw[ht' t htt,ht t]
        refine .inl ⟨by rw[CE (hn'.trans hn.symm) hag];exact hwant,?_⟩;obtain⟨⟨y',hrun',hy'⟩,_⟩:=Gp (w:=w') htk hfk (Eg.hanti hx hi) hevx hm hux (λhh=>(hc' hh).1) (λhh=>(hc' hh).2);rw[execOp_congr o (Jk hm) (E1 hag),hrun',MK hy' hy]
      intro a' w' hn' ht' hc';have hag:∀ t∈o.looksAt ops,a'.tmps.getD t undef=a.tmps.getD t undef:=λt htt=>by rw[ht' t htt,ht t]
      refine .inl ⟨by rw[CE (hn'.trans hn.symm) hag];exact hwant,?_⟩;obtain⟨⟨y',hrun',hy'⟩,_⟩:=Gp (w:=w') htk hfk hi hev hm hu (λhh=>(hc' hh).1) (λhh=>(hc' hh).2);rw[execOp_congr o (Jk hm) (E1 hag),hrun',MK hy' hy]
    |false=>
     have hwant:=FY hi hpath hev;have hff:∀ C,HU P tk ops nt a0 o val pre undef C:=by
      intro C a' w' hn' ht' _;have hag:∀ t∈o.looksAt ops,a'.tmps.getD t undef=a.tmps.getD t undef:=λt htt=>by rw[ht' t htt,ht t]
      exact .inr ⟨by rw[CE (hn'.trans hn.symm) hag];exact hwant,rfl⟩
     exact⟨undef,(λh=>by cases h),(λ_=>rfl),hff _,λ_ _ _=>hff _⟩
  obtain⟨y,hy1,hy2,hfact,hfactx⟩:=key;have hsi:=hi.put (en:=⟨j,path,e⟩) (v:=y) hd' hgj hy1 hy2;obtain⟨val',a',h1,h2,h3,h4,h5,h6⟩:=ih _ _ _ (a.put (U d) y) (λi=>if i=j then y else val i) (pre++[j]) hp hsi (by simp[Act.put,hn])
   (λr hr=>hg r (Yb _ hr)) (λr hr=>hc r (Yb _ hr)) (λt=>by
    rw[VB hwr hnj];by_cases e':t=d
    ·subst e';rw[if_pos rfl];exact CY hd'
    ·rw[if_neg e',Bq (Ne.symm e'),ht t]) (by simpa using hnd)
  have hvj:val' j=y:=by rw[h1 j hnjL];simp
  have hvpre:∀ i∈pre,val' i=val i:=by
   intro i hi';have hne:i≠j:=λe'=>hnj (e'▸hi');have hniL:i∉L:=λVn=>(Yp.1 hnd).2.2 i hi' i (by simp[Vn]) rfl;rw[h1 i hniL];simp[hne]
  refine⟨val',a',?_,h2,h3,h4,by simpa using h5,?_⟩
  ·intro i hi';simp only[X5,not_or]at hi';rw[h1 i hi'.2];simp[hi'.1]
  ·intro L1 j' L2 hL;cases L1 with
   |nil=>
    simp at hL;obtain⟨rfl,rfl⟩:=hL;exact⟨o,_,ho,Yf ..,rfl,by rw[hvj];simpa using hfact.congr hvpre,λx hx hc=>by rw[hvj];simpa using(hfactx x hx hc).congr hvpre⟩
   |cons x L1=>
    simp at hL;obtain⟨rfl,rfl⟩:=hL;obtain⟨o',r',h7,h8,h9,h10,h11⟩:=h6 L1 j' L2 rfl;exact⟨o',r',h7,Yb _ h8,h9,by simpa using h10,λx hx hc=>by simpa using h11 x hx hc⟩
end Go.Cw
namespace Go.Cw
open Go
variable {P:Program} {N:Num} {tk fk:Nat->Option Nat} {Γ:Ctx}
abbrev PT:=List (List Nat)
def OM (pt:PT) (i:Nat):List Nat:=pt.getD i []
def DU (o:Oper):List Nat:=(o.after.toList.filter (Region.binds .any ·)).map (·.on)
def M2 (ops:Array Oper) (pt:PT):Bool:=(Yh ops.size).all λi=>(OM pt i).all λk=>(DU (ops.getD i default)).any λe=>e==k||(OM pt e).contains k
def LZ (ops:Array Oper) (pt:PT) (pre:List Nat) (i:Nat):Bool:=
 ((ops.getD i default).looksAt ops).all λt=>match Gy ops t with
  |none=>true
  |some j=>if pre.contains j then(OM pt i).contains j else j==i||(OM pt j).contains i
def Jh (ops:Array Oper) (pt:PT) (pre:List Nat) (i:Nat):Bool:=
 decide (i<ops.size)&&!pre.contains i&&LZ ops pt pre i&&(DU (ops.getD i default)).all pre.contains
def Eu (ops:Array Oper) (pt:PT):List Nat->List Nat->Bool
 |_,[]=>true
 |pre,i::L=>Jh ops pt pre i&&Gs (ops.getD i default).op&&Eu ops pt (pre++[i]) L
def Mh (ops:Array Oper) (pt:PT) (pre:List Nat) (x:Nat):Bool:=(Yh ops.size).all λi=>pre.contains i||(OM pt i).contains x
def HL (P:Program) (tk:Nat->Option Nat) (ops:Array Oper) (pt:PT) (pre:List Nat) (x:Nat):Bool:=
 pre.any λi=>Gs (ops.getD i default).op&&BT P tk (ops.getD i default).op&&!(OM pt x).contains i
def Kz (ops:Array Oper) (nt:Nat):Bool:=(Yh ops.size).all λj=>match (ops.getD j default).dst with|some d=>decide (d<nt)|none=>true
def E9 (listed:Array Bool) (i:Nat):Bool:=listed.getD i true
theorem Dp (listed:Array Bool) (i j:Nat):E9 (listed.setIfInBounds i true) j=if j=i then true else E9 listed j:=by
 unfold E9;by_cases e:j=i
 ·subst e;simp only[if_true,X4,Array.getElem?_setIfInBounds_self];split<;>rfl
 ·simp only[e,if_false];exact getD_set_ne true (Ne.symm e)
theorem C7 {ops:Array Oper} {j:Nat} {o:Oper} (ho:ops[j]?=U o):ops.getD j default=o:=by rw[X4,ho];rfl
theorem Jm {o:Oper} {k:Nat}:k∈DU o↔∃ e∈o.after,Region.binds .any e=true/\e.on=k:=by
 simp[DU,and_assoc]
theorem LU {ops:Array Oper} (hd:Hx ops=true) {nt:Nat} (hl:Kz ops nt=true) {val:Nat->Value} {S S':Nat->Bool} {a0:Nat->Value} {j:Nat} {o:Oper} (ho:ops[j]?=U o) (hj:S' j=true)
  (hne:∀ i,i≠j->S' i=S i) {a:Act} (hn:a.tmps.size=nt) (ht:∀ t,a.tmps.getD t undef=tv ops val S a0 t) (y:Value) :
  ∀ t,(a.put o.dst y).tmps.getD t undef=tv ops (λi=>if i=j then y else val i) S' a0 t:=by
 intro t;have hlt:=(X1.1 ho).1;have hno:∀ i,Gy ops t=U i->(ops.getD i default).dst=U t:=by
  intro i hw;have:=YM hw;simpa using this
 have key:∀ i,Gy ops t=U i->i≠j->tv ops (λi=>if i=j then y else val i) S' a0 t=tv ops val S a0 t:=by
  intro i hw hij;simp only[tv,hw,hij,if_false,hne i hij]
 cases hdo:o.dst with
 |none=>
  show a.tmps.getD t undef=_;rw[ht t];cases hw:Gy ops t with
  |none=>simp[tv,hw]
  |some i=>
   refine(key i hw ?_).symm;rintro rfl;have:=hno i hw;rw[C7 ho,hdo]at this;cases this
 |some d=>
  have hd':d<a.tmps.size:=by
   have:=Yc.1 hl j (by simpa using hlt);rw[C7 ho,hdo]at this;rw[hn];simpa using this
  have hwd:=Kx hd ho hdo;by_cases e:t=d
  ·subst e;rw[CY hd'];simp[tv,hwd,hj]
  ·rw[Bq (Ne.symm e),ht t];cases hw:Gy ops t with
   |none=>simp[tv,hw]
   |some i=>
    refine(key i hw ?_).symm;rintro rfl;have h1:=hno i hw;rw[C7 ho,hdo]at h1;cases h1;exact e rfl
def XL (P:Program) (tk:Nat->Option Nat) (ops:Array Oper) (nt:Nat) (pt:PT) (a0:Nat->Value) (pre:List Nat) (val:Nat->Value) (pb:Nat->Option Nat) (env:At) (h:Heap) (ws:List Heap) (Lc:List Nat) (Cv:Nat->Heap->Prop) (i:Nat):Prop:=
 ∃ (o:Oper) (pre1 pre2:List Nat),ops[i]?=U o/\pre=pre1++i::pre2/\LZ ops pt pre1 i=true/\Gs o.op=true /\
  ((∃(pb1:Nat->Option Nat) (env1:At) (x:Heap),HU P tk ops nt a0 o val pre1 (val i) (λw=>x.sub w/\Hj pb1 env1 x w)/\(BT P tk o.op=true->x∈ws/\pb1=pb/\∀ k b,pb k=U b->env1.get k=env.get k)) \/
  (i∈Lc/\HU P tk ops nt a0 o val pre1 (val i) (λw=>h.sub w/\Hj pb env h w)/\∀ x,Heap.le x h->Cv i x->HU P tk ops nt a0 o val pre1 (val i) (λw=>x.sub w/\Hj pb env x w)))
structure Eh (P:Program) (tk:Nat->Option Nat) (ops:Array Oper) (nt:Nat) (pt:PT) (a0:Nat->Value) (pre:List Nat) (listed:Array Bool) (a:Act) (w:World) (ah:Act) (val:Nat->Value)
  (pb:Nat->Option Nat) (env:At) (h:Heap) (ws:List Heap) (Lc:List Nat) (Cv:Nat->Heap->Prop):Prop where
 len:listed.size=ops.size
 closed:∀ i,i<ops.size->E9 listed i=true->∀ k∈OM pt i,E9 listed k=true
 sub:∀ i,i<ops.size->E9 listed i=true->i∈pre
 ord:∀ pre1 i pre2,pre=pre1++i::pre2->i<ops.size/\∀ e∈DU (ops.getD i default),e∈pre1
 nd:pre.Nodup
 real:∀ t,a.tmps.getD t undef=tv ops val (E9 listed) a0 t
 ant:a.tmps.size=nt
 adf:a.defers=[]
 hyp:∀ t,ah.tmps.getD t undef=tv ops val (KN pre) a0 t
 hnt:ah.tmps.size=nt
 hdf:ah.defers=[]
 hsub:h.sub w
 hpriv:Hj pb env h w
 les:∀ x∈ws,Heap.le x h
 pend:∀ i∈pre,E9 listed i=false->XL P tk ops nt pt a0 pre val pb env h ws Lc Cv i
theorem Dl {ops:Array Oper} {pt:PT} (hp:M2 ops pt=true) {listed:Array Bool} (hc:∀ i,i<ops.size->E9 listed i=true->∀ k∈OM pt i,E9 listed k=true) {i:Nat}
  (hlen:listed.size=ops.size) (hr:i∈Region.ready .any ops listed):∀ k∈OM pt i,E9 listed k=true:=by
 intro k hk;obtain⟨_,o,ho,hall⟩:=mem_ready.1 hr;have hlt:=(X1.1 ho).1;have h1:=Yc.1 (Yc.1 hp i (by simpa using hlt)) k hk;rw[C7 ho]at h1;obtain⟨e,he,h2⟩:=Y8.1 h1;obtain⟨ed,hed,hb,rfl⟩:=Jm.1 he;have h3:=hall ed hed hb;have h4:ed.on<listed.size:=by
  rcases Nat.lt_or_ge ed.on listed.size with h'|h'
  ·exact h'
  ·simp[X4,Yv h']at h3
 have h5:E9 listed ed.on=true:=by
  unfold E9;simp only[X4,Yi h4,Y1]at h3 ⊢;exact h3
 simp only[Yy,beq_iff_eq,X9]at h2;rcases h2 with h2|h2
 ·rw[<-h2];exact h5
 ·exact hc _ (hlen▸h4) h5 k h2
theorem M1 {ops:Array Oper} {listed:Array Bool} (hlen:listed.size=ops.size) (hr:Region.ready .any ops listed=[]):∀ (n:Nat) (pre:List Nat),pre.length=n ->
  (∀pre1 i pre2,pre=pre1++i::pre2->i<ops.size/\∀ e∈DU (ops.getD i default),e∈pre1)->∀ i∈pre,E9 listed i=true:=by
 intro n;induction n with
 |zero=>intro pre hl _ i hi;cases pre<;>simp at hl;simp at hi
 |succ n ih=>
  intro pre hl ho i hi;obtain⟨p,j,rfl⟩:∃ p j,pre=p++[j]:=⟨pre.dropLast,pre.getLast (by intro e;rw[e]at hl;cases hl),(List.dropLast_concat_getLast _).symm⟩
  have hp:=ih p (by simpa using hl) (λp1 k p2 e=>ho p1 k (p2++[j]) (by rw[e];simp));simp only[Yd,YA]at hi;rcases hi with hi|rfl
  ·exact hp i hi
  ·obtain⟨hlt,hb⟩:=ho p i [] rfl;cases hli:E9 listed i with
   |true=>rfl
   |false=>
    have:i∈Region.ready .any ops listed:=by
     refine mem_ready.2 ⟨hli,ops[i],Yi hlt,λe he hbd=>?_⟩;have h1:e.on∈DU (ops.getD i default):=by
      rw[C7 (Yi hlt)];exact Jm.2 ⟨e,he,hbd,rfl⟩
     have h2:=hb _ h1;have h3:=hp _ h2;obtain⟨q1,q2,hq⟩:=YB h2;have h4:e.on<listed.size:=by rw[hlen];exact(ho q1 e.on (q2++[i]) (by rw[hq];simp)).1
     unfold E9 at h3;simp only[X4,Yi h4,Y1]at h3 ⊢;exact h3
    rw[hr]at this;cases this
end Go.Cw
namespace Go.Cw
open Go
variable {P:Program} {N:Num} {tk fk:Nat->Option Nat} {Γ:Ctx}
theorem EU {ops:Array Oper} {pt:PT} {pre:List Nat} {i:Nat} (h:Jh ops pt pre i=true) :
  i<ops.size/\i∉pre/\LZ ops pt pre i=true/\∀ e∈DU (ops.getD i default),e∈pre:=by
 unfold Jh at h;simp only[X6,decide_eq_true_eq,YD,Yc,X9]at h;obtain⟨⟨⟨h1,h2⟩,h3⟩,h4⟩:=h;exact⟨h1,(λhc=>by rw[X9.2 hc]at h2;cases h2),h3,h4⟩
theorem Ix {ops:Array Oper} {pt:PT}:∀ (L pre:List Nat),Eu ops pt pre L=true->∀ L1 j L2,L=L1++j::L2->Jh ops pt (pre++L1) j=true/\Gs (ops.getD j default).op=true:=by
 intro L;induction L with
 |nil=>intro pre _ L1 j L2 e;cases L1<;>cases e
 |cons i L ih=>
  intro pre h L1 j L2 e;simp only[Eu,X6]at h;cases L1 with
  |nil=>simp at e;obtain⟨rfl,rfl⟩:=e;exact⟨by simpa using h.1.1,h.1.2⟩
  |cons k L1=>
   simp at e;obtain⟨rfl,rfl⟩:=e;have:=ih (pre++[i]) h.2 L1 j L2 rfl;simpa using this
theorem K7 {ops:Array Oper} {pt:PT}:∀ (L pre:List Nat),pre.Nodup->Eu ops pt pre L=true->(pre++L).Nodup:=by
 intro L;induction L with
 |nil=>intro pre hp _;simpa using hp
 |cons i L ih=>
  intro pre hp h;simp only[Eu,X6]at h;have h1:=(EU h.1.1).2.1;have:=ih (pre++[i]) (by
   rw[Yp];refine⟨hp,by simp,?_⟩;intro a ha b hb e;simp only[YA]at hb;subst hb;subst e;exact h1 ha) h.2
  simpa using this
theorem Gi {α:Type} {pre L p1 p2:List α} {i:α} (h:pre++L=p1++i::p2):(∃q,pre=p1++i::q/\p2=q++L)\/(∃L1 ,L=L1++i::p2/\p1=pre++L1):=by
 rcases List.append_eq_append_iff.1 h with⟨q,h1,h2⟩|⟨q,h1,h2⟩
 ·exact .inr ⟨q,h2,h1⟩
 ·cases q with
  |nil=>simp at h1 h2;exact .inr ⟨[],by simp[h2],by simp[h1]⟩
  |cons x q=>simp at h2;obtain⟨rfl,rfl⟩:=h2;exact .inl ⟨q,h1,rfl⟩
theorem OL {L:List Nat} {s s':Sg} {ops:Array Oper} {nt:Nat} {rs:List KL} (h:CH P tk fk ops nt L s=U (rs,s')) (hn:L.Nodup):∀ r'∈rs,∀r∈rs,r'.idx=r.idx->r'=r:=by
 have hi:=Lj _ _ _ _ h;rw[<-hi]at hn;clear h hi;induction rs with
 |nil=>intro r' h;simp at h
 |cons x rs ih=>
  simp only[Yj,Yr]at hn;intro r' h' r h e;simp only[X5]at h' h;rcases h' with rfl|h'<;>rcases h with rfl|h
  ·rfl
  ·exact absurd (Yu.2 ⟨r,h,e.symm⟩) hn.1
  ·exact absurd (Yu.2 ⟨r',h',e⟩) hn.1
  ·exact ih hn.2 r' h' r h e
theorem Eh.block {ops:Array Oper} {nt:Nat} {pt:PT} {a0:Nat->Value} {pre:List Nat} {listed:Array Bool} {a:Act} {w:World} {ah:Act} {val:Nat->Value} {pb:Nat->Option Nat} {env:At} {h:Heap} {ws:List Heap}
  (hc:Eh P tk ops nt pt a0 pre listed a w ah val pb env h ws [] (λ_ _=>False))
  (htk:∀ t k,tk t=U k->N.tid k=t) (hfk:∀ f k,fk f=U k->N.fid k=f) (hdst:Hx ops=true) {L:List Nat} {s s':Sg} {rs:List KL} {g:Nat->Option Ex}
  (hb:Eu ops pt pre L=true) (hp:CH P tk fk ops nt L s=U (rs,s')) (hi:Eg N env h g pb s ah) (hg:∀ r∈rs,g r.idx=U r.ex)
  (hcov:∀ r∈rs,BK N env h g r.path≠O/\(BK N env h g r.path=U true->r.move=true\/∃ u,ev N env h r.ex=U u)) :
  ∃ (val':Nat->Value) (ah':Act),Eh P tk ops nt pt a0 (pre++L) listed a w ah' val' pb env h ws L (λi x=>∃ r∈rs,r.idx=i/\BK N env x g r.path≠O/\(BK N env x g r.path=U true->r.move=true\/∃ u,ev N env x r.ex=U u))/\(∀i∈L,∃r∈rs,r.idx=i)/\Eg N env h g pb s' ah':=by
 have hnd:=K7 L pre hc.nd hb;obtain⟨val',ah',h1,h2,h3,h4,h5,h6⟩:=M0 htk hfk hdst hc.hsub hc.hpriv L s s' rs ah val pre hp hi hc.hnt hg hcov hc.hyp hnd;have hruniq:∀ r'∈rs,∀r∈rs,r'.idx=r.idx->r'=r:=OL hp (Yp.1 hnd).2.1;have hsame:∀ i∈pre,val' i=val i:=λi hip=>h1 i (λVn=>(Yp.1 hnd).2.2 i hip i Vn rfl);refine⟨val',ah',?_,λi hi=>?_,h2⟩;rotate_left
 ·obtain⟨L1,L2,e⟩:=YB hi;obtain⟨o,r,_,h8,h9,_⟩:=h6 L1 i L2 e;exact⟨r,h8,h9⟩
 refine⟨hc.len,hc.closed,λi hl hi=>Yx _ (hc.sub i hl hi),?_,hnd,?_,hc.ant,hc.adf,h5,h3,h4.trans hc.hdf,hc.hsub,hc.hpriv,hc.les,?_⟩
 ·intro p1 i p2 e;rcases Gi e with⟨q,e1,e2⟩|⟨L1,e1,e2⟩
  ·exact hc.ord p1 i q e1
  ·have:=EU (Ix L pre hb L1 i p2 e1).1;rw[e2];exact⟨this.1,this.2.2.2⟩
 ·intro t;rw[hc.real t];unfold tv;cases hw:Gy ops t with
  |none=>rfl
  |some i=>
   simp only;cases hl:E9 listed i with
   |false=>simp
   |true=>
    have hlt:i<ops.size:=by
     have:=Yo hw;simpa using this
    rw[hsame i (hc.sub i hlt hl)]
 ·intro i hip hl;rw[Yd]at hip;rcases hip with hip|hip
  ·obtain⟨o,p1,p2,h7,h8,h9,h10,h11⟩:=hc.pend i hip hl;refine⟨o,p1,p2++L,h7,by rw[h8];simp,h9,h10,?_⟩;rw[hsame i hip];rcases h11 with⟨pb1,env1,x,h11,h12⟩|⟨_,h11⟩
   ·exact .inl ⟨pb1,env1,x,h11.congr λk hk=>hsame k (by rw[h8];exact Yx _ hk),h12⟩
   ·rename_i hn;simp at hn
  ·obtain⟨L1,L2,e⟩:=YB hip;obtain⟨o,r,h7,hr1,hr2,h8,hx8⟩:=h6 L1 i L2 e;have h9:=Ix L pre hb L1 i L2 e;refine⟨o,pre++L1,L2,h7,by rw[e];simp,(EU h9.1).2.2.1,by rw[<-C7 h7];exact h9.2,.inr ⟨hip,h8,?_⟩⟩;rintro x hx ⟨r',hr',hri,c1,c2⟩;have:r'=r:=hruniq r' hr' r hr1 (hri.trans hr2.symm);subst this;exact hx8 x hx ⟨c1,c2⟩
theorem Eh.sees {ops:Array Oper} {nt:Nat} {pt:PT} {a0:Nat->Value} {pre:List Nat} {listed:Array Bool} {a:Act} {w:World} {ah:Act} {val:Nat->Value} {pb:Nat->Option Nat} {env:At} {h:Heap} {ws:List Heap} {Lc:List Nat} {Cv:Nat->Heap->Prop}
  (hc:Eh P tk ops nt pt a0 pre listed a w ah val pb env h ws Lc Cv) (hp:M2 ops pt=true) {i:Nat} (hr:i∈Region.ready .any ops listed) {o:Oper} (ho:ops[i]?=U o) {p:List Nat} (hs:LZ ops pt p i=true) :
  ∀ t∈o.looksAt ops,a.tmps.getD t undef=tv ops val (KN p) a0 t:=by
 intro t ht;have h1:=Yc.1 hs t (by rw[C7 ho];exact ht);rw[hc.real t];unfold tv;cases hw:Gy ops t with
 |none=>rfl
 |some j=>
  rw[hw]at h1;simp only at h1 ⊢;have hlj:j<ops.size:=by have:=Yo hw;simpa using this
  have hli:=(mem_ready.1 hr).1;by_cases hj:p.contains j=true
  ·rw[if_pos hj]at h1;have:=Dl hp hc.closed hc.len hr j (by simpa using h1);simp[KN,this,X9.1 hj]
  ·rw[if_neg hj]at h1;have hnj:j∉p:=λh=>hj (X9.2 h);have:E9 listed j=false:=by
    cases hl:E9 listed j with
    |false=>rfl
    |true=>
     simp only[Yy,beq_iff_eq,X9]at h1;rcases h1 with h1|h1
     ·subst h1;unfold E9 at hl;rw[hli]at hl;cases hl
     ·have:=hc.closed j hlj hl i h1;unfold E9 at this;rw[hli]at this;cases this
   simp[KN,this,hnj]
theorem Eh.pure {ops:Array Oper} {nt:Nat} {pt:PT} {a0:Nat->Value} {pre:List Nat} {listed:Array Bool} {a:Act} {w:World} {ah:Act} {val:Nat->Value} {pb:Nat->Option Nat} {env:At} {h:Heap} {ws:List Heap} {Lc:List Nat} {Cv:Nat->Heap->Prop}
  (hc:Eh P tk ops nt pt a0 pre listed a w ah val pb env h ws Lc Cv) (hp:M2 ops pt=true) (hdst:Hx ops=true) (hlt:Kz ops nt=true) {i:Nat} (hr:i∈Region.ready .any ops listed) (hi:i∈pre)
  {Q:Exit->Act->World->Prop} {K:Act->World->Prop} (hK:∀ a',Eh P tk ops nt pt a0 pre (listed.setIfInBounds i true) a' w ah val pb env h ws Lc Cv->K a' w):wpOp P ops Q i K a w:=by
 have hli:E9 listed i=false:=(mem_ready.1 hr).1;obtain⟨o,p1,p2,h7,h8,h9,h10,h11⟩:=hc.pend i hi hli;have hs:=hc.sees hp hr h7 h9;have hsz:=(X1.1 h7).1;have hdone:Eh P tk ops nt pt a0 pre (listed.setIfInBounds i true) (a.put o.dst (val i)) w ah val pb env h ws Lc Cv:=by
  refine⟨by simpa using hc.len,?_,?_,hc.ord,hc.nd,?_,?_,?_,hc.hyp,hc.hnt,hc.hdf,hc.hsub,hc.hpriv,hc.les,?_⟩
  ·intro j hj hl k hk;rw[Dp]at hl ⊢;by_cases e:j=i
   ·subst e;rw[Dl hp hc.closed hc.len hr k hk];simp
   ·rw[if_neg e]at hl;rw[hc.closed j hj hl k hk];simp
  ·intro j hj hl;rw[Dp]at hl;by_cases e:j=i
   ·subst e;exact hi
   ·rw[if_neg e]at hl;exact hc.sub j hj hl
  ·have:=LU hdst hlt (S:=E9 listed) (S':=E9 (listed.setIfInBounds i true)) h7 (by rw[Dp,if_pos rfl]) (λk hk=>by rw[Dp,if_neg hk]) hc.ant hc.real (val i);intro t;rw[this t];congr 1;funext k;by_cases e:k=i
   ·subst e;simp
   ·simp[e]
  ·cases o.dst<;>simp[Act.put,hc.ant]
  ·cases o.dst<;>simp[Act.put,hc.adf]
  ·intro j hj hl;rw[Dp]at hl;by_cases e:j=i
   ·rw[if_pos e]at hl;cases hl
   ·rw[if_neg e]at hl;exact hc.pend j hj hl
 have hK':=hK _ hdone;have hfact:HU P tk ops nt a0 o val p1 (val i) (λw'=>w'=w):=by
  rcases h11 with⟨pb1,env1,x,h11,h12⟩|⟨_,h11,_⟩
  ·intro a' w' hn' ht' hc';refine h11 a' w' hn' ht' (λhh=>?_);have:=hc' hh;subst this;obtain⟨hx,rfl,hag⟩:=h12 hh;have hle:Heap.le x h:=hc.les x hx;refine⟨λb o hb=>hc.hsub b o (hle b o hb),λk b hk=>?_⟩;obtain⟨c,t,h1,h2,h3⟩:=hc.hpriv k b hk;refine⟨c,t,(hag k b hk).trans h1,h2,?_⟩;cases hxb:x b with
   |none=>rfl
   |some ob=>rw[hle b ob hxb]at h3;cases h3
  ·intro a' w' hn' ht' hc';refine h11 a' w' hn' ht' (λhh=>?_);have:=hc' hh;subst this;exact⟨hc.hsub,hc.hpriv⟩
 rcases hfact a w hc.ant hs (λ_=>rfl)with⟨h1,h2⟩|⟨h1,h2⟩
 ·unfold wpOp;simp only[h7,h1,if_true,Oper.wp,h2,Oper.upon];exact .inl hK'
 ·unfold wpOp;simp only[h7,h1];rw[<-h2];exact hK'
theorem KQ {ops:Array Oper} {x:Nat} {o:Oper} (ho:ops[x]?=U o) (hns:∀ cs b,o.op≠.select cs b) {a ah:Act} {w:World} (hn:a.tmps.size=ah.tmps.size)
  (hag:∀ t∈o.looksAt ops,a.tmps.getD t undef=ah.tmps.getD t undef) {R:Act->World->Prop} (hR:∀ a' w',R a' w'->a'.defers=[]) {Q:Exit->Act->World->Prop}
  (h:wpOps P ops (λe a' w'=>e=.normal/\R a' w') [x] ah w):wpOp P ops Q x (λa' w'=>∃ y,a'=a.put o.dst y/\R (ah.put o.dst y) w') a w:=by
 unfold wpOp;simp only[wpOps,ho]at h ⊢;rw[CE hn hag];split
 ·rename_i hw;rw[if_pos hw]at h;rcases h with h|⟨_,_,_,h,_⟩
  ·refine .inl ?_;unfold Oper.wp at h ⊢;rw[execOp_congr o hns (E1 hag)];generalize (execOp ah.eval o).run P w=r at h ⊢;cases r with
   |ok n w'=>
    cases n<;>simp only[Oper.upon]at h ⊢
    case value u=>exact⟨u,rfl,h.2⟩
    case skip=>exact⟨_,rfl,h.2⟩
    case defer d=>
     have:=hR _ _ h.2;exfalso;revert this;cases o.dst<;>simp[Act.put]
    case enter f args=>
     refine Calls.mono h λe w'' he=>?_;cases e with
     |returned u=>exact⟨u,rfl,he.2⟩
     |panicked c=>cases he.1
     |outgrown=>obtain⟨_,_,he,_⟩:=he;cases he
    case row row args=>exact Rows.mono h λu w'' he=>⟨u,rfl,he.2⟩
   |halt e w'=>
    cases e<;>simp only[Oper.upon]at h
    case panic u=>cases h.1
  ·cases h
 ·rename_i hw;rw[if_neg hw]at h;exact⟨_,rfl,h.2⟩
end Go.Cw
namespace Go.Cw
open Go
variable {P:Program} {N:Num} {tk fk:Nat->Option Nat} {Γ:Ctx}
inductive DP where
 |done (L:List Nat)
 |eff (L:List Nat) (x:Nat) (r:DP)
 |alt (L:List Nat) (x:Nat) (r:DP) (y:Nat) (r':DP)
 deriving Inhabited
def Ku (P:Program) (tk:Nat->Option Nat) (ops:Array Oper) (pt:PT) (pre:List Nat) (x:Nat) (s:Hi):Bool:=
 Jh ops pt pre x&&(match s.eff with
  |some ei=>!ei.prom||!HL P tk ops pt pre x
  |none=>false)
def GV (g:Nat->Option Ex) (p:KL->Bool):List KL->Option (List Hz)
 |[]=>U []
 |r::rs=>
  if p r then
   match DE g r.path,GV g p rs with
   |some gs,U l=>U (⟨gs,0,r.ex⟩::l)
   |_,_=>O
  else GV g p rs
theorem K6 {g:Nat->Option Ex} {p:KL->Bool}:∀ {rs:List KL} {wx:List Hz},GV g p rs=U wx->∀ r∈rs,p r=true->∃ gs,DE g r.path=U gs/\(⟨gs,0,r.ex⟩:Hz)∈wx:=by
 intro rs;induction rs with
 |nil=>intro wx _ r hr;simp at hr
 |cons a rs ih=>
  intro wx h r hr hp;simp only[GV]at h;split at h
  ·rename_i hpa;split at h<;>cases h;rename_i gs l h1 h2;simp only[X5]at hr;rcases hr with rfl|hr
   ·exact⟨gs,h1,by simp⟩
   ·obtain⟨gs',h3,h4⟩:=ih h2 r hr hp;exact⟨gs',h3,by simp[h4]⟩
  ·rename_i hpa;simp only[X5]at hr;rcases hr with rfl|hr
   ·rw[hp]at hpa;exact absurd rfl hpa
   ·exact ih h r hr hp
def MI (P:Program) (tk:Nat->Option Nat) (ops:Array Oper) (pt:PT) (x:Nat) (r:KL):Bool:=
 Gs (ops.getD r.idx default).op&&BT P tk (ops.getD r.idx default).op&&!(OM pt x).contains r.idx
def Sp (P:Program) (tk fk:Nat->Option Nat) (ops:Array Oper) (nt:Nat) (m:AR) (pt:PT) (L:List Nat) (x:Nat):Option (List Hz):=
 match CH P tk fk ops nt L (ID ops.size 0 m)with
 |some (rs,_)=>GV (Qj rs (ID ops.size 0 m)) (MI P tk ops pt x) rs
 |none=>O
theorem U0 {fl:Bool} {wx:List Hz} {ws:List Heap} {env:At} {h:Heap} {K:List Heap->At->Heap->Prop} {env':At} {h':Heap} (hk:K1 N fl wx ws env h K env' h') :
  ∃ (z:Heap) (ws':List Heap),K ws' env' h'/\(∀y∈ws',Heap.le y h')/\(fl=true->∀ y∈ws,y∈ws')/\(wx≠[]->fl=true->z∈ws'/\(z=h\/(Heap.le z h/\∀ l∈wx,Pp N env z l))):=by
 unfold K1 at hk;split at hk
 ·obtain⟨h1,h2⟩:=hk;cases fl with
  |true=>exact⟨h,ws,h2,h1 rfl,λ_ y hy=>hy,λh=>absurd rfl h⟩
  |false=>exact⟨h,[],h2,by simp,(by simp),λh=>absurd rfl h⟩
 ·obtain⟨z,h0,h1,h2⟩:=hk;cases fl with
  |true=>exact⟨z,z::ws,h2,h1 rfl,λ_ y hy=>Yb _ hy,λ_ _=>⟨by simp,h0⟩⟩
  |false=>exact⟨z,[],h2,by simp,(by simp),λ_ h=>by cases h⟩
def Jr (P:Program) (tk fk:Nat->Option Nat) (ops:Array Oper) (nt:Nat) (m:AR) (pt:PT):List Nat->DP->Option DS
 |pre,.done L=>
  match HX P tk fk ops nt m L O with
  |some s=>if Eu ops pt pre L&&(Yh ops.size).all (pre++L).contains then U (.done s)else O
  |none=>O
 |pre,.eff L x r=>
  match HX P tk fk ops nt m L (U x),Jr P tk fk ops nt m pt (pre++L++[x]) r,Sp P tk fk ops nt m pt L x with
  |some s,U d,U wx=>if Eu ops pt pre L&&Ku P tk ops pt (pre++L) x s&&Mh ops pt (pre++L++[x]) x then U (.eff (HL P tk ops pt (pre++L) x) wx s d)else O
  |_,_,_=>O
 |pre,.alt L x r y r'=>
  match HX P tk fk ops nt m L (U x),Jr P tk fk ops nt m pt (pre++L++[x]) r,HX P tk fk ops nt m L (U y),Jr P tk fk ops nt m pt (pre++L++[y]) r',Sp P tk fk ops nt m pt L x,Sp P tk fk ops nt m pt L y with
  |some s,U d,U s',U d',U wx,U wx'=>
   if Eu ops pt pre L&&Ku P tk ops pt (pre++L) x s&&Ku P tk ops pt (pre++L) y s'&&Mh ops pt (pre++L++[x,y]) x then
    U (.alt (HL P tk ops pt (pre++L) x) wx s d (HL P tk ops pt (pre++L) y) wx' s' d')else O
  |_,_,_,_,_,_=>O
def I4 (P:Program) (tk fk:Nat->Option Nat) (ops:Array Oper) (nt:Nat) (m:AR) (pt:PT) (p:DP):Option DS:=
 if M2 ops pt&&Hx ops&&Kz ops nt&&Region.noSelect ops then Jr P tk fk ops nt m pt [] p else O
theorem Eh.eff (htk:∀ t k,tk t=U k->N.tid k=t) (hfk:∀ f k,fk f=U k->N.fid k=f) (hΓ:Good P N Γ)
  {ops:Array Oper} {nt:Nat} {pt:PT} {a0:Nat->Value} {pre:List Nat} {listed:Array Bool} {a:Act} {w:World} {ah:Act} {val:Nat->Value} {pb:Nat->Option Nat} {env:At} {h:Heap} {ws:List Heap} {Lc:List Nat} {Cv:Nat->Heap->Prop}
  (hc:Eh P tk ops nt pt a0 pre listed a w ah val pb env h ws Lc Cv) (hp:M2 ops pt=true) (hdst:Hx ops=true) (hlt:Kz ops nt=true) (hns:Region.noSelect ops=true)
  {m:AR} (hnd:(m.map (·.1)).Nodup) {h0:Heap} {w0:World} {env1:At} {s:Sg} {g:Nat->Option Ex} {o:Oper} {ei:EI} {c:List (Nat×CO)} {st:Hi} {x:Nat} (ho:ops[x]?=U o) (heff:Kv P tk fk ops nt m g s o=U (ei,c))
  (hi:Eg N env h g pb s ah) (hr:Hn m nt h0 w0 pb env1 h ah w) (hkeep:∀ i slot,m[i]?=U (slot,true)->env1.get i=env.get i) (hst:st.eff=U ei) (hok:Ku P tk ops pt pre x st=true)
  {K:List Heap->At->Heap->Prop} {wx:List Hz} (hwx:∀ i∈Lc,Gs (ops.getD i default).op=true->BT P tk (ops.getD i default).op=true->(OM pt x).contains i=false->wx≠[]/\∀ z,Heap.le z h->(∀l∈wx,Pp N env z l)->Cv i z)
  (hK:Is N Γ ei env env1 h (K1 N (HL P tk ops pt pre x) wx ws env h K)) {Q:Exit->Act->World->Prop} (hx:x∈Region.ready .any ops listed) :
  wpOp P ops Q x (λa' w'=>∃ val' ah' pb' env' h' ws',Eh P tk ops nt pt a0 (pre++[x]) (listed.setIfInBounds x true) a' w' ah' val' pb' env' h' ws' [] (λ_ _=>False)/\Hn m nt h0 w0 pb' env' h' ah' w'/\K ws' env' h') a w:=by
 unfold Ku at hok;rw[hst]at hok;simp only[X6,Yy,YD]at hok;obtain⟨hone,hprom⟩:=hok;obtain⟨hxs,hxp,hxsee,hxb⟩:=EU hone;have hsee:=hc.sees hp hx ho hxsee;have hsel:=Region.noSelect_spec hns;have h1:=ND htk hfk hΓ ho heff hnd hi hr hkeep hK (Q:=λe a' w'=>e=.normal/\∃ pb' env' h',K1 N (HL P tk ops pt pre x) wx ws env h K env' h'/\Hn m nt h0 w0 pb' env' h' a' w' /\
  (ei.prom=false->pb'=pb/\∀ (i slot:Nat),m[i]?=U (slot,true)->env'.get i=env1.get i)) (rest:=[])
  (λpb' env' h' a' w' hk hr' hpr=>by simp only[wpOps];exact⟨trivial,pb',env',h',hk,hr',hpr⟩)
 have h2:=KQ (Q:=Q) ho (λcs b=>hsel x o cs b ho) (a:=a) (hc.ant.trans hc.hnt.symm) (λt ht=>by rw[hsee t ht,hc.hyp t]) (by rintro a' w' ⟨_,_,_,_,hr',_⟩;exact hr'.df) h1;refine wpOp_mono ?_ h2;rintro a' w' ⟨y,rfl,pb',env',h',hk,hr',hpr⟩;obtain⟨zh,ws',hk2,hk1,hkw,hkz⟩:=U0 hk;clear hk;refine⟨λi=>if i=x then y else val i,ah.put o.dst y,pb',env',h',ws',?_,hr',hk2⟩;have hother:∀ i∈pre,i≠x:=λi hi e=>hxp (e▸hi);refine⟨by simpa using hc.len,?_,?_,?_,?_,?_,?_,?_,?_,hr'.nt,hr'.df,hr'.step.sub,hr'.priv,?_,?_⟩
 ·intro j hj hl k hk;rw[Dp]at hl ⊢;by_cases e:j=x
  ·subst e;rw[Dl hp hc.closed hc.len hx k hk];simp
  ·rw[if_neg e]at hl;rw[hc.closed j hj hl k hk];simp
 ·intro j hj hl;rw[Dp]at hl;by_cases e:j=x
  ·subst e;simp
  ·rw[if_neg e]at hl;exact Yx _ (hc.sub j hj hl)
 ·intro p1 i p2 e;rcases Gi e with⟨q,e1,e2⟩|⟨L1,e1,e2⟩
  ·exact hc.ord p1 i q e1
  ·cases L1 with
   |nil=>simp at e1;obtain⟨rfl,rfl⟩:=e1;rw[e2];exact⟨hxs,by simpa using hxb⟩
   |cons z L1=>simp at e1
 ·rw[Yp];refine⟨hc.nd,by simp,?_⟩;intro a ha b hb e;simp only[YA]at hb;subst hb;exact hother a ha e
 ·exact LU hdst hlt (S:=E9 listed) (S':=E9 (listed.setIfInBounds x true)) ho (by rw[Dp,if_pos rfl]) (λk hk=>by rw[Dp,if_neg hk]) hc.ant hc.real y
 ·cases o.dst<;>simp[Act.put,hc.ant]
 ·cases o.dst<;>simp[Act.put,hc.adf]
 ·exact LU hdst hlt (S:=KN pre) (S':=KN (pre++[x])) ho (by simp[KN]) (λk hk=>by simp[KN,hk]) hc.hnt hc.hyp y
 ·exact hk1
 ·intro i hip hl;rw[Dp]at hl;by_cases e:i=x
  ·rw[if_pos e]at hl;cases hl
  ·rw[if_neg e]at hl;have hip':i∈pre:=by simpa[e]using hip
   obtain⟨o',p1,p2,h7,h8,h9,h10,h11⟩:=hc.pend i hip' hl;have hcong:∀ {C:World->Prop},HU P tk ops nt a0 o' val p1 (val i) C->HU P tk ops nt a0 o' (λi=>if i=x then y else val i) p1 (if i=x then y else val i) C:=by
    intro C hf;rw[if_neg e];exact hf.congr λk hk=>by rw[if_neg (hother k (by rw[h8];exact Yx _ hk))]
   have hncon:(OM pt x).contains i=false:=by
    cases hcx:(OM pt x).contains i with
    |false=>rfl
    |true=>
     have:=Dl hp hc.closed hc.len hx i (X9.1 hcx);rw[hl]at this;cases this
   have hfl:BT P tk o'.op=true->HL P tk ops pt pre x=true:=by
    intro hh;refine Y8.2 ⟨i,hip',?_⟩;rw[C7 h7,h10,hh,hncon];rfl
   have hag:BT P tk o'.op=true->pb=pb'/\∀ k b,pb' k=U b->env.get k=env'.get k:=by
    intro hh;have hpf:ei.prom=false:=by
     rcases hprom with h|h
     ·exact h
     ·rw[hfl hh]at h;cases h
    obtain⟨e1,hpr2⟩:=hpr hpf;refine⟨e1.symm,λk b hk=>?_⟩;obtain⟨slot,hms,_⟩:=hr'.pbm k b hk;rw[hpr2 k slot hms,hkeep k slot hms]
   refine⟨o',p1,p2++[x],h7,by rw[h8];simp,h9,h10,.inl ?_⟩;rcases h11 with⟨pb1,en1,xh,f1,f2⟩|⟨hL,f1,f2⟩
   ·refine⟨pb1,en1,xh,hcong f1,λhh=>?_⟩;obtain⟨h13,h14,h15⟩:=f2 hh;obtain⟨a1,a2⟩:=hag hh;exact⟨hkw (hfl hh) _ h13,h14.trans a1,λk b hk=>by rw[h15 k b (a1▸hk),a2 k b hk]⟩
   ·cases hh:BT P tk o'.op with
    |false=>exact⟨pb,env,h,hcong f1,λh=>by cases h⟩
    |true=>
     obtain⟨w1,w2⟩:=hwx i hL (by rw[C7 h7];exact h10) (by rw[C7 h7];exact hh) hncon;obtain⟨z1,z2⟩:=hkz w1 (hfl hh);obtain⟨a1,a2⟩:=hag hh;refine⟨pb,env,zh,hcong ?_,λ_=>⟨z1,a1,a2⟩⟩;rcases z2 with rfl|⟨z2,z3⟩
     ·exact f1
     ·exact f2 zh z2 (w2 zh z2 z3)
theorem Pq {l:List Nat} (hl:l.Nodup) {p q:Nat->Bool} {i:Nat} (hi:i∈l) (h1:p i=true) (h2:∀ j,q j=if j=i then false else p j):l.countP p=l.countP q+1:=by
 induction l with
 |nil=>cases hi
 |cons x l ih=>
  rw[Yr]at hl;simp only[X5]at hi;by_cases e:x=i
  ·subst e;have:l.countP p=l.countP q:=List.countP_congr λj hj=>by
    have:j≠x:=λe=>hl.1 (e▸hj);rw[h2 j,if_neg this]
   simp[Y6,h1,h2 x,this]
  ·have hi':i∈l:=hi.resolve_left (λe'=>e e'.symm);have:=ih hl.2 hi';simp only[Y6,this,h2 x,if_neg e];omega
def left (n:Nat) (listed:Array Bool):Nat:=(Yh n).countP λi=>!E9 listed i
theorem If {n:Nat} {listed:Array Bool} {i:Nat} (hi:i<n) (hl:E9 listed i=false):left n listed=left n (listed.setIfInBounds i true)+1:=
 Pq List.nodup_range (by simpa using hi) (by simp[hl]) (λj=>by rw[Dp];split<;>simp)
theorem Hn.same {m:AR} {nt:Nat} {h0:Heap} {w0:World} {pb:Nat->Option Nat} {env:At} {h:Heap} {a a':Act} {w:World} (hr:Hn m nt h0 w0 pb env h a w)
  (h1:∀ t,a'.tmps.getD t undef=a.tmps.getD t undef) (h2:a'.tmps.size=nt) (h3:a'.defers=[]):Hn m nt h0 w0 pb env h a' w:=
 ⟨hr.elen,λi slot hm v hv=>by rw[h1];exact hr.plain i slot hm v hv,λi slot hm v hv=>by
  obtain⟨b,hb,hb'⟩:=hr.prom i slot hm v hv;exact⟨b,hb,by rw[h1];exact hb'⟩,hr.priv,hr.pbm,hr.inj,hr.step,h2,h3⟩
section
variable {ops:Array Oper} {nt:Nat} {pt:PT} {a0:Nat->Value} {pre:List Nat} {w:World} {ah:Act} {val:Nat->Value} {pb:Nat->Option Nat} {env:At} {h:Heap} {ws:List Heap} {Lc:List Nat} {Cv:Nat->Heap->Prop} {Q:Exit->Act->World->Prop}
theorem TM (hp:M2 ops pt=true) (hdst:Hx ops=true) (hlt:Kz ops nt=true) (hall:∀ i,i<ops.size->i∈pre)
  (hQ:∀ a,(∀t,a.tmps.getD t undef=ah.tmps.getD t undef)->a.tmps.size=nt->a.defers=[]->Q .normal a w) :
  ∀ (f:Nat) (listed:Array Bool) (a:Act),Eh P tk ops nt pt a0 pre listed a w ah val pb env h ws Lc Cv->left ops.size listed<=f->wpAny P .any ops Q f listed a w:=by
 have fin:∀ (listed:Array Bool) (a:Act),Eh P tk ops nt pt a0 pre listed a w ah val pb env h ws Lc Cv->(∀i∈pre,E9 listed i=true)->Q .normal a w:=by
  intro listed a hc hl;refine hQ a (λt=>?_) hc.ant hc.adf;rw[hc.real t,hc.hyp t];unfold tv;cases hw:Gy ops t with
  |none=>rfl
  |some i=>
   have hlt':i<ops.size:=by have:=Yo hw;simpa using this
   have hm:=hall i hlt';simp[hl i hm,KN,hm]
 intro f;induction f with
 |zero=>
  intro listed a hc hl;have hz:∀ i,i<ops.size->E9 listed i=true:=by
   intro i hi;have h0:(Yh ops.size).countP (λi=>!E9 listed i)=0:=by unfold left at hl;omega
   have:=(YY.1 h0) i (by simpa using hi);simpa using this
  refine⟨?_,fin listed a hc λi hi=>?_⟩
  ·cases hr:Region.ready .any ops listed with
   |nil=>rfl
   |cons x xs=>
    have hx:x∈Region.ready .any ops listed:=by rw[hr];simp
    have h1:=mem_ready.1 hx;obtain⟨h2,o,ho,_⟩:=h1;have:=hz x (X1.1 ho).1;unfold E9 at this;rw[h2]at this;cases this
  ·obtain⟨p1,p2,e⟩:=YB hi;exact hz i (hc.ord p1 i p2 e).1
 |succ f ih=>
  intro listed a hc hl;refine⟨λhr=>fin listed a hc (M1 hc.len hr _ pre rfl hc.ord),λi hi=>?_⟩;obtain⟨h1,o,ho,_⟩:=mem_ready.1 hi;have hsz:=(X1.1 ho).1;have:=If hsz (show E9 listed i=false from h1);exact hc.pure hp hdst hlt hi (hall i hsz) λa' hc'=>ih _ _ hc' (by omega)
theorem MR (hp:M2 ops pt=true) (hdst:Hx ops=true) (hlt:Kz ops nt=true) {xs:List Nat} {x0:Nat} (hx0:x0∈xs) (hone:Jh ops pt pre x0=true) (hlater:Mh ops pt (pre++xs) x0=true) {F:Nat}
  (hstep:∀ f,f<F->∀ (listed:Array Bool) (a:Act),Eh P tk ops nt pt a0 pre listed a w ah val pb env h ws Lc Cv->∀ x∈xs,x∈Region.ready .any ops listed->left ops.size listed<=f+1 ->
   wpOp P ops Q x (wpAny P .any ops Q f (listed.setIfInBounds x true)) a w) :
  ∀ (f:Nat),f<=F->∀ (listed:Array Bool) (a:Act),Eh P tk ops nt pt a0 pre listed a w ah val pb env h ws Lc Cv->left ops.size listed<=f->wpAny P .any ops Q f listed a w:=by
 obtain⟨hs0,hn0,_,hb0⟩:=EU hone;have hun:∀ (listed:Array Bool) (a:Act),Eh P tk ops nt pt a0 pre listed a w ah val pb env h ws Lc Cv->E9 listed x0=false:=by
  intro listed a hc;cases hl:E9 listed x0 with
  |false=>rfl
  |true=>exact absurd (hc.sub x0 hs0 hl) hn0
 intro f;induction f with
 |zero=>
  intro _ listed a hc hl;have h0:(Yh ops.size).countP (λi=>!E9 listed i)=0:=by unfold left at hl;omega
  have:=(YY.1 h0) x0 (by simpa using hs0);rw[hun listed a hc]at this;exact absurd rfl this
 |succ f ih=>
  intro hF listed a hc hl;refine⟨λhr=>?_,λi hi=>?_⟩
  ·have:=M1 hc.len hr _ (pre++[x0]) rfl (by
    intro p1 i p2 e;rcases Gi e with⟨q,e1,e2⟩|⟨L1,e1,e2⟩
    ·exact hc.ord p1 i q e1
    ·cases L1 with
     |nil=>simp at e1;obtain⟨rfl,rfl⟩:=e1;rw[e2];exact⟨hs0,by simpa using hb0⟩
     |cons z L1=>simp at e1) x0 (by simp)
   rw[hun listed a hc]at this;cases this
  ·obtain⟨h1,o,ho,_⟩:=mem_ready.1 hi;have hsz:=(X1.1 ho).1;have hls:=If hsz (show E9 listed i=false from h1);by_cases hip:i∈pre
   ·exact hc.pure hp hdst hlt hi hip λa' hc'=>ih (by omega) _ _ hc' (by omega)
   ·by_cases hix:i∈xs
    ·exact hstep f (by omega) listed a hc i hix hi hl
    ·have h2:=Yc.1 hlater i (by simpa using hsz);simp only[Yy,X9,Yd,hip,hix,or_self,false_or]at h2;have:=Dl hp hc.closed hc.len hi x0 h2;rw[hun listed a hc]at this;cases this
end
theorem Of {ops:Array Oper} {nt:Nat} {m:AR} {pt:PT} {L:List Nat} {x:Nat} {wx:List Hz} {rs:List KL} {s:Sg} {g:Nat->Option Ex} {env:At} {h:Heap} (hwx:Sp P tk fk ops nt m pt L x=U wx)
  (hp:CH P tk fk ops nt L (ID ops.size 0 m)=U (rs,s)) (hg:g=Qj rs (ID ops.size 0 m)) (hrec:∀ i∈L,∃r∈rs,r.idx=i) :
  ∀ i∈L,Gs (ops.getD i default).op=true->BT P tk (ops.getD i default).op=true->(OM pt x).contains i=false->wx≠[]/\∀ z,Heap.le z h->(∀l∈wx,Pp N env z l) ->
   ∃ r∈rs,r.idx=i/\BK N env z g r.path≠O/\(BK N env z g r.path=U true->r.move=true\/∃ u,ev N env z r.ex=U u):=by
 intro i hi h1 h2 h3;obtain⟨r,hr,rfl⟩:=hrec i hi;unfold Sp at hwx;rw[hp]at hwx;simp only at hwx;obtain⟨gs,h4,h5⟩:=K6 hwx r hr (by simp only[MI,h1,h2,h3];rfl);refine⟨λe=>by rw[e]at h5;simp at h5,λz _ hcov=>⟨r,hr,rfl,?_⟩⟩;obtain⟨b,h6,h7⟩:=hcov _ h5;rw[ED _ _ h4,<-hg]at h6;refine⟨by rw[h6];simp,λh8=>.inr ?_⟩;rw[h6]at h8;cases h8;exact h7 rfl
theorem KB (htk:∀ t k,tk t=U k->N.tid k=t) (hfk:∀ f k,fk f=U k->N.fid k=f) (hΓ:Good P N Γ) {ops:Array Oper} {nt:Nat} {pt:PT} {a0:Nat->Value}
  (hp:M2 ops pt=true) (hdst:Hx ops=true) (hlt:Kz ops nt=true) (hns:Region.noSelect ops=true) {m:AR} (hnd:(m.map (·.1)).Nodup) {h0:Heap} {w0:World}
  {K:At->Heap->Prop} {Q:Exit->Act->World->Prop} (hQ:Sh m nt h0 w0 K (λa w=>Q .normal a w)) :
  ∀ (fuel:Nat) (p:DP) (d:DS) (pre:List Nat) (listed:Array Bool) (a:Act) (w:World) (ah:Act) (val:Nat->Value) (pb:Nat->Option Nat) (env:At) (h:Heap) (ws:List Heap),
   Jr P tk fk ops nt m pt pre p=U d->Eh P tk ops nt pt a0 pre listed a w ah val pb env h ws [] (λ_ _=>False)->Hn m nt h0 w0 pb env h ah w->ME N Γ d ws env h K->left ops.size listed<=fuel ->
   wpAny P .any ops Q fuel listed a w:=by
 intro fuel;induction fuel using Nat.strongRecOn with
 |_ fuel IH=>
  intro p d pre listed a w ah val pb env h ws hd hc hr hK hl;cases p with
  |done L=>
   simp only[Jr]at hd;split at hd
   ·rename_i s hs;split at hd<;>cases hd;rename_i hok;simp only[X6,Yc,X9,Zc]at hok;obtain⟨rs,s',g,env1,hgd,h1,h2,h3,h4,h5,h6,h7⟩:=EK hnd hr hs hK;obtain⟨val',ah',h8,hrec,h9⟩:=hc.block htk hfk hdst hok.1 h1 h2 h3 h4;have hr':=h5 ah' h9 h8.hnt (h8.hdf.trans hc.hdf.symm);exact TM hp hdst hlt hok.2 (λa' e1 e2 e3=>hQ _ _ _ _ _ h7 (hr'.same e1 e2 e3)) fuel listed a h8 hl
   ·cases hd
  |eff L x r=>
   simp only[Jr]at hd;split at hd
   ·rename_i s d' wx hs hd' hwx;split at hd<;>cases hd;rename_i hok;simp only[X6]at hok;obtain⟨rs,s',g,env1,hgd,h1,h2,h3,h4,h5,h6,o,ei,c,ho,heff,hst,h7⟩:=EK hnd hr hs hK;obtain⟨val',ah',h8,hrec,h9⟩:=hc.block htk hfk hdst hok.1.1 h1 h2 h3 h4;have hr':=h5 ah' h9 h8.hnt (h8.hdf.trans hc.hdf.symm);have hone:Jh ops pt (pre++L) x=true:=by
     have:=hok.1.2;unfold Ku at this;simp only[X6]at this;exact this.1
    refine MR hp hdst hlt (xs:=[x]) (by simp) hone hok.2 (F:=fuel) (λf hf listed' a' hc' y hy hry hly=>?_) fuel (Yq _) listed a h8 hl;simp only[YA]at hy;subst hy;refine wpOp_mono ?_ (hc'.eff htk hfk hΓ hp hdst hlt hns hnd ho heff h9 hr' h6 hst hok.1.2 (Of hwx h1 hgd hrec) h7 hry);rintro a2 w2 ⟨val2,ah2,pb2,env2,hh2,ws2,h10,h11,h12⟩;obtain⟨hun,_,ho',_⟩:=mem_ready.1 hry;have:=If (X1.1 ho).1 (show E9 listed' y=false from hun);exact IH f hf r d' _ _ a2 w2 ah2 val2 pb2 env2 hh2 ws2 hd' h10 h11 h12 (by omega)
   ·cases hd
  |alt L x r y r'=>
   simp only[Jr]at hd;split at hd
   ·rename_i s d1 s2 d2 wx wx' hs hd1 hs2 hd2 hwx hwx';split at hd<;>cases hd;rename_i hok;simp only[X6]at hok;obtain⟨⟨⟨hok1,hok2⟩,hok3⟩,hok4⟩:=hok;obtain⟨rs,s',g,env1,hgd,h1,h2,h3,h4,h5,h6,o,ei,c,ho,heff,hst,h7⟩:=EK hnd hr hs hK.1;obtain⟨rs',s'',g',env1',hgd',h1',h2',h3',h4',h5',h6',o',ei',c',ho',heff',hst',h7'⟩:=EK hnd hr hs2 hK.2;rw[h1]at h1';cases h1';subst hgd';subst hgd;obtain⟨val',ah',h8,hrec,h9⟩:=hc.block htk hfk hdst hok1 h1 h2 h3 h4;have hr':=h5 ah' h9 h8.hnt (h8.hdf.trans hc.hdf.symm);have hr'':=h5' ah' h9 h8.hnt (h8.hdf.trans hc.hdf.symm);have hone:Jh ops pt (pre++L) x=true:=by
     have:=hok2;unfold Ku at this;simp only[X6]at this;exact this.1
    refine MR hp hdst hlt (xs:=[x,y]) (by simp) hone hok4 (F:=fuel) (λf hf listed' a' hc' z hz hrz hlz=>?_) fuel (Yq _) listed a h8 hl;obtain⟨hun,oz,hoz,_⟩:=mem_ready.1 hrz;have hleft:=If (X1.1 hoz).1 (show E9 listed' z=false from hun);simp only[X5,List.not_mem_nil,or_false]at hz;rcases hz with rfl|rfl
    ·refine wpOp_mono ?_ (hc'.eff htk hfk hΓ hp hdst hlt hns hnd ho heff h9 hr' h6 hst hok2 (Of hwx h1 rfl hrec) h7 hrz);rintro a2 w2 ⟨val2,ah2,pb2,env2,hh2,ws2,h10,h11,h12⟩;exact IH f hf r d1 _ _ a2 w2 ah2 val2 pb2 env2 hh2 ws2 hd1 h10 h11 h12 (by omega)
    ·refine wpOp_mono ?_ (hc'.eff htk hfk hΓ hp hdst hlt hns hnd ho' heff' h9 hr'' h6' hst' hok3 (Of hwx' h1 rfl hrec) h7' hrz);rintro a2 w2 ⟨val2,ah2,pb2,env2,hh2,ws2,h10,h11,h12⟩;exact IH f hf r' d2 _ _ a2 w2 ah2 val2 pb2 env2 hh2 ws2 hd2 h10 h11 h12 (by omega)
   ·cases hd
theorem Ou (htk:∀ t k,tk t=U k->N.tid k=t) (hfk:∀ f k,fk f=U k->N.fid k=f) (hΓ:Good P N Γ) (hmix:P.follows .mixedOrders=true) {ops:Array Oper} {nt:Nat} {pt:PT} {m:AR} (hnd:(m.map (·.1)).Nodup)
  {id:Nat} {p:DP} {d:DS} (hd:I4 P tk fk ops nt m pt p=U d):DZ P N Γ m nt (.dreg d) (.region id ops true):=by
 unfold I4 at hd;split at hd
 ·rename_i hok;simp only[X6]at hok;obtain⟨⟨⟨h1,h2⟩,h3⟩,h4⟩:=hok;intro h0 w0 Q Q' pb env h a w hK hr hQ;refine wp_region_any hmix ?_;have hr':Hn m nt h0 w0 pb env h a { w with drawn:=w.drawn+1 }:=⟨hr.elen,hr.plain,hr.prom,hr.priv,hr.pbm,hr.inj,⟨hr.step.sub,hr.step.size,hr.step.os,hr.step.tape,hr.step.output,hr.step.frame⟩,hr.nt,hr.df⟩
  have hl0:∀ i,i<ops.size->E9 (Array.replicate ops.size false) i=false:=by
   intro i hi;unfold E9;simp[Array.getD,hi]
  refine KB htk hfk hΓ (a0:=λt=>a.tmps.getD t undef) h1 h2 h3 h4 hnd (h0:=h0) (w0:=w0) (K:=Q .normal) (Q:=Q') (λpb env h a w hk hr=>hQ .normal pb env h a w hk hr) _ p d [] _ a _ a (λ_=>undef) pb env h [] hd ?_ hr' hK ?_
  ·refine⟨by simp,?_,?_,?_,YJ,?_,hr.nt,hr.df,?_,hr.nt,hr.df,hr'.step.sub,hr'.priv,by simp,by simp⟩
   ·intro i hi hl;rw[hl0 i hi]at hl;cases hl
   ·intro i hi hl;rw[hl0 i hi]at hl;cases hl
   ·intro p1 i p2 e;cases p1<;>cases e
   ·intro t;unfold tv;cases hw:Gy ops t with
    |none=>rfl
    |some i=>
     have hlt':i<ops.size:=by have:=Yo hw;simpa using this
     simp[hl0 i hlt']
   ·intro t;unfold tv;cases hw:Gy ops t with
    |none=>rfl
    |some i=>simp[KN]
  ·unfold left;have:=YT (p:=λi=>!E9 (Array.replicate ops.size false) i) (l:=Yh ops.size);simpa using this
 ·cases hd
end Go.Cw
namespace Go.Cw
open Go
variable {P:Program} {N:Num} {tk fk:Nat->Option Nat} {Γ:Ctx}
def VI (pt:PT) (bs:List Nat):List Nat:=bs.foldl (λacc e=>(e::OM pt e).foldl (λacc k=>if acc.contains k then acc else acc++[k]) acc) []
def WV (ops:Array Oper):PT:=ops.toList.foldl (λpt o=>pt++[VI pt (DU o)]) []
def JI (ops:List Oper) (done:List Nat):Nat->List (Nat×Oper)
 |i=>match ops with
  |[]=>[]
  |o::r=>if !done.contains i&&(DU o).all done.contains then(i,o)::JI r done (i+1)else JI r done (i+1)
def Hf (ops:List Oper):Nat->List Nat->List Nat->List Nat
 |0,_,acc=>acc
 |fuel+1,done,acc=>
  match (JI ops (done++acc) 0).filter (λx=>Gs x.2.op)with
  |[]=>acc
  |l=>Hf ops fuel done (acc++l.map (·.1))
def J1 (ops:List Oper):Nat->List Nat->DP
 |0,_=>.done []
 |fuel+1,done=>
  let L:=Hf ops ops.length done []
  match (JI ops (done++L) 0).map (·.1)with
  |[]=>.done L
  |[x]=>.eff L x (J1 ops fuel (done++L++[x]))
  |x::y::_=>
   let L1:=Hf ops ops.length (done++L++[x]) []
   let L2:=Hf ops ops.length (done++L++[y]) []
   .alt L x (.eff L1 y (J1 ops fuel (done++L++[x]++L1++[y]))) y (.eff L2 x (J1 ops fuel (done++L++[y]++L2++[x])))
def GA (P:Program) (tk fk:Nat->Option Nat) (nt:Nat) (m:AR):Code->Option St
 |.skip=>U .skip
 |.ret=>U .ret
 |.exit id=>U (.exit id)
 |.region _ ops false=>(DD P tk fk ops nt m [] (Yh ops.size)).map .reg
 |.region _ ops true=>(I4 P tk fk ops nt m (WV ops) (J1 ops.toList (ops.size+1) [])).map .dreg
 |.seq a b=>
  match GA P tk fk nt m a,GA P tk fk nt m b with
  |some s,U t=>U (.seq s t)
  |_,_=>O
 |.cond x a b=>
  match HP m x,GA P tk fk nt m a,GA P tk fk nt m b with
  |some e,U s,U t=>U (.cond e s t)
  |_,_,_=>O
 |.block id a=>(GA P tk fk nt m a).map (.block id)
 |.loop a=>(GA P tk fk nt m a).map .loop
 |_=>O
theorem Pr (htk:∀ t k,tk t=U k->N.tid k=t) (hfk:∀ f k,fk f=U k->N.fid k=f) (hΓ:Good P N Γ) (hmix:P.follows .mixedOrders=true) {nt:Nat} {m:AR} (hnd:(m.map (·.1)).Nodup) :
  ∀ (c:Code) (s:St),GA P tk fk nt m c=U s->DZ P N Γ m nt s c:=by
 intro c;induction c with
 |skip=>intro s h;simp only[GA]at h;cases h;exact Oo
 |ret=>intro s h;simp only[GA]at h;cases h;exact QJ
 |exit id=>intro s h;simp only[GA]at h;cases h;exact Ot
 |region id ops draw=>
  intro s h;cases draw with
  |false=>
   simp only[GA,XZ]at h;obtain⟨l,h,rfl⟩:=h;exact QK htk hfk hΓ hnd h
  |true=>
   simp only[GA,XZ]at h;obtain⟨d,h,rfl⟩:=h;exact Ou htk hfk hΓ hmix hnd h
 |seq a b iha ihb=>
  intro s h;simp only[GA]at h;split at h<;>cases h;rename_i s t h1 h2;exact QI (iha _ h1) (ihb _ h2)
 |cond x a b iha ihb=>
  intro s h;simp only[GA]at h;split at h<;>cases h;rename_i e s t h0 h1 h2;exact Ov h0 (iha _ h1) (ihb _ h2)
 |block id a ih=>
  intro s h;simp only[GA,XZ]at h;obtain⟨t,h,rfl⟩:=h;exact MS (ih _ h)
 |loop a ih=>
  intro s h;simp only[GA,XZ]at h;obtain⟨t,h,rfl⟩:=h;exact Oq (ih _ h)
 |_=>intro s h;simp[GA]at h
def compF (P:Program) (tk fk:Nat->Option Nat) (np:Nat) (m:AR) (fn:Func):Option SFun:=
 match fn.body with
 |some c=>
  match GA P tk fk fn.ntmps m c,Jf P m fn.results.toList with
  |some s,U r=>
   if IS (m.map (·.1)) && (Yh np).all (fun i => m[i]? == U (i, false)) && decide (np ≤ fn.ntmps) && decide (np ≤ m.length) && !(fn.name == "runtime.NumGoroutine") then U ⟨np, m.length, s, r⟩ else O
  |_,_=>O
 |none=>O
theorem compF_sound (htk:∀ t k,tk t=U k->N.tid k=t) (hfk:∀ f k,fk f=U k->N.fid k=f) (hΓ:Good P N Γ) (hmix:P.follows .mixedOrders=true) {f:FuncId} {fn:Func} (hf:P.funcs[f]?=U fn)
  {m:AR} {np:Nat} {F:SFun} (hF:compF P tk fk np m fn=U F) {args:List Value} {h:Heap} {K:Value->Heap->Prop} (hK:SF N Γ F args h K):FC P f args h K:=by
 unfold compF at hF;split at hF
 ·rename_i c hc;split at hF
  ·rename_i s r hs hr;split at hF<;>cases hF;rename_i hok;simp only[X6,decide_eq_true_eq,Yc,Zc,beq_iff_eq,YD]at hok;obtain⟨⟨⟨⟨h1,h2⟩,h3⟩,h4⟩,h5⟩:=hok;exact RJ hf h5 hc (Pr htk hfk hΓ hmix (HG _ h1) c s hs) hr rfl h2 h3 h4 hK
  ·cases hF
 ·cases hF
end Go.Cw
namespace Go.Cw
open Go
variable {P:Program} {N:Num} {tk fk:Nat->Option Nat} {Γ:Ctx}
def FR:Option Nat->Fence
 |none=>Fence.wide
 |some l=>Fence.wide.inRound l
theorem T8 (ro:Option Nat) (f:FuncId):(FR ro).fn f:=by cases ro<;>trivial
theorem Oa (ro:Option Nat):(FR ro).round=ro:=by cases ro<;>rfl
theorem Ob (ro:Option Nat):(FR ro).depth=O:=by cases ro<;>rfl
theorem T9 {ro:Option Nat} {n:Nat} {f:FuncId} {args:Array Value} {w:World} {R:Ending->World->Prop} (h:Calls P f args w R):CallsIn (FR ro) n P f args w R:=by
 cases ro with
 |none=>exact callsIn_wide.2 h
 |some l=>exact(callsIn_wide (n:=n)).2 h
theorem U5 {ro:Option Nat} {n:Nat} {row:String} {args:Array Value} {w:World} {R:Value->World->Prop} (h:Rows P row args w R):RowsIn (FR ro) n P row args w R:=by
 intro c cs _;obtain⟨v,w',h1,h2⟩:=h c cs;refine⟨v,w',h1,?_⟩;cases ro with
 |none=>exact stepsIn_wide.2 h2
 |some l=>exact stepsIn_wide.2 h2
def nd (o:Oper):Bool:=match o.op with
 |.defer _=>false
 |_=>true
theorem VU {o:Oper} (h:nd o=true) (ro:Option Nat) (ρ:Operand->Value):o.semAt ro ρ=execOp ρ o:=by
 cases ro with
 |none=>rfl
 |some l=>
  refine Oper.semAt_some l ρ o λc hc=>?_;simp[nd,hc]at h
def Dd (ds:List Deferred) (a:Act):Act:={ a with defers:=ds }
theorem FA (ds:List Deferred) (a:Act) (d:Option Tmp) (v:Value):(Dd ds a).put d v=Dd ds (a.put d v):=by cases d<;>rfl
theorem JK (ds:List Deferred) (a:Act):(Dd ds a).eval=a.eval:=rfl
theorem Cy (a:Act) (d:Option Tmp) (v:Value):(a.put d v).defers=a.defers:=by cases d<;>rfl
theorem Pw {f:FuncId} {args:Array Value} {w:World} {R:Ending->World->Prop} (h:Calls P f args w R):∃ e w',R e w':=by
 obtain⟨e,w',_,h1,_⟩:=h [];exact⟨e,w',h1⟩
theorem QM {row:String} {args:Array Value} {w:World} {R:Value->World->Prop} (h:Rows P row args w R):∃ v w',R v w':=by
 obtain⟨v,w',h1,_⟩:=h default [];exact⟨v,w',h1⟩
theorem PV {o:Oper} {a:Act} {w:World} {K:Act->World->Prop} {Q:Exit->Act->World->Prop} (hQ:∀ e a w,Q e a w->e=.normal/\a.defers=[]) (hK:∀ a w,K a w->a.defers=[]) (h:o.wp P a w K Q):a.defers=[]:=by
 unfold Oper.wp at h;generalize (execOp a.eval o).run P w=r at h;cases r with
 |ok n w'=>
  cases n<;>simp only[Oper.upon]at h
  case value v=>have:=hK _ _ h;rwa [Cy]at this
  case skip=>have:=hK _ _ h;rwa [Cy]at this
  case defer d=>have:=hK _ _ h;rw[Cy]at this;cases this
  case enter f args=>
   obtain⟨e,w'',he⟩:=Pw h;cases e with
   |returned v=>have:=hK _ _ he;rwa [Cy]at this
   |panicked c=>have:=(hQ _ _ _ he).1;cases this
   |outgrown=>obtain⟨a0,w0,h0⟩:=he;have:=(hQ _ _ _ h0).1;cases this
  case row row args=>
   obtain⟨v,w'',he⟩:=QM h;have:=hK _ _ he;rwa [Cy]at this
 |halt x w'=>
  cases x<;>simp only[Oper.upon]at h
  case panic v=>have:=(hQ _ _ _ h).1;cases this
theorem PJ {ops:Array Oper} {i:Nat} {a:Act} {w:World} {K:Act->World->Prop} {Q:Exit->Act->World->Prop} (hQ:∀ e a w,Q e a w->e=.normal/\a.defers=[]) (hK:∀ a w,K a w->a.defers=[]) (h:wpOp P ops Q i K a w):a.defers=[]:=by
 unfold wpOp at h;split at h
 ·exact hK _ _ h
 ·split at h
  ·rcases h with h|⟨_,a0,w0,h0⟩
   ·exact PV hQ hK h
   ·have:=(hQ _ _ _ h0).1;cases this
  ·have:=hK _ _ h;rwa [Cy]at this
theorem Sq {ops:Array Oper} {Q:Exit->Act->World->Prop} (hQ:∀ e a w,Q e a w->e=.normal/\a.defers=[]):∀ (l:List Nat) {a:Act} {w:World},wpOps P ops Q l a w->a.defers=[]:=by
 intro l;induction l with
 |nil=>intro a w h;exact(hQ _ _ _ h).2
 |cons i l ih=>intro a w h;rw[wpOps_cons]at h;exact PJ hQ (λa w h=>ih h) h
theorem Su {md:Region.Mode} {ops:Array Oper} {Q:Exit->Act->World->Prop} (hQ:∀ e a w,Q e a w->e=.normal/\a.defers=[]):∀ (fuel:Nat) {listed:Array Bool} {a:Act} {w:World},wpAny P md ops Q fuel listed a w->a.defers=[]:=by
 intro fuel;induction fuel with
 |zero=>intro listed a w h;exact(hQ _ _ _ h.2).2
 |succ fuel ih=>
  intro listed a w h;cases hr:Region.ready md ops listed with
  |nil=>exact(hQ _ _ _ (h.1 hr)).2
  |cons i r=>exact PJ hQ (λa w h=>ih h) (h.2 i (by rw[hr];simp))
theorem UB {ro:Option Nat} {ds:List Deferred} {o:Oper} (hn:nd o=true) {a:Act} {w:World} {K K':Act->World->Prop} {Q Q':Exit->Act->World->Prop} (hQ:∀ e a w,Q e a w->e=.normal/\a.defers=[]) (hKd:∀ a w,K a w->a.defers=[])
  (hK:∀ a w,K a w->K' (Dd ds a) w) (h:o.wp P a w K Q):o.wpIn (FR ro) 0 P (Dd ds a) w K' Q':=by
 have had:=PV hQ hKd h;refine⟨λf _=>T8 ro f,?_⟩;unfold Oper.wp at h;rw[Oa,VU hn,JK];generalize hr:(execOp a.eval o).run P w=r at h ⊢;have hdep:∀ {p:Prop},p->((FR ro).depth.isSome=true->1<=0)/\p:=λhp=>⟨λh=>(by rw[Ob]at h;cases h),hp⟩
 cases r with
 |ok n w'=>
  cases n<;>simp only[Oper.upon]at h<;>simp only[Oper.uponIn]
  case value v=>rw[FA];exact hK _ _ h
  case skip=>rw[FA];exact hK _ _ h
  case defer d=>have:=hKd _ _ h;rw[Cy]at this;cases this
  case enter f args=>
   refine hdep (T9 (h.mono λe w'' he=>?_));cases e with
   |returned v=>show K' ((Dd ds a).put o.dst v) w'';rw[FA];exact hK _ _ he
   |panicked c=>have:=(hQ _ _ _ he).1;cases this
   |outgrown=>obtain⟨a0,w0,h0⟩:=he;have:=(hQ _ _ _ h0).1;cases this
  case row row args=>
   refine hdep (U5 (h.mono λv w'' he=>?_));rw[FA];exact hK _ _ he
 |halt x w'=>
  cases x<;>simp only[Oper.upon]at h
  case panic v=>have:=(hQ _ _ _ h).1;cases this
theorem PIx {ro:Option Nat} {ds:List Deferred} {ops:Array Oper} (hn:ops.all nd=true) {i:Nat} {a:Act} {w:World} {K K':Act->World->Prop} {Q Q':Exit->Act->World->Prop} (hQ:∀ e a w,Q e a w->e=.normal/\a.defers=[]) (hKd:∀ a w,K a w->a.defers=[])
  (hK:∀ a w,K a w->K' (Dd ds a) w) (h:wpOp P ops Q i K a w):wpOpIn (FR ro) 0 P ops Q' i K' (Dd ds a) w:=by
 unfold wpOp at h;unfold wpOpIn;split at h
 ·rename_i ho;simp only[ho];exact hK _ _ h
 ·rename_i o ho;simp only[ho];have hno:nd o=true:=by
   obtain⟨hi,rfl⟩:=X1.1 ho;exact Array.all_eq_true.1 hn i hi
  split at h
  ·rename_i hw;have:Region.wanted o (yielded ops (Dd ds a).tmps)=true:=hw;rw[if_pos this];rcases h with h|⟨_,a0,w0,h0⟩
   ·exact UB hno hQ hKd hK h
   ·have:=(hQ _ _ _ h0).1;cases this
  ·rename_i hw;have:¬ Region.wanted o (yielded ops (Dd ds a).tmps)=true:=hw;rw[if_neg this];exact⟨λf _=>T8 ro f,by rw[FA];exact hK _ _ h⟩
theorem MG {ro:Option Nat} {ds:List Deferred} {ops:Array Oper} (hn:ops.all nd=true) {Q Q':Exit->Act->World->Prop} (hQ:∀ e a w,Q e a w->e=.normal/\a.defers=[]) (hQQ:∀ a w,Q .normal a w->Q' .normal (Dd ds a) w) :
  ∀ (l:List Nat) {a:Act} {w:World},wpOps P ops Q l a w->wpOpsIn (FR ro) 0 P ops Q' l (Dd ds a) w:=by
 intro l;induction l with
 |nil=>intro a w h;exact hQQ _ _ h
 |cons i l ih=>
  intro a w h;rw[wpOps_cons]at h;rw[wpOpsIn_cons];exact PIx hn hQ (λa w h=>Sq hQ l h) (λa w h=>ih h) h
theorem Ss {ro:Option Nat} {ds:List Deferred} {ops:Array Oper} (hn:ops.all nd=true) {Q Q':Exit->Act->World->Prop} (hQ:∀ e a w,Q e a w->e=.normal/\a.defers=[]) (hQQ:∀ a w,Q .normal a w->Q' .normal (Dd ds a) w) :
  ∀ (fuel:Nat) {listed:Array Bool} {a:Act} {w:World},wpAny P .any ops Q fuel listed a w->wpAnyIn (FR ro) 0 P .any ops Q' fuel listed (Dd ds a) w:=by
 intro fuel;induction fuel with
 |zero=>intro listed a w h;exact⟨h.1,hQQ _ _ h.2⟩
 |succ fuel ih=>
  intro listed a w h;exact⟨λhr=>hQQ _ _ (h.1 hr),λi hi=>PIx hn hQ (λa w h=>Su hQ fuel h) (λa w h=>ih h) (h.2 i hi)⟩
end Go.Cw
namespace Go.Cw
open Go
variable {P:Program} {N:Num} {tk fk:Nat->Option Nat} {Γ:Ctx}
def Rj:Nat->Option Nat:=λ_=>O
def ES (m:AR):Bool:=m.all λx=>!x.2
abbrev PR (m:AR) (nt:Nat) (env:At) (h:Heap) (a:Act) (w:World):Prop:=Hn m nt h w Rj env h a w
def Ic (Ds:List Nat):List Deferred:=Ds.map λD=>{ target:=.collected D,args:=#[] }
def U8 (B:Nat) (Ds:List Nat) (h:Heap) (w:World):Prop:=Ds.Nodup/\∀ D∈Ds,B<=D/\w.heap[D]?=U (.deferred (U []))/\h D=O
theorem U8.step {B:Nat} {Ds:List Nat} {h h':Heap} {w w':World} (hm:U8 B Ds h w) (hs:Aw h h' w w'):U8 B Ds h' w':=by
 refine⟨hm.1,λD hD=>?_⟩;obtain⟨h1,h2,h3⟩:=hm.2 D hD;have hlt:=(X1.1 h2).1;obtain⟨h4,h5⟩:=hs.frame D hlt h3;exact⟨h1,by rw[h5];exact h2,h4⟩
theorem Fe {m:AR} (hp:ES m=true) {i s:Nat}:m[i]?≠U (s,true):=by
 intro h;have:=List.mem_of_getElem? h;simp only[ES,Yc]at hp;have:=hp _ this;simp at this
theorem UD {m:AR} (hp:ES m=true) {nt:Nat} {h0:Heap} {w0:World} {pb:Nat->Option Nat} {env:At} {h:Heap} {a:Act} {w:World} (hr:Hn m nt h0 w0 pb env h a w):pb=Rj:=by
 funext i;cases hb:pb i with
 |none=>rfl
 |some b=>obtain⟨s,h1,_⟩:=hr.pbm i b hb;exact absurd h1 (Fe hp)
theorem Hn.again {m:AR} (hp:ES m=true) {nt:Nat} {h0:Heap} {w0:World} {pb:Nat->Option Nat} {env:At} {h:Heap} {a:Act} {w:World} (hr:Hn m nt h0 w0 pb env h a w):PR m nt env h a w:=by
 have:=UD hp hr;subst this;exact⟨hr.elen,hr.plain,hr.prom,hr.priv,(λi b hb=>by cases hb),hr.inj,Aw.refl hr.step.sub,hr.nt,hr.df⟩
theorem PR.at{m:AR} {nt:Nat} {env:At} {h h':Heap} {a:Act} {w w':World} (hr:PR m nt env h a w) (hs:h'.sub w'):PR m nt env h' a w':=
 ⟨hr.elen,hr.plain,hr.prom,(λi b hb=>by cases hb),(λi b hb=>by cases hb),hr.inj,Aw.refl hs,hr.nt,hr.df⟩
def B4 (P:Program) (N:Num) (Γ:Ctx) (m:AR) (nt:Nat) (ro:Option Nat) (s:St) (c:Code):Prop:=
 ∀ (B:Nat) (Q:SE->At->Heap->Prop) (Q':Exit->Act->World->Prop) (Ds:List Nat) (env:At) (h:Heap) (a:Act) (w:World),SW N Γ s Q env h->PR m nt env h a w->U8 B Ds h w->B<=w.heap.size ->
  (∀e env' h' a' w' Ds',Q e env' h'->PR m nt env' h' a' w'->Aw h h' w w'->U8 B Ds' h' w'->Q' (UP e) (Dd (Ic Ds') a') w')->c.wpIn (FR ro) 0 P Q' (Dd (Ic Ds) a) w
theorem W0 (htk:∀ t k,tk t=U k->N.tid k=t) (hfk:∀ f k,fk f=U k->N.fid k=f) (hΓ:Good P N Γ) {m:AR} {nt:Nat} (hnd:(m.map (·.1)).Nodup) (hp:ES m=true) {id:Nat} {ops:Array Oper} (hn:ops.all nd=true) {l:List Hi}
  (hl:DD P tk fk ops nt m [] (Yh ops.size)=U l) {ro:Option Nat}:B4 P N Γ m nt ro (.reg l) (.region id ops false):=by
 intro B Q Q' Ds env h a w hK hr hM hB hQ;have h1:=Gh htk hfk hΓ hnd (Q:=λe a' w'=>e=.normal/\a'.defers=[]/\∃ env' h',Q .normal env' h'/\PR m nt env' h' a' w'/\Aw h h' w w') (h0:=h) (w0:=w) (Yh ops.size) [] l Rj env h a w (Q .normal) hl hr (by simpa only[SW]using hK)
  (λpb env' h' a' w' hk hr'=>⟨rfl,hr'.df,env',h',hk,hr'.again hp,hr'.step⟩)
 rw[List.reverse_nil,YI]at h1;exact wpIn_region (MG hn (λe a w hq=>⟨hq.1,hq.2.1⟩) (λa' w' ⟨_,_,env',h',h2,h3,h4⟩=>hQ .normal _ _ _ _ Ds h2 h3 h4 (hM.step h4)) _ h1)
theorem VN (htk:∀ t k,tk t=U k->N.tid k=t) (hfk:∀ f k,fk f=U k->N.fid k=f) (hΓ:Good P N Γ) (hmix:P.follows .mixedOrders=true) {ops:Array Oper} {nt:Nat} {pt:PT} {m:AR} (hnd:(m.map (·.1)).Nodup) (hpl:ES m=true) (hn:ops.all nd=true)
  {id:Nat} {p:DP} {d:DS} (hd:I4 P tk fk ops nt m pt p=U d) {ro:Option Nat}:B4 P N Γ m nt ro (.dreg d) (.region id ops true):=by
 unfold I4 at hd;split at hd
 ·rename_i hok;simp only[X6]at hok;obtain⟨⟨⟨h1,h2⟩,h3⟩,h4⟩:=hok;intro B Q Q' Ds env h a w hK hr hM hB hQ;refine wpIn_region_any hmix ?_;have hr':Hn m nt h w Rj env h a { w with drawn:=w.drawn+1 }:=⟨hr.elen,hr.plain,hr.prom,hr.priv,hr.pbm,hr.inj,⟨hr.step.sub,hr.step.size,hr.step.os,hr.step.tape,hr.step.output,hr.step.frame⟩,hr.nt,hr.df⟩
  have hl0:∀ i,i<ops.size->E9 (Array.replicate ops.size false) i=false:=by
   intro i hi;unfold E9;simp[Array.getD,hi]
  have hany:=KB htk hfk hΓ (a0:=λt=>a.tmps.getD t undef) h1 h2 h3 h4 hnd (h0:=h) (w0:=w) (K:=Q .normal) (Q:=λe a' w'=>e=.normal/\a'.defers=[]/\∃ env' h',Q .normal env' h'/\PR m nt env' h' a' w'/\Aw h h' w w')
   (λpb env' h' a' w' hk hr'=>⟨rfl,hr'.df,env',h',hk,hr'.again hpl,hr'.step⟩) ops.size p d [] (Array.replicate ops.size false) a { w with drawn:=w.drawn+1 } a (λ_=>undef) Rj env h [] hd ?_ hr' hK ?_
  ·exact Ss hn (λe a w hq=>⟨hq.1,hq.2.1⟩) (λa' w' ⟨_,_,env',h',h2,h3,h4⟩=>hQ .normal _ _ _ _ Ds h2 h3 h4 (hM.step h4)) _ hany
  ·refine⟨by simp,?_,?_,?_,YJ,?_,hr.nt,hr.df,?_,hr.nt,hr.df,hr'.step.sub,hr'.priv,by simp,by simp⟩
   ·intro i hi hl;rw[hl0 i hi]at hl;cases hl
   ·intro i hi hl;rw[hl0 i hi]at hl;cases hl
   ·intro p1 i p2 e;cases p1<;>cases e
   ·intro t;unfold tv;cases hw:Gy ops t with
    |none=>rfl
    |some i=>
     have hlt':i<ops.size:=by have:=Yo hw;simpa using this
     simp[hl0 i hlt']
   ·intro t;unfold tv;cases hw:Gy ops t with
    |none=>rfl
    |some i=>simp[KN]
  ·unfold left;have:=YT (p:=λi=>!E9 (Array.replicate ops.size false) i) (l:=Yh ops.size);simpa using this
 ·cases hd
theorem WX {m:AR} {nt:Nat} {ro:Option Nat} {s t:St} {c d:Code} (hs:B4 P N Γ m nt ro s c) (ht:B4 P N Γ m nt ro t d):B4 P N Γ m nt ro (.seq s t) (.seq c d):=by
 intro B Q Q' Ds env h a w hK hr hM hB hQ;simp only[SW]at hK;refine wpIn_seq (hs B _ _ Ds env h a w hK hr hM hB ?_);intro e env' h' a' w' Ds' hq hr' hst hM';cases e with
 |normal=>exact ht B Q Q' Ds' env' h' a' w' hq hr' hM' (YU hB hst.size) λe env2 h2 a2 w2 Ds2 hq2 hr2 hst2 hM2=>hQ e env2 h2 a2 w2 Ds2 hq2 hr2 (hst.trans hst2) hM2
 |exit id=>exact hQ (.exit id) env' h' a' w' Ds' hq hr' hst hM'
 |ret=>exact hQ .ret env' h' a' w' Ds' hq hr' hst hM'
theorem NJ {m:AR} {nt:Nat} {x:Operand} {e:Ex} (hx:HP m x=U e) {env:At} {h0 h h2:Heap} {a:Act} {w0 w:World} {pb:Nat->Option Nat} {b:Bool} (hr:Hn m nt h0 w0 pb env h a w) (hb:ev N env h2 e=U (.v (.bool b))):a.eval x=.bool b:=by
 unfold HP at hx;split at hx
 ·rename_i t';split at hx<;>cases hx;rename_i i hi;obtain⟨j,rfl,hj⟩:=Bt m 0 _ _ hi;simp only[ev,XZ]at hb;obtain⟨v,h3,h4⟩:=hb;cases h4;rw[Yn]at h3;exact hr.plain j t' hj _ h3
 ·cases hx;simp only[ev]at hb;cases hb;rfl
 ·cases hx
theorem VO {m:AR} {nt:Nat} {ro:Option Nat} {s t:St} {c d:Code} {x:Operand} {e:Ex} (hx:HP m x=U e) (hs:B4 P N Γ m nt ro s c) (ht:B4 P N Γ m nt ro t d):B4 P N Γ m nt ro (.cond e s t) (.cond x c d):=by
 intro B Q Q' Ds env h a w hK hr hM hB hQ;simp only[SW]at hK;obtain⟨b,hb,h1,h2⟩:=hK;have hev:(Dd (Ic Ds) a).eval x=.bool b:=by rw[JK];exact NJ hx hr hb
 cases b with
 |true=>exact wpIn_cond_true hev (hs B Q Q' Ds env h a w (h1 rfl) hr hM hB hQ)
 |false=>exact wpIn_cond_false hev (ht B Q Q' Ds env h a w (h2 rfl) hr hM hB hQ)
theorem UA {m:AR} {nt:Nat} {ro:Option Nat} {id:Nat} {s:St} {c:Code} (hs:B4 P N Γ m nt ro s c):B4 P N Γ m nt ro (.block id s) (.block id c):=by
 intro B Q Q' Ds env h a w hK hr hM hB hQ;simp only[SW]at hK;refine wpIn_block (hs B _ _ Ds env h a w hK hr hM hB ?_);intro e env' h' a' w' Ds' hq hr' hst hM';cases e with
 |normal=>exact hQ .normal env' h' a' w' Ds' hq hr' hst hM'
 |exit j=>
  simp only[UP,Exit.inBlock];split
  ·rename_i e;simp only[e,if_true]at hq;exact hQ .normal env' h' a' w' Ds' hq hr' hst hM'
  ·rename_i e;simp only[e,if_false]at hq;exact hQ (.exit j) env' h' a' w' Ds' hq hr' hst hM'
 |ret=>exact hQ .ret env' h' a' w' Ds' hq hr' hst hM'
theorem VL {m:AR} {nt:Nat} {ro:Option Nat} {s:St} {c:Code} (hs:B4 P N Γ m nt ro s c):B4 P N Γ m nt ro (.loop s) (.loop c):=by
 intro B Q Q' Ds env h a w hK hr hM hB hQ;simp only[SW]at hK;obtain⟨I,n,hI,hround⟩:=hK;refine wpIn_loop_ghost (λn a' w'=>∃ a1 Ds' env' h',a'=Dd (Ic Ds') a1/\I n env' h'/\PR m nt env' h' a1 w'/\U8 B Ds' h' w'/\Aw h h' w w') n ⟨a,Ds,env,h,rfl,hI,hr,hM,Aw.refl hr.step.sub⟩ ?_;rintro n a' w' ⟨a1,Ds1,env1,h1,rfl,hI1,hr1,hM1,hst1⟩;refine hs B _ _ Ds1 env1 h1 a1 w' (hround n env1 h1 hI1) hr1 hM1 (YU hB hst1.size) ?_;intro e env2 h2 a2 w2 Ds2 hq hr2 hst2 hM2;cases e with
 |normal=>obtain⟨n',hlt,hI'⟩:=hq;exact⟨n',hlt,a2,Ds2,env2,h2,rfl,hI',hr2,hM2,hst1.trans hst2⟩
 |exit id=>exact hQ (.exit id) env2 h2 a2 w2 Ds2 hq hr2 (hst1.trans hst2) hM2
 |ret=>exact hQ .ret env2 h2 a2 w2 Ds2 hq hr2 (hst1.trans hst2) hM2
theorem VM {m:AR} {nt:Nat} {ro:Option Nat} {id:Nat}:B4 P N Γ m nt ro (.exit id) (.exit id):=λ_ _ _ Ds _ _ _ _ hK hr hM _ hQ=>wpIn_exit (hQ (.exit id) _ _ _ _ Ds hK hr (Aw.refl hr.step.sub) hM)
theorem WZ {m:AR} {nt:Nat} {ro:Option Nat}:B4 P N Γ m nt ro .ret .ret:=λ_ _ _ Ds _ _ _ _ hK hr hM _ hQ=>wpIn_ret (hQ .ret _ _ _ _ Ds hK hr (Aw.refl hr.step.sub) hM)
theorem VK {m:AR} {nt:Nat} {ro:Option Nat}:B4 P N Γ m nt ro .skip .skip:=λ_ _ _ Ds _ _ _ _ hK hr hM _ hQ=>wpIn_skip (hQ .normal _ _ _ _ Ds hK hr (Aw.refl hr.step.sub) hM)
end Go.Cw
namespace Go.Cw
open Go Go.RowKit
variable {P:Program} {N:Num} {tk fk:Nat->Option Nat} {Γ:Ctx}
def ItOk (P:Program) (g off:Nat):Prop:=
 (∀args w,(callFunc g args).run P w=.ok (.enter g args) w) /\
 ∀ (l:Nat) (c a:Addr) (m:Nat) (es:Array MapEntry) (ck:Nat) (h:Heap) (w1:World) (J:List Nat->Heap->Prop) (Jx:World->Prop),
  h.cell c=U (.pointer (U a))->h.cell (a.add off)=U (.map (U m))->(∀e∈es.toList,e.born<ck)->h.sub w1->J [] h->(∀dn G,J dn G->G m=U (.map es ck)) ->
  (∀dn G W,∀e∈es.toList,J dn G->Aw h G w1 W->e.born∉dn->YieldAt Fence.wide 0 P l #[e.key] W λen W'=>
   (en=.returned (.bool true)/\∃ G',J (dn++[e.born]) G'/\Aw G G' W W')\/(en=.returned (.bool false)/\Jx W')) ->
  CallsIn Fence.wide 0 P g #[.func (.yield l) #[] #[],.pointer (U c)] w1 λen W'=>(∃v,en=.returned v)/\((∃G dn,J dn G/\Aw h G w1 W'/\∀ e∈es.toList,e.born∈dn)\/Jx W')
theorem Aw.put {h G:Heap} {w W:World} (hs:Aw h G w W) {l:Nat} (hg:G l=O) (hl:w.heap.size<=l) (o:Obj):Aw h G w (W.putObj l o):=by
 refine⟨λb o' hb=>?_,by simpa using hs.size,hs.os,hs.tape,hs.output,λb hb hn=>?_⟩
 ·have:b≠l:=by intro e;subst e;rw[hg]at hb;cases hb
  rw[Ye this];exact hs.sub b o' hb
 ·obtain⟨h1,h2⟩:=hs.frame b hb hn;have:b≠l:=by omega
  exact⟨h1,by rw[Ye this];exact h2⟩
theorem LX {G:Heap} {W:World} (hs:G.sub W) {l:Nat} (hg:G l=O) (o:Obj):G.sub (W.putObj l o):=by
 intro b o' hb;have:b≠l:=by intro e;subst e;rw[hg]at hb;cases hb
 rw[Ye this];exact hs b o' hb
def Mi:SE->Option Code
 |.normal=>O
 |.exit id=>U (.exit id)
 |.ret=>U .ret
theorem WY {m:AR} {nt:Nat} (hnd:(m.map (·.1)).Nodup) {k off i ip t p:Nat} {sa sb:St} {ca cb:Code} (hit:ItOk P (N.fid k) off) (hi:m[i]?=U (t,false)) (hip:m[ip]?=U (p,false)) (hpn:p<nt)
  (hsa:∀ l,B4 P N Γ m nt (U l) sa ca) (hsb:∀ l,B4 P N Γ m nt (U l) sb cb):B4 P N Γ m nt O (.rfn k off i ip sa sb) (.rangeFunc (.tmp t) #[p] ca cb):=by
 intro B Q Q' Ds env h a w hK hr hM hB hQ;obtain⟨c,ad,mp,es,ck,hf,hc1,hc2,hm,hes,J,hJ0,hJ⟩:=hK;obtain⟨hcf,hit⟩:=hit;have hs:=hr.step.sub;refine wpIn_rangeFunc (F:=FR O) ?_;intro fn hfn;rw[Oa];obtain⟨rec,hrec⟩:∃ rec:LoopState->Option Code->Loop,rec=λst pe=>{ state:=st,pending:=pe,fn,tmps:=a.tmps,params:=#[p],assign:=ca,body:=cb,defers:=w.heap.size }:=⟨_,rfl⟩
 obtain⟨W1,hW1⟩:∃ W1,(w.alloc (.deferred (U []))).alloc (.loop (rec .ready O))=W1:=⟨_,rfl⟩
 have hL1:W1.heap[w.heap.size+1]?=U (.loop (rec .ready O)):=by
  rw[<-hW1];have:=YS (w.alloc (.deferred (U []))) (.loop (rec .ready O));rwa [World.size_alloc]at this
 have hK1:W1.heap[w.heap.size]?=U (.deferred (U [])):=by
  rw[<-hW1];exact(Below.heap_alloc _ _ _ (by simp)).trans (YS w _)
 have hsz1:W1.heap.size=w.heap.size+2:=by rw[<-hW1];simp
 have hst1:Aw h h w W1:=by
  have a1:=Aw.push hs (.deferred (U []));refine⟨λb o hb=>?_,by omega,by rw[<-hW1];rfl,by rw[<-hW1];rfl,by rw[<-hW1];rfl,λb hb hn=>⟨hn,?_⟩⟩
  ·have h2:=hs b o hb;have hlt:=(X1.1 h2).1;rw[<-hW1,Below.heap_alloc _ _ _ (by simp;omega),Below.heap_alloc _ _ _ hlt];exact h2
  ·rw[<-hW1,Below.heap_alloc _ _ _ (by simp;omega),Below.heap_alloc _ _ _ hb]
 have hhl:h (w.heap.size+1)=O:=Heap.fresh hs (by omega);have hhd:h w.heap.size=O:=Heap.fresh hs (by omega);have hev:(Dd (Ic Ds) a).eval (.tmp t)=.func (.func (N.fid k)) #[] #[.pointer (U c)]:=hr.plain i t hi _ hf;refine⟨w.heap.size+1,[{ target:=.collected w.heap.size,args:=#[] }],W1,{ target:=.fn (.func (N.fid k)) #[.pointer (U c)],args:=#[.func (.yield (w.heap.size+1)) #[] #[]] },W1,N.fid k,
  #[.func (.yield (w.heap.size+1)) #[] #[],.pointer (U c)],W1,?_,?_,λf' _=>T8 O f',?_,λh=>(by rw[Ob]at h;cases h),?_⟩
 ·rw[<-hW1,hrec];exact run_enterLoop_outer _ _ _ _ _
 ·simp only[resolve,hev];simp[go_sem]
 ·simp[invoke,go_sem,hcf]
 ·refine(hit (w.heap.size+1) c ad mp es ck h W1 J (λW'=>∃ y G,y≠SE.normal/\Q y env G/\Aw h G w W'/\W'.heap[w.heap.size+1]?=U (.loop (rec .done (Mi y)))/\W'.heap[w.heap.size]?=U (.deferred (U []))/\G (w.heap.size+1)=O/\G w.heap.size=O)
   hc1 hc2 hes hst1.sub hJ0 (λdn G hj=>(hJ dn G hj).1) ?_).mono ?_
  ·intro dn G W e he hj hstG hnb;obtain⟨hGl,hWl⟩:=hstG.frame (w.heap.size+1) (by omega) hhl;obtain⟨hGd,hWd⟩:=hstG.frame w.heap.size (by omega) hhd;rw[hL1]at hWl;rw[hK1]at hWd;have hlt:w.heap.size+1<W.heap.size:=(X1.1 hWl).1;have hy:=run_yield (P:=P) (args:=#[e.key]) hWl (by rw[hrec];rfl);rw[hrec]at hy;have hz:(#[p].zip #[e.key])=#[(p,e.key)]:=by apply YF.1;simp
   have hy2:(Instr.yield (w.heap.size+1) #[e.key]).run P W=.ok (.round (w.heap.size+1) fn (a.tmps.setIfInBounds p e.key) ca cb) W:=by rw[hy];dsimp only;rw[hz];simp
   refine⟨fn,_,ca,cb,hy2,roundIn_of_wpIn (n:=0) trivial ?_⟩;clear hy hy2;have hpa:p<a.tmps.size:=by rw[hr.nt];exact hpn
   have hra:PR m nt (env.put ip e.key) G ({ tmps:=a.tmps.setIfInBounds p e.key,defers:=[] }:Act) W:=by
    refine⟨by rw[At.len_put];exact hr.elen,?_,?_,(λi b hb=>by cases hb),(λi b hb=>by cases hb),hr.inj,Aw.refl hstG.sub,by simpa using hr.nt,rfl⟩
    ·intro j s hj' v hv;by_cases e1:ip=j
     ·subst e1;rw[hip]at hj';cases hj';have hil:ip<env.length:=by rw[hr.elen];exact(Yk.1 hip).1
      rw[At.get_put_same hil]at hv;cases hv;simp[Array.getD,hpa]
     ·rw[At.get_put_other e1]at hv;have:p≠s:=by intro e2;subst e2;exact e1 (EA hnd hip hj').1
      rw[<-hr.plain j s hj' v hv];simp[X4,this]
    ·intro j s hj' v hv;by_cases e1:ip=j
     ·subst e1;rw[hip]at hj';cases hj'
     ·rw[At.get_put_other e1]at hv;have:p≠s:=by intro e2;subst e2;exact e1 (EA hnd hip hj').1
      obtain⟨b,hb,_⟩:=hr.prom j s hj' v hv;cases hb
   refine hsa (w.heap.size+1) B _ _ [] (env.put ip e.key) G _ W ((hJ dn G hj).2.2 e he hnb) hra ⟨YJ,λD hD=>by cases hD⟩ (by omega) ?_;rintro x env1 G1 a1 W2 Ds1 hx hr1 hst2 hM1;cases x with
   |exit id=>exact hx.elim
   |ret=>exact hx.elim
   |normal=>
    obtain⟨hG1l,hW2l⟩:=hst2.frame (w.heap.size+1) hlt hGl;rw[hWl]at hW2l;have hlt2:=(X1.1 hW2l).1;refine⟨_,run_beginRound hW2l (by rw[hrec]),?_⟩;obtain⟨W3,hW3⟩:∃ W3,W2.putObj (w.heap.size+1) (.loop { rec .ready O with state:=.busy })=W3:=⟨_,rfl⟩
    rw[hW3];have hl3:W3.heap[w.heap.size+1]?=U (.loop { rec .ready O with state:=.busy }):=by rw[<-hW3];exact YG hlt2
    have hsz3:W3.heap.size=W2.heap.size:=by rw[<-hW3];simp
    have hsub3:G1.sub W3:=by rw[<-hW3];exact LX hr1.step.sub hG1l _
    have hM3:U8 B Ds1 G1 W3:=by
     refine⟨hM1.1,λD hD=>?_⟩;obtain⟨b1,b2,b3⟩:=hM1.2 D hD;have:D≠w.heap.size+1:=by intro e1;subst e1;rw[hW2l]at b2;cases b2
     exact⟨b1,by rw[<-hW3,Ye this];exact b2,b3⟩
    refine hsb (w.heap.size+1) B _ _ Ds1 env1 G1 a1 W3 hx (hr1.at hsub3) hM3 (by have:=hst2.size;have:=hstG.size;omega) ?_;rintro y env2 G2 a2 W4 Ds2 hy hr2 hst3 hM2;obtain⟨hG2l,hW4l⟩:=hst3.frame (w.heap.size+1) (by omega) hG1l;rw[hl3]at hW4l;have hlt4:=(X1.1 hW4l).1;have hend:=λjump=>run_endRound (P:=P) jump hW4l;have hchain:∀ o,(∀b,b<W.heap.size->G b=O->b≠w.heap.size+1->G2 b=O/\(W4.putObj (w.heap.size+1) o).heap[b]?=W.heap[b]?):=by
     intro o b hb hn hne;obtain⟨k1,k2⟩:=hst2.frame b hb hn;have hb2:b<W3.heap.size:=by rw[hsz3];have:=hst2.size;omega
     obtain⟨k3,k4⟩:=hst3.frame b hb2 k1;refine⟨k3,?_⟩;rw[Ye hne,k4,<-hW3,Ye hne,k2]
    have hsub4:∀ o,G2.sub (W4.putObj (w.heap.size+1) o):=λo=>LX hst3.sub hG2l o;have hsize4:W.heap.size<=W4.heap.size:=by have:=hst2.size;have:=hst3.size;omega
    have hos:W4.os=W.os/\W4.tape=W.tape/\W4.output=W.output:=by
     refine⟨hst3.os.trans ?_,hst3.tape.trans ?_,hst3.output.trans ?_⟩
     ·rw[<-hW3];exact hst2.os
     ·rw[<-hW3];exact hst2.tape
     ·rw[<-hW3];exact hst2.output
    have hleave:y≠.normal->Q y env G2->∀ cc,Mi y=U cc->∃ v w',(Instr.endRound (w.heap.size+1) (U cc)).run P W4=.ok v w' /\
      ((Ending.returned v=.returned (.bool true)/\∃ G',J (dn++[e.born]) G'/\Aw G G' W w')\/(Ending.returned v=.returned (.bool false) /\
       ∃ y G,y≠SE.normal/\Q y env G/\Aw h G w w'/\w'.heap[w.heap.size+1]?=U (.loop (rec .done (Mi y)))/\w'.heap[w.heap.size]?=U (.deferred (U []))/\G (w.heap.size+1)=O/\G w.heap.size=O)):=by
     intro hyn hq cc hcc;refine⟨_,_,hend (U cc),.inr ⟨rfl,y,G2,hyn,hq,⟨hsub4 _,?_,?_,?_,?_,?_⟩,?_,?_,hG2l,?_⟩⟩
     ·have:=hstG.size;simp;omega
     ·exact hos.1.trans (hstG.os.trans hst1.os)
     ·exact hos.2.1.trans (hstG.tape.trans hst1.tape)
     ·exact hos.2.2.trans (hstG.output.trans hst1.output)
     ·intro b hb hn;obtain⟨k1,k2⟩:=hst1.frame b hb hn;obtain⟨k3,k4⟩:=hstG.frame b (by omega) k1;obtain⟨k5,k6⟩:=hchain (.loop { { rec .ready O with state:=.busy } with state:=if(U cc:Option Code).isNone then .ready else .done,pending:=U cc }) b (by have:=hstG.size;omega) k3 (by omega);exact⟨k5,k6.trans (k4.trans k2)⟩
     ·rw[YG hlt4,hcc,hrec];rfl
     ·rw[(hchain _ w.heap.size (by omega) hGd (by omega)).2];exact hWd
     ·exact(hchain (.loop (rec .ready O)) w.heap.size (by omega) hGd (by omega)).1
    cases y with
    |normal=>
     refine⟨_,_,hend O,.inl ⟨rfl,G2,hy,⟨hsub4 _,by simp;omega,hos.1,hos.2.1,hos.2.2,?_⟩⟩⟩;intro b hb hn;by_cases hne:b=w.heap.size+1
     ·subst hne;refine⟨hG2l,?_⟩;rw[YG hlt4,hWl,hrec];rfl
     ·exact hchain _ b hb hn hne
    |exit id=>exact hleave (by simp) hy _ rfl
    |ret=>exact hleave (by simp) hy _ rfl
  ·rintro en W' ⟨⟨v,rfl⟩,hfin⟩;rcases hfin with⟨G,dn,hj,hstG,hall⟩|⟨y,G,hyn,hq,hstG,hl,hd,hGl,hGd⟩
   ·obtain⟨hGl,hWl⟩:=hstG.frame (w.heap.size+1) (by omega) hhl;obtain⟨hGd,hWd⟩:=hstG.frame w.heap.size (by omega) hhd;rw[hL1]at hWl;rw[hK1]at hWd;obtain⟨oo,hend⟩:∃ oo,(Instr.endLoop (w.heap.size+1)).run P W'=.ok O (W'.putObj (w.heap.size+1) oo):=⟨_,by rw[run_endLoop hWl (by rw[hrec];simp)];subst hrec;rfl⟩
    refine⟨_,_,hend,?_⟩;have hst:=(hst1.trans hstG).put hGl (by omega) oo;refine hQ .normal env G a _ (w.heap.size::Ds) ((hJ dn G hj).2.1 hall) (hr.at hst.sub) hst ?_;have hM':=hM.step hst;refine⟨Yr.2 ⟨λhD=>?_,hM.1⟩,λD hD=>?_⟩
    ·have:=(X1.1 (hM.2 _ hD).2.1).1;omega
    ·simp only[X5]at hD;rcases hD with rfl|hD
     ·exact⟨hB,by rw[Ye (by omega)];exact hWd,hGd⟩
     ·exact hM'.2 D hD
   ·obtain⟨oo,hend⟩:∃ oo,(Instr.endLoop (w.heap.size+1)).run P W'=.ok (Mi y) (W'.putObj (w.heap.size+1) oo):=⟨_,by rw[run_endLoop hl (by rw[hrec];simp)];subst hrec;rfl⟩
    have hst:=hstG.put hGl (by omega) oo;have hM':=hM.step hst;have hMk:U8 B (w.heap.size::Ds) G (W'.putObj (w.heap.size+1) oo):=by
     refine⟨Yr.2 ⟨λhD=>?_,hM.1⟩,λD hD=>?_⟩
     ·have:=(X1.1 (hM.2 _ hD).2.1).1;omega
     ·simp only[X5]at hD;rcases hD with rfl|hD
      ·exact⟨hB,by rw[Ye (by omega)];exact hd,hGd⟩
      ·exact hM'.2 D hD
    have hres:=hQ y env G a _ (w.heap.size::Ds) hq (hr.at hst.sub) hst hMk;refine⟨_,_,hend,?_⟩;cases y with
    |normal=>exact absurd rfl hyn
    |exit id=>exact wpIn_exit hres
    |ret=>exact wpIn_ret hres
end Go.Cw
