/- Part 0 of the proof of WatchSays: a small language for the program's functions, its soundness, and what the functions do. No conditions beyond the theorems' own. -/
import Derived.Deep.LoopGhost
import Derived.WalkKit
set_option linter.unusedSimpArgs false
set_option linter.unusedVariables false
set_option maxRecDepth 20000
/-
  The small language into which the functions of the given program are read, and what its pieces mean over what is known of memory.
  Nothing here names a program; the numbers of functions and of types stand behind the two lists of a numbering.
-/
namespace Go.Cw
open Go
abbrev Heap := Nat → Option Obj
namespace Heap
def sub (h : Heap) (w : World) : Prop := ∀ b o, h b = some o → w.heap[b]? = some o
def le (h h' : Heap) : Prop := ∀ b o, h b = some o → h' b = some o
def set (h : Heap) (b : Nat) (o : Obj) : Heap := fun x => if x = b then some o else h x
def cells (h : Heap) (b : Nat) : Option (Array Value) :=
 match h b with
 | some (.cells c _ _) => some c
 | _ => none
def cell (h : Heap) (a : Addr) : Option Value :=
 if a.spot.isSome then none else (h.cells a.block).bind fun c => c[a.off]?
def row (h : Heap) (a : Addr) (n : Nat) : Option (Array Value) :=
 if n = 0 then some #[] else if a.spot.isSome then none else (h.cells a.block).bind fun c => if a.off + n ≤ c.size then some (c.extract a.off (a.off + n)) else none
end Heap
structure Num where
 fid : Nat → Nat
 tid : Nat → Nat
inductive UV where
 | v (x : Value)
 | p (i : Nat) (off : Nat)
 deriving Inhabited
abbrev Env := List (Option Value)
namespace Env
def get (e : Env) (i : Nat) : Option Value := (e[i]?).join
def put (e : Env) (i : Nat) (v : Value) : Env := List.set e i (some v)
end Env
inductive Bk where
 | int | str | bool
 deriving DecidableEq, Repr, Inhabited
inductive EqC where
 | bool | ptr | iface | slice | map | flat (ks : List Bk)
 deriving DecidableEq, Repr, Inhabited
inductive O1 where
 | slen | llen | mlen
 | fadr (off : Nat)
 | ld | ldn (n : Nat)
 | nilck
 | not | neg
 | conv (k : IntKind)
 | ext (k : Nat)
 | fld (off : Nat) | fldn (off n : Nat)
 | iface (t : Nat)
 | b2s
 | tas (t : Nat) (zero : Value)
 | inv
 deriving Inhabited
inductive O2 where
 | bin (op : BinOp)
 | eqv (c : EqC) (neg : Bool)
 | iadr (size : Nat)
 | aadr (len size : Nat)
 | sidx
 | vidx (len : Nat)
 | vidxn (len size : Nat)
 | lkp (kb : Bk) (zero : Value) | lkpo (kb : Bk) (zero : Value)
 | max | min
 | bput (off n : Nat)
 | capp
 deriving Inhabited
inductive O3 where
 | ssl
 | lsl (size : Nat)
 deriving Inhabited
inductive Ex where
 | var (i : Nat)
 | pad (i : Nat)
 | con (x : Value)
 | mkf (f : Nat)
 | o1 (o : O1) (a : Ex)
 | o2 (o : O2) (a b : Ex)
 | o3 (o : O3) (a b c : Ex)
 | pick (c a b : Ex)
 | cnt (i : Nat)
 | upd (base : Ex) (i n : Nat) (a v : Ex)
 deriving Inhabited
def shiftV (op : BinOp) (k : IntKind) (x y : Int) : Option Value :=
 if y < 0 then none else
 match op with
 | .shl => some (.int k (k.wrap (x * 2 ^ (Nat.min y.toNat k.bits))))
 | .shr => some (.int k (x.fdiv (2 ^ (Nat.min y.toNat k.bits))))
 | _ => none
def intV (op : BinOp) (k : IntKind) (x y : Int) : Option Value :=
 match op with
 | .add => some (.int k (k.wrap (x + y)))
 | .sub => some (.int k (k.wrap (x - y)))
 | .mul => some (.int k (k.wrap (x * y)))
 | .quo => if y = 0 then none else some (.int k (k.wrap (x.tdiv y)))
 | .rem => if y = 0 then none else some (.int k (x.tmod y))
 | .and => some (.int k (k.wrap (BitVec.ofInt k.bits x &&& BitVec.ofInt k.bits y).toNat))
 | .or => some (.int k (k.wrap (BitVec.ofInt k.bits x ||| BitVec.ofInt k.bits y).toNat))
 | .xor => some (.int k (k.wrap (BitVec.ofInt k.bits x ^^^ BitVec.ofInt k.bits y).toNat))
 | .eql => some (.bool (x == y))
 | .neq => some (.bool (x != y))
 | .lss => some (.bool (decide (x < y)))
 | .leq => some (.bool (decide (x ≤ y)))
 | .gtr => some (.bool (decide (x > y)))
 | .geq => some (.bool (decide (x ≥ y)))
 | _ => none
def strV (op : BinOp) (x y : ByteArray) : Option Value :=
 match op with
 | .add => if x.size + y.size ≤ 9223372036854775807 then some (.string (x ++ y)) else none
 | .eql => some (.bool (x.toList == y.toList))
 | .neq => some (.bool (!(x.toList == y.toList)))
 | .lss => some (.bool (Op.bytesLess x.toList y.toList))
 | .leq => some (.bool (Op.bytesLess x.toList y.toList || x.toList == y.toList))
 | .gtr => some (.bool (!(Op.bytesLess x.toList y.toList || x.toList == y.toList)))
 | .geq => some (.bool (!Op.bytesLess x.toList y.toList))
 | _ => none
def binV (op : BinOp) : Value → Value → Option Value
 | .int k a, .int k' b =>
  match op with
  | .shl => shiftV .shl k a b
  | .shr => shiftV .shr k a b
  | _ => if k = k' then intV op k a b else none
 | .string a, .string b => strV op a b
 | _, _ => none
theorem ba_beq (a b : ByteArray) : (a == b) = (a.data == b.data) := by
 cases a; cases b; rfl
theorem ba_eq {a b : ByteArray} (h : (a == b) = true) : a = b := by
 rw [ba_beq] at h
 cases a; cases b
 simp at h; subst h; rfl
theorem ba_refl (a : ByteArray) : (a == a) = true := by
 rw [ba_beq]; simp
def cellEq : Bk → Value → Value → Option Bool
 | .int, .int k a, .int k' b => if k = k' then some (a == b) else none
 | .str, .string a, .string b => some (a == b)
 | .bool, .bool a, .bool b => some (a == b)
 | _, _, _ => none
def cellsEq : List Bk → List Value → List Value → Option Bool
 | [], [], [] => some true
 | k :: ks, x :: xs, y :: ys =>
  match cellEq k x y with
  | some true => cellsEq ks xs ys
  | some false => some false
  | none => none
 | _, _, _ => none
def eqV (c : EqC) : Value → Value → Option Bool
 | .bool a, .bool b => if c = .bool then some (a == b) else none
 | .pointer none, .pointer b => if c = .ptr then some b.isNone else none
 | .pointer _, .pointer none => if c = .ptr then some false else none
 | .nilIface, .nilIface => if c = .iface then some true else none
 | .nilIface, .iface _ _ => if c = .iface then some false else none
 | .iface _ _, .nilIface => if c = .iface then some false else none
 | .slice none _ _, .slice b _ _ => if c = .slice then some b.isNone else none
 | .slice _ _ _, .slice none _ _ => if c = .slice then some false else none
 | .map none, .map b => if c = .map then some b.isNone else none
 | .map _, .map none => if c = .map then some false else none
 | .agg xs, .agg ys =>
  match c with
  | .flat ks => cellsEq ks xs.toList ys.toList
  | _ => none
 | _, _ => none
def findE (kb : Bk) (k : Value) : List MapEntry → Nat → Option (Option (Nat × Value))
 | [], _ => some none
 | e :: es, i =>
  match cellEq kb k e.key with
  | some true => some (some (i, e.val))
  | some false => findE kb k es (i + 1)
  | none => none
def entriesOf (h : Heap) : Value → Option (List MapEntry)
 | .map none => some []
 | .map (some r) =>
  match h r with
  | some (.map es _) => some es.toList
  | _ => none
 | _ => none
def bytesOfCells : List Value → Option (List UInt8)
 | [] => some []
 | .int .u8 n :: r => (bytesOfCells r).map (UInt8.ofNat n.toNat :: ·)
 | _ => none
def o1V (N : Num) (env : Env) (h : Heap) (o : O1) (u : UV) : Option UV :=
 match u with
 | .p i off =>
  match o with
  | .fadr d => some (.p i (off + d))
  | .nilck => some (.p i off)
  | .ld =>
   match env.get i with
   | some (.agg c) => (c[off]?).map .v
   | _ => none
  | .ldn n =>
   match env.get i with
   | some (.agg c) => if off + n ≤ c.size then some (.v (.agg (c.extract off (off + n)))) else none
   | _ => none
  | _ => none
 | .v x =>
  match o, x with
  | .slen, .string s => some (.v (.int .i64 s.size))
  | .llen, .slice _ n _ => some (.v (.int .i64 n))
  | .mlen, x => (entriesOf h x).map fun es => .v (.int .i64 es.length)
  | .fadr d, .pointer (some a) => some (.v (.pointer (some (a.add d))))
  | .ld, .pointer (some a) => (h.cell a).map .v
  | .ldn n, .pointer (some a) => (h.row a n).map fun c => .v (.agg c)
  | .nilck, .pointer (some a) => some (.v (.pointer (some a)))
  | .nilck, .func (.func f) a b => some (.v (.func (.func f) a b))
  | .not, .bool b => some (.v (.bool (!b)))
  | .neg, .int k n => some (.v (.int k (k.wrap (0 - n))))
  | .conv k, .int _ n => some (.v (.int k (k.wrap n)))
  | .ext k, .tuple vs => (vs[k]?).map .v
  | .fld off, .agg c => (c[off]?).map .v
  | .fldn off n, .agg c => some (.v (.agg (c.extract off (off + n))))
  | .iface t, x => some (.v (.iface (N.tid t) x))
  | .b2s, .slice none _ _ => some (.v (.string .empty))
  | .b2s, .slice (some a) n _ => (h.row a n).bind fun c => (bytesOfCells c.toList).map fun l => .v (.string ⟨l.toArray⟩)
  | .tas t z, .iface u y => if u = N.tid t then some (.v (.tuple #[y, .bool true])) else some (.v (.tuple #[z, .bool false]))
  | .tas _ z, .nilIface => some (.v (.tuple #[z, .bool false]))
  | .inv, .int k n => some (.v (.int k (k.wrap (BitVec.ofInt k.bits (if k.signed then -1 else k.max) ^^^ BitVec.ofInt k.bits n).toNat)))
  | _, _ => none
def putL (c : Array Value) (off : Nat) : List Value → Array Value
 | [] => c
 | v :: r => putL (c.setIfInBounds off v) (off + 1) r
def one : Value → Bool
 | .agg _ | .tuple _ => false
 | _ => true
def inBounds (i : Int) (n : Nat) : Bool := decide (0 ≤ i) && decide (i < (n : Int))
def o2V (h : Heap) (o : O2) (a b : UV) : Option UV :=
 match a, b with
 | .p i off, .v (.int _ n) =>
  match o with
  | .aadr len size => if inBounds n len then some (.p i (off + n.toNat * size)) else none
  | _ => none
 | .v x, .v y =>
  match o, x, y with
  | .bin op, x, y => (binV op x y).map .v
  | .eqv c neg, x, y => (eqV c x y).map fun b => .v (.bool (if neg then !b else b))
  | .iadr size, .slice (some a) len _, .int _ n => if inBounds n len then some (.v (.pointer (some (a.add (n.toNat * size))))) else none
  | .aadr len size, .pointer (some a), .int _ n => if inBounds n len then some (.v (.pointer (some (a.add (n.toNat * size))))) else none
  | .sidx, .string s, .int _ n => if inBounds n s.size then some (.v (.int .u8 (s.data.getD n.toNat 0).toNat)) else none
  | .vidx len, .agg c, .int _ n => if inBounds n len then (c[n.toNat]?).map .v else none
  | .vidxn len size, .agg c, .int _ n => if inBounds n len then some (.v (.agg (c.extract (n.toNat * size) (n.toNat * size + size)))) else none
  | .lkp kb zero, m, k => (entriesOf h m).bind fun es => (findE kb k es 0).map fun r => .v (match r with | some (_, v) => v | none => zero)
  | .lkpo kb zero, m, k => (entriesOf h m).bind fun es => (findE kb k es 0).map fun r => .v (match r with | some (_, v) => .tuple #[v, .bool true] | none => .tuple #[zero, .bool false])
  | .max, .int k a, .int _ b => some (.v (.int k (if b > a then b else a)))
  | .min, .int k a, .int _ b => some (.v (.int k (if b < a then b else a)))
  | .bput off n, .agg c, y => if y.cells.size = n ∧ off + n ≤ c.size then some (.v (.agg (putL c off y.cells.toList))) else none
  | .capp, .func fn first cs, y => some (.v (.func fn first (cs.push y)))
  | _, _, _ => none
 | _, _ => none
def o3V (o : O3) (a b c : UV) : Option UV :=
 match o, a, b, c with
 | .ssl, .v (.string s), .v (.int _ lo), .v (.int _ hi) =>
  if 0 ≤ lo ∧ lo ≤ hi ∧ hi ≤ (s.size : Int) then some (.v (.string (s.extract lo.toNat hi.toNat))) else none
 | .lsl size, .v (.slice a _ cap), .v (.int _ lo), .v (.int _ hi) =>
  if 0 ≤ lo ∧ lo ≤ hi ∧ hi ≤ (cap : Int) then some (.v (.slice (if cap = lo.toNat then a else a.map (·.add (lo.toNat * size))) (hi.toNat - lo.toNat) (cap - lo.toNat))) else none
 | _, _, _, _ => none
def ev (N : Num) (env : Env) (h : Heap) : Ex → Option UV
 | .var i => (env.get i).map .v
 | .pad i => (env.get i).map fun _ => .p i 0
 | .con x => some (.v x)
 | .mkf f => some (.v (.func (.func (N.fid f)) #[] #[]))
 | .o1 o a => (ev N env h a).bind (o1V N env h o)
 | .o2 o a b => (ev N env h a).bind fun x => (ev N env h b).bind fun y => o2V h o x y
 | .o3 o a b c => (ev N env h a).bind fun x => (ev N env h b).bind fun y => (ev N env h c).bind fun z => o3V o x y z
 | .pick c a b =>
  match ev N env h c with
  | some (.v (.bool true)) => ev N env h a
  | some (.v (.bool false)) => ev N env h b
  | _ => none
 | .cnt i => (env.get i).map .v
 | .upd base i n a v =>
  match ev N env h base, ev N env h a, ev N env h v with
  | some (.v (.agg c)), some (.p j off), some (.v x) => if j = i ∧ x.cells.size = n ∧ off + n ≤ c.size ∧ x.cells.toList.all one = true then some (.v (.agg (putL c off x.cells.toList))) else none
  | _, _, _ => none
def urel (pb : Nat → Option Nat) : UV → Value → Prop
 | .v y, x => x = y
 | .p i off, x => ∃ b, pb i = some b ∧ x = .pointer (some ⟨b, off, none⟩)
def Priv (pb : Nat → Option Nat) (env : Env) (h : Heap) (w : World) : Prop :=
 ∀ i b, pb i = some b → ∃ c t, env.get i = some (.agg c) ∧ w.heap[b]? = some (.cells c t (0, 0)) ∧ h b = none
def aggOf (P : Program) (t : TypeId) : Option Bool :=
 match P.underlying t with
 | some (.struct _) | some (.array _ _) => some true
 | some _ => some false
 | none => none
def sizeOf' (P : Program) (t : TypeId) : Option Nat := (P.info? t).map (·.size)
def res1 (P : Program) (tk : TypeId → Option Nat) : Op → Option (O1 × Operand)
 | .call { callee := .builtin .len, args := as, argTypes := ts } =>
  match as.toList, ts.toList with
  | [x], [t] =>
   match P.underlying t with
   | some .string => some (.slen, x)
   | some (.slice _) => some (.llen, x)
   | some (.map _ _) => some (.mlen, x)
   | _ => none
  | _, _ => none
 | .fieldAddr s x f =>
  match P.underlying s with
  | some (.struct fs) =>
   match fs[f]? with
   | some fd => match sizeOf' P fd.type with
    | some (_ + 1) => some (.fadr fd.offset, x)
    | _ => none
   | none => none
  | _ => none
 | .load t x =>
  match aggOf P t, sizeOf' P t with
  | some false, _ => some (.ld, x)
  | some true, some n => some (.ldn n, x)
  | _, _ => none
 | .nilCheck x => some (.nilck, x)
 | .unOp .not _ x => some (.not, x)
 | .unOp .neg _ x => some (.neg, x)
 | .convert s t x =>
  match P.underlying s, P.underlying t with
  | some (.int _), some (.int k) => some (.conv k, x)
  | some (.slice e), some .string => match P.underlying e with
   | some (.int .u8) => some (.b2s, x)
   | _ => none
  | _, _ => none
 | .extract x k => some (.ext k, x)
 | .field s x f =>
  match P.underlying s with
  | some (.struct fs) =>
   match fs[f]? with
   | some fd => match aggOf P fd.type, sizeOf' P fd.type with
    | some false, _ => some (.fld fd.offset, x)
    | some true, some n => some (.fldn fd.offset n, x)
    | _, _ => none
   | none => none
  | _ => none
 | .makeInterface t x =>
  match P.underlying t, tk t with
  | some (.interface _), _ => none
  | some _, some k => some (.iface k, x)
  | _, _ => none
 | .unOp .xor _ x => some (.inv, x)
 | .typeAssert x _ t true =>
  match P.underlying t, tk t, (P.info? t).bind (·.zero) with
  | some (.interface _), _, _ => none
  | some _, some k, some z => some (.tas k z, x)
  | _, _, _ => none
 | _ => none
section
variable {P : Program} {w : World} {h : Heap} {env : Env} {pb : Nat → Option Nat}
theorem Heap.sub_cells {h : Heap} {w : World} (hs : h.sub w) {b : Nat} {c : Array Value} (hc : h.cells b = some c) : ∃ t fz, w.heap[b]? = some (.cells c t fz) := by
 unfold Heap.cells at hc
 split at hc
 ·rename_i c' t fz he
  cases hc
  exact ⟨t, fz, hs b _ he⟩
 ·cases hc
theorem Heap.sub_cell {h : Heap} {w : World} (hs : h.sub w) {a : Addr} {v : Value} (hc : h.cell a = some v) : w.cell? a = some v := by
 unfold Heap.cell at hc
 split at hc
 ·cases hc
 ·rename_i hsp
  obtain ⟨c, h1, h2⟩ := Option.bind_eq_some_iff.1 hc
  obtain ⟨t, fz, h3⟩ := Heap.sub_cells hs h1
  simp [World.cell?, h3, hsp, h2]
theorem cell_row {w : World} {a : Addr} {c : Array Value} {t : TypeId} {fz : Nat × Nat} (h : w.heap[a.block]? = some (.cells c t fz)) (hsp : a.spot = none) (j : Nat) : w.cell? (a.add j) = c[a.off + j]? := by
 unfold Addr.add
 split
 ·rename_i h0; subst h0; simp [World.cell?, h, hsp]
 ·simp [World.cell?, h]
theorem run_row {b : Nat} {c : Array Value} {t : TypeId} {fz : Nat × Nat} (hw : w.heap[b]? = some (.cells c t fz)) (off n : Nat) (hn : off + n ≤ c.size) :
  (loadCells ⟨b, off, none⟩ n).run P w = .ok (c.extract off (off + n)) w := by
 rw [run_loadCells (P := P) w ⟨b, off, none⟩ n (fun j => c.getD (off + j) undef) (fun j hj => by
  rw [cell_row (a := ⟨b, off, none⟩) hw rfl]
  have hlt : off + j < c.size := by omega
  simp [Array.getD, hlt])]
 congr 1
 apply Array.ext
 ·simp; omega
 ·intro i h1 h2
  have hi : i < n := by simpa using h1
  have hlt : off + i < c.size := by omega
  simp [Array.getD, hlt]
theorem Heap.sub_row {h : Heap} {w : World} (hs : h.sub w) {a : Addr} {n : Nat} {r : Array Value} (hc : h.row a n = some r) : (loadCells a n).run P w = .ok r w := by
 unfold Heap.row at hc
 split at hc
 ·rename_i h0; subst h0; cases hc
  rw [run_loadCells (P := P) w a 0 (fun _ => undef) (fun j hj => by omega)]; simp
 split at hc
 ·cases hc
 ·rename_i hsp
  obtain ⟨c, h1, h2⟩ := Option.bind_eq_some_iff.1 hc
  obtain ⟨t, fz, h3⟩ := Heap.sub_cells hs h1
  split at h2
  ·rename_i hle
   cases h2
   obtain ⟨b, off, sp⟩ := a
   cases sp with
   | some s => simp at hsp
   | none => exact run_row h3 off n hle
  ·cases h2
end
end Go.Cw
namespace Go.Cw
open Go
variable {P : Program} {w : World} {h : Heap} {env : Env} {pb : Nat → Option Nat} {N : Num} {tk : TypeId → Option Nat}
theorem execOp_of {ρ : Operand → Value} {o : Oper} {op : Op} (e : o.op = op) : execOp ρ o = execOp ρ { o with op := op } := by
 cases o; simp at e; subst e; rfl
theorem run_mapObj {es : Array MapEntry} {ck r : Nat} (hw : w.heap[r]? = some (.map es ck)) : (getObj r).run P w = .ok (.map es ck) w := by
 simp [getObj, Sem.run, hw]
theorem urel_v {pb : Nat → Option Nat} {y x : Value} : urel pb (.v y) x ↔ x = y := Iff.rfl
theorem o1_priv_ld {i off : Nat} {u' : UV} {env : Env} (hv : o1V N env h .ld (.p i off) = some u') : ∃ c y, env.get i = some (.agg c) ∧ c[off]? = some y ∧ u' = .v y := by
 simp only [o1V] at hv
 split at hv
 ·rename_i c hc
  obtain ⟨y, h1, h2⟩ := Option.map_eq_some_iff.1 hv
  exact ⟨c, y, hc, h1, h2.symm⟩
 ·cases hv
theorem o1_priv_ldn {i off n : Nat} {u' : UV} {env : Env} (hv : o1V N env h (.ldn n) (.p i off) = some u') : ∃ c, env.get i = some (.agg c) ∧ off + n ≤ c.size ∧ u' = .v (.agg (c.extract off (off + n))) := by
 simp only [o1V] at hv
 split at hv
 ·rename_i c hc
  split at hv
  ·rename_i hle; cases hv; exact ⟨c, hc, hle, rfl⟩
  ·cases hv
 ·cases hv
theorem isAgg_false {t : TypeId} (ha : aggOf P t = some false) : (isAgg t).run P w = .ok false w := by
 unfold aggOf at ha
 split at ha
 ·cases ha
 ·cases ha
 ·rename_i d hn hn2 hd
  simp only [isAgg, Sem.run_bind, run_underlying hd, Result.andThen_ok]
  cases d <;> first | rfl | (exact absurd hd (hn _)) | (exact absurd hd (hn2 _ _))
 ·cases ha
theorem isAgg_true {t : TypeId} (ha : aggOf P t = some true) : (isAgg t).run P w = .ok true w := by
 unfold aggOf at ha
 split at ha
 ·rename_i hd; simp only [isAgg, Sem.run_bind, run_underlying hd, Result.andThen_ok]; rfl
 ·rename_i hd; simp only [isAgg, Sem.run_bind, run_underlying hd, Result.andThen_ok]; rfl
 ·cases ha
 ·cases ha
theorem run_sizeOf' {t : TypeId} {n : Nat} (hn : sizeOf' P t = some n) : (sizeOf t).run P w = .ok n w := by
 obtain ⟨i, h1, h2⟩ := Option.map_eq_some_iff.1 hn
 subst h2
 simp [sizeOf, typeInfo, program, Sem.run, h1]
theorem load_one {t : TypeId} (ha : aggOf P t = some false) {a : Addr} {v : Value} (hc : w.cell? a = some v) : (loadVar t a).run P w = .ok v w := by
 simp [loadVar, isAgg_false ha, hc]
theorem load_many {t : TypeId} {n : Nat} (ha : aggOf P t = some true) (hn : sizeOf' P t = some n) {a : Addr} {c : Array Value} (hc : (loadCells a n).run P w = .ok c w) : (loadVar t a).run P w = .ok (.agg c) w := by
 simp [loadVar, isAgg_true ha, run_sizeOf' hn, hc]
theorem addr_add (b off d : Nat) : (⟨b, off, none⟩ : Addr).add d = ⟨b, off + d, none⟩ := by
 unfold Addr.add; split <;> simp_all
theorem bytesOf_loop {f : Value → ByteArray → Sem (ForInStep ByteArray)} (hf : ∀ n s, f (.int .u8 n) s = pure (ForInStep.yield (s.push (UInt8.ofNat n.toNat)))) :
  ∀ (l : List Value) (bs : List UInt8) (acc : ByteArray), bytesOfCells l = some bs → (forIn l acc f).run P w = .ok ⟨(acc.data.toList ++ bs).toArray⟩ w := by
 intro l
 induction l with
 | nil => intro bs acc hb; simp [bytesOfCells] at hb; subst hb; simp
 | cons v l ih =>
  intro bs acc hb
  cases v with
  | int k n =>
   cases k <;> simp only [bytesOfCells] at hb <;> try cases hb
   obtain ⟨bs', h1, rfl⟩ := Option.map_eq_some_iff.1 hb
   have := ih bs' (acc.push (UInt8.ofNat n.toNat)) h1
   simp only [List.forIn_cons, hf, Sem.run_bind, Sem.run_pure, Result.andThen_ok, this]
   simp [ByteArray.push]
  | _ => simp [bytesOfCells] at hb
theorem run_zeroValue' {P : Program} {w : World} {t : TypeId} {z : Value} (hz : (P.info? t).bind (·.zero) = some z) : (zeroValue t).run P w = .ok z w := by
 obtain ⟨i, h1, h2⟩ := Option.bind_eq_some_iff.1 hz
 simp [zeroValue, typeInfo, program, Sem.run, h1, h2]
end Go.Cw
namespace Go.Cw
open Go
variable {P : Program} {w : World} {h : Heap} {env : Env} {pb : Nat → Option Nat} {N : Num} {tk : TypeId → Option Nat}
def O1.heapy : O1 → Bool
 | .mlen | .ld | .ldn _ | .b2s => true
 | _ => false
theorem res1_sound (htk : ∀ t k, tk t = some k → N.tid k = t) {o : Oper} {r : O1} {x : Operand} (hr : res1 P tk o.op = some (r, x)) {ρ : Operand → Value} {u u' : UV}
  (hu : urel pb u (ρ x)) (hv : o1V N env h r u = some u') (hs : r.heapy = true → h.sub w) (hp : r.heapy = true → Priv pb env h w) : ∃ y, (execOp ρ o).run P w = .ok (.value y) w ∧ urel pb u' y := by
 obtain ⟨dst, op, ty, pos, after, guard⟩ := o
 unfold res1 at hr
 split at hr
 ·
  rename_i as ts heq
  simp only at heq; subst heq
  split at hr
  ·rename_i x' t hx ht
   obtain ⟨as⟩ := as; obtain ⟨ts⟩ := ts; simp only at hx ht; subst hx; subst ht
   split at hr <;> first | cases hr | skip
   ·rename_i hd
    cases u with
    | p i off => simp [o1V] at hv
    | v z =>
     rw [urel_v] at hu
     cases z <;> simp only [o1V] at hv <;> try cases hv
     skip
     exact ⟨_, by simp [execOp, resolve, invoke, builtin, Builtin.len_, run_underlying hd, hu]; rfl, rfl⟩
   ·rename_i hd
    cases u with
    | p i off => simp [o1V] at hv
    | v z =>
     rw [urel_v] at hu
     cases z <;> simp only [o1V] at hv <;> try cases hv
     skip
     exact ⟨_, by simp [execOp, resolve, invoke, builtin, Builtin.len_, run_underlying hd, hu]; rfl, rfl⟩
   ·rename_i hd
    skip
    cases u with
    | p i off => simp [o1V] at hv
    | v z =>
     rw [urel_v] at hu
     simp only [o1V] at hv
     obtain ⟨es, h1, rfl⟩ := Option.map_eq_some_iff.1 hv
     unfold entriesOf at h1
     split at h1
     ·cases h1
      exact ⟨_, by simp [execOp, resolve, invoke, builtin, Builtin.len_, run_underlying hd, hu]; rfl, rfl⟩
     ·split at h1
      ·rename_i es' ck hes
       cases h1
       exact ⟨_, by simp [execOp, resolve, invoke, builtin, Builtin.len_, run_underlying hd, hu, run_mapObj (hs rfl _ _ hes)]; rfl, by simp [urel, goInt]⟩
      ·cases h1
     ·cases h1
  ·cases hr
 ·
  rename_i s x' f heq
  simp only at heq; subst heq
  split at hr <;> try cases hr
  rename_i fs hd
  split at hr <;> try cases hr
  rename_i fd hf
  split at hr <;> try cases hr
  rename_i k hk
  have hz : (sizeOf fd.type).run P w = .ok (k + 1) w := run_sizeOf' hk
  cases u with
  | p i off =>
   obtain ⟨b, hb, he⟩ := hu
   simp only [o1V] at hv; cases hv
   refine ⟨.pointer (some ⟨b, off + fd.offset, none⟩), ?_, b, hb, rfl⟩
   simp [execOp, Instr.fieldAt, run_underlying hd, hf, he, Instr.sureAddr, fieldPlace, hz, addr_add]
  | v z =>
   rw [urel_v] at hu
   cases z with
   | pointer a =>
    cases a with
    | none => simp only [o1V] at hv; cases hv
    | some a =>
     simp only [o1V] at hv; cases hv
     exact ⟨_, by simp [execOp, Instr.fieldAt, run_underlying hd, hf, hu, Instr.sureAddr, fieldPlace, hz], rfl⟩
   | _ => simp only [o1V] at hv; cases hv
 ·
  rename_i t x' heq
  simp only at heq; subst heq
  split at hr
  ·rename_i ha
   cases hr
   cases u with
   | p i off =>
    obtain ⟨b, hb, he⟩ := hu
    obtain ⟨c, y, h1, h2, rfl⟩ := o1_priv_ld hv
    obtain ⟨c', t', h3, h4, h5⟩ := hp rfl i b hb
    rw [h1] at h3; cases h3
    have hc : w.cell? ⟨b, off, none⟩ = some y := by simp [World.cell?, h4, h2]
    exact ⟨y, by simp [execOp, Instr.loadAt, he, Instr.sureAddr, load_one ha hc], rfl⟩
   | v z =>
    rw [urel_v] at hu
    cases z with
    | pointer a =>
     cases a with
     | none => simp only [o1V] at hv; cases hv
     | some a =>
      simp only [o1V] at hv
      obtain ⟨y, h1, rfl⟩ := Option.map_eq_some_iff.1 hv
      exact ⟨y, by simp [execOp, Instr.loadAt, hu, Instr.sureAddr, load_one ha (Heap.sub_cell (hs rfl) h1)], rfl⟩
    | _ => simp only [o1V] at hv; cases hv
  ·rename_i n ha hn
   cases hr
   cases u with
   | p i off =>
    obtain ⟨b, hb, he⟩ := hu
    obtain ⟨c, h1, h2, rfl⟩ := o1_priv_ldn hv
    obtain ⟨c', t', h3, h4, h5⟩ := hp rfl i b hb
    rw [h1] at h3; cases h3
    exact ⟨_, by simp only [execOp, Instr.loadAt, he, Instr.sureAddr, Sem.run_bind, Sem.run_pure, Result.andThen_ok, load_many ha hn (run_row (P := P) h4 off n h2)], rfl⟩
   | v z =>
    rw [urel_v] at hu
    cases z with
    | pointer a =>
     cases a with
     | none => simp only [o1V] at hv; cases hv
     | some a =>
      simp only [o1V] at hv
      obtain ⟨y, h1, rfl⟩ := Option.map_eq_some_iff.1 hv
      exact ⟨_, by simp only [execOp, Instr.loadAt, hu, Instr.sureAddr, Sem.run_bind, Sem.run_pure, Result.andThen_ok, load_many ha hn (Heap.sub_row (P := P) (hs rfl) h1)], rfl⟩
    | _ => simp only [o1V] at hv; cases hv
  ·cases hr
 ·
  rename_i x' heq
  simp only at heq; subst heq
  cases hr
  cases u with
  | p i off =>
   obtain ⟨b, hb, he⟩ := hu
   simp only [o1V] at hv; cases hv
   exact ⟨.pointer (some ⟨b, off, none⟩), by simp [execOp, he], b, hb, rfl⟩
  | v z =>
   rw [urel_v] at hu
   cases z with
   | pointer a =>
    cases a with
    | none => simp only [o1V] at hv; cases hv
    | some a => simp only [o1V] at hv; cases hv; exact ⟨_, by simp [execOp, hu], rfl⟩
   | func fn a b =>
    cases fn <;> simp only [o1V] at hv <;> try cases hv
    exact ⟨_, by simp [execOp, hu], rfl⟩
   | _ => simp only [o1V] at hv; cases hv
 ·
  rename_i t x' heq
  simp only at heq; subst heq
  cases hr
  cases u with
  | p i off => simp [o1V] at hv
  | v z =>
   rw [urel_v] at hu
   cases z <;> simp only [o1V] at hv <;> try cases hv
   exact ⟨_, by simp [execOp, hu, Op.unary], rfl⟩
 ·rename_i t x' heq
  simp only at heq; subst heq
  cases hr
  cases u with
  | p i off => simp [o1V] at hv
  | v z =>
   rw [urel_v] at hu
   cases z <;> simp only [o1V] at hv <;> try cases hv
   exact ⟨_, by simp [execOp, hu, Op.unary, Op.intArith], rfl⟩
 ·
  rename_i s t x' heq
  simp only at heq; subst heq
  split at hr
  ·rename_i k0 k hd1 hd2
   cases hr
   cases u with
   | p i off => simp [o1V] at hv
   | v z =>
    rw [urel_v] at hu
    cases z <;> simp only [o1V] at hv <;> try cases hv
    exact ⟨_, by simp [execOp, hu, convert, run_underlying hd1, run_underlying hd2, Conv.intToInt], rfl⟩
  ·rename_i e hd1 hd2
   split at hr <;> try cases hr
   rename_i hd3
   cases u with
   | p i off => simp [o1V] at hv
   | v z =>
    rw [urel_v] at hu
    cases z with
    | slice a n c =>
     cases a with
     | none =>
      simp only [o1V] at hv; cases hv
      exact ⟨_, by simp [execOp, hu, convert, run_underlying hd1, run_underlying hd2, run_underlying hd3, Conv.bytesToString], rfl⟩
     | some a =>
      simp only [o1V] at hv
      obtain ⟨cs, h1, h2⟩ := Option.bind_eq_some_iff.1 hv
      obtain ⟨bs, h3, rfl⟩ := Option.map_eq_some_iff.1 h2
      have hl := Heap.sub_row (P := P) (hs rfl) h1
      refine ⟨_, ?_, rfl⟩
      simp only [execOp, hu, convert, run_underlying hd1, run_underlying hd2, run_underlying hd3, Conv.bytesToString, Sem.run_bind, Sem.run_pure, Result.andThen_ok, hl]
      rw [← Array.forIn_toList, bytesOf_loop (fun _ _ => rfl) _ bs _ h3]
      simp
    | _ => simp only [o1V] at hv; cases hv
  ·cases hr
 ·
  rename_i x' k heq
  simp only at heq; subst heq
  cases hr
  cases u with
  | p i off => simp [o1V] at hv
  | v z =>
   rw [urel_v] at hu
   cases z <;> simp only [o1V] at hv <;> try cases hv
   obtain ⟨y, h1, rfl⟩ := Option.map_eq_some_iff.1 hv
   exact ⟨y, by simp [execOp, hu, Instr.extract, h1], rfl⟩
 ·
  rename_i s x' f heq
  simp only at heq; subst heq
  split at hr <;> try cases hr
  rename_i fs hd
  split at hr <;> try cases hr
  rename_i fd hf
  split at hr
  ·rename_i ha
   cases hr
   cases u with
   | p i off => simp [o1V] at hv
   | v z =>
    rw [urel_v] at hu
    cases z <;> simp only [o1V] at hv <;> try cases hv
    obtain ⟨y, h1, rfl⟩ := Option.map_eq_some_iff.1 hv
    exact ⟨y, by simp [execOp, hu, Instr.field, run_underlying hd, hf, asAgg, part, isAgg_false ha, h1], rfl⟩
  ·rename_i n ha hn
   cases hr
   cases u with
   | p i off => simp [o1V] at hv
   | v z =>
    rw [urel_v] at hu
    cases z <;> simp only [o1V] at hv <;> try cases hv
    exact ⟨_, by simp [execOp, hu, Instr.field, run_underlying hd, hf, asAgg, part, isAgg_true ha, run_sizeOf' hn], rfl⟩
  ·cases hr
 ·
  rename_i t x' heq
  simp only at heq; subst heq
  split at hr <;> try cases hr
  rename_i d k hni hd hk
  cases u with
  | p i off => simp [o1V] at hv
  | v z =>
   rw [urel_v] at hu
   simp only [o1V] at hv; cases hv
   refine ⟨_, ?_, rfl⟩
   rw [htk _ _ hk]
   simp only [execOp, hu, Instr.makeInterface, Sem.run_bind, run_underlying hd, Result.andThen_ok]
   cases d <;> first | rfl | (exact absurd hd (hni _ ))
 ·
  rename_i ty' x' heq
  simp only at heq; subst heq
  cases hr
  cases u with
  | p i off => simp [o1V] at hv
  | v z =>
   rw [urel_v] at hu
   cases z <;> simp only [o1V] at hv <;> try cases hv
   exact ⟨_, by simp only [execOp, hu, Op.unary, Op.intBits]; rfl, rfl⟩
 ·
  rename_i x' xt t heq
  simp only at heq; subst heq
  split at hr <;> try cases hr
  rename_i d k z hni hd hk hz
  cases u with
  | p i off => simp [o1V] at hv
  | v y =>
   rw [urel_v] at hu
   cases y <;> simp only [o1V] at hv <;> try cases hv
   ·rename_i u0 y0
    have hkk := htk _ _ hk
    have hz' := fun w => run_zeroValue' (P := P) (w := w) hz
    split at hv <;> cases hv <;> refine ⟨_, ?_, rfl⟩ <;> rename_i hu0
    ·simp only [execOp, hu, Instr.typeAssert, Sem.run_bind, run_underlying hd, Result.andThen_ok]
     cases d <;> first | (simp [hu0, hkk]; done) | (exact absurd hd (hni _ ))
    ·simp only [execOp, hu, Instr.typeAssert, Sem.run_bind, run_underlying hd, Result.andThen_ok]
     cases d <;> first | (simp [hkk ▸ hu0, hz']; done) | (exact absurd hd (hni _ ))
   ·refine ⟨_, ?_, rfl⟩
    simp only [execOp, hu, Instr.typeAssert, Sem.run_bind, run_underlying hd, Result.andThen_ok]
    cases d <;> first | (simp [run_zeroValue' hz]; done) | (exact absurd hd (hni _ ))
 ·cases hr
end Go.Cw
namespace Go.Cw
open Go
def bkOf (P : Program) (t : TypeId) : Option Bk :=
 match P.underlying t with
 | some (.int _) => some .int
 | some .string => some .str
 | some .bool => some .bool
 | _ => none
def bksOf (P : Program) : List Field → Nat → Option (List Bk)
 | [], _ => some []
 | f :: fs, i =>
  if f.offset = i ∧ f.name ≠ "_" then
   match bkOf P f.type, bksOf P fs (i + 1) with
   | some k, some ks => some (k :: ks)
   | _, _ => none
  else none
def eqClass (P : Program) (t : TypeId) : Option EqC :=
 match P.underlying t with
 | some .bool => some .bool
 | some (.pointer _) => some .ptr
 | some (.interface _) => some .iface
 | some (.slice _) => some .slice
 | some (.map _ _) => some .map
 | some (.struct fs) =>
  if P.stoodInHeld t = false ∧ P.eqGuardType P.depth t = false then (bksOf P fs.toList 0).map .flat else none
 | _ => none
def isNilC : Operand → Bool
 | .const .nilIface => true
 | _ => false
def mapZero (P : Program) (t : TypeId) : Option (Bk × Value) :=
 match P.underlying t with
 | some (.map k e) =>
  match bkOf P k, (P.info? e).bind (·.zero) with
  | some .bool, _ => none
  | some kb, some z => some (kb, z)
  | _, _ => none
 | _ => none
def res2 (P : Program) : Op → Option (O2 × Operand × Operand)
 | .binOp op t x y _ =>
  match op, P.underlying t with
  | _, some (.int _) | _, some .string => some (.bin op, x, y)
  | .eql, _ => match eqClass P t with
   | some .iface => if isNilC x || isNilC y then some (.eqv .iface false, x, y) else none
   | some c => some (.eqv c false, x, y)
   | none => none
  | .neq, _ => match eqClass P t with
   | some .iface => if isNilC x || isNilC y then some (.eqv .iface true, x, y) else none
   | some c => some (.eqv c true, x, y)
   | none => none
  | _, _ => none
 | .indexAddr t x i =>
  match P.underlying t with
  | some (.slice e) => (sizeOf' P e).map fun n => (.iadr n, x, i)
  | some (.array len e) => (sizeOf' P e).map fun n => (.aadr len n, x, i)
  | _ => none
 | .index t x i =>
  match P.underlying t with
  | some .string => some (.sidx, x, i)
  | some (.array len e) =>
   match aggOf P e, sizeOf' P e with
   | some false, some 1 => some (.vidx len, x, i)
   | some true, some n => some (.vidxn len n, x, i)
   | _, _ => none
  | _ => none
 | .lookup t x i ok =>
  match mapZero P t with
  | some (kb, z) => some (if ok then .lkpo kb z else .lkp kb z, x, i)
  | none => none
 | .call { callee := .builtin .max, args := as, argTypes := _ } =>
  match as.toList with
  | [x, y] => some (.max, x, y)
  | _ => none
 | .call { callee := .builtin .min, args := as, argTypes := _ } =>
  match as.toList with
  | [x, y] => some (.min, x, y)
  | _ => none
 | _ => none
variable {P : Program} {w : World} {h : Heap} {env : Env} {pb : Nat → Option Nat} {N : Num}
theorem inBounds_iff {i : Int} {n : Nat} : inBounds i n = true ↔ 0 ≤ i ∧ i < n := by simp [inBounds]
theorem o2_v {o : O2} {x y : Value} {u' : UV} (hv : o2V h o (.v x) (.v y) = some u') : ∃ z, u' = .v z := by
 simp only [o2V] at hv
 split at hv
 all_goals first
  | cases hv
  | (obtain ⟨z, h1, h2⟩ := Option.bind_eq_some_iff.1 hv; obtain ⟨z, h3, rfl⟩ := Option.map_eq_some_iff.1 h2; exact ⟨_, rfl⟩)
  | (obtain ⟨z, h1, rfl⟩ := Option.map_eq_some_iff.1 hv; exact ⟨_, rfl⟩)
  | (split at hv <;> first | cases hv | skip)
  | exact ⟨_, (Option.some.inj hv).symm⟩
 all_goals first
  | exact ⟨_, rfl⟩
  | (obtain ⟨z, h1, rfl⟩ := Option.map_eq_some_iff.1 hv; exact ⟨_, rfl⟩)
theorem run_int {op : BinOp} {k k' : IntKind} {a b : Int} {v : Value} (hv : binV op (.int k a) (.int k' b) = some v) (t : TypeId) : (binOp op t (.int k a) (.int k' b)).run P w = .ok v w := by
 cases op <;> simp only [binV] at hv
 case shl => simp only [shiftV] at hv; split at hv <;> cases hv; rename_i hy; simp [binOp, Op.shift, hy]
 case shr => simp only [shiftV] at hv; split at hv <;> cases hv; rename_i hy; simp [binOp, Op.shift, hy]
 all_goals
  split at hv
  ·rename_i hk; subst hk
   first
    | (simp only [intV] at hv; done)
    | (simp only [intV] at hv; split at hv <;> cases hv; rename_i hy; simp [binOp, Op.intDiv, hy]; done)
    | (simp only [intV] at hv; cases hv; simp [binOp, Op.intArith, Op.intBits, Op.intCmp]; done)
    | (simp only [intV] at hv; cases hv)
  ·cases hv
theorem run_str {op : BinOp} {a b : ByteArray} {v : Value} (hv : binV op (.string a) (.string b) = some v) (t : TypeId) : (binOp op t (.string a) (.string b)).run P w = .ok v w := by
 simp only [binV] at hv
 cases op <;> simp only [strV] at hv <;> first | (cases hv; simp [binOp, Op.stringOp]; done) | cases hv | skip
 split at hv <;> cases hv
 rename_i hle
 simp [binOp, Op.stringOp, IntKind.max, IntKind.bits, IntKind.signed]
 omega
theorem eqGuard_ok {op : BinOp} {t : TypeId} {x y : Operand} {a b : Value} (h1 : a = .nilIface → b = .nilIface → isNilC x = true ∨ isNilC y = true)
  (h2 : ∀ xs ys, a = .agg xs → b = .agg ys → P.eqGuardType P.depth t = false) : (eqGuard op t x y a b).run P w = .ok () w := by
 have key : (match a, b with
  | .nilIface, .nilIface => isNilC x = true ∨ isNilC y = true
  | .agg _, .agg _ => P.eqGuardType P.depth t = false
  | _, _ => True) := by
  cases a <;> cases b <;> first | exact h1 rfl rfl | exact h2 _ _ rfl rfl | trivial
 unfold eqGuard
 cases op <;> try (simp; done)
 all_goals
  simp only [Bool.not_true, Bool.false_eq_true, ↓reduceIte]
  split
  ·rcases key with h | h
   ·cases x with
    | const v => simp
    | _ => simp [isNilC] at h
   ·cases y with
    | const v => simp
    | _ => simp [isNilC] at h
  ·simp only at key
   simp [program, Sem.run, key]
  ·simp
theorem equal_cell {t : TypeId} {k : Bk} (hb : bkOf P t = some k) {x y : Value} {r : Bool} (hr : cellEq k x y = some r) (d : Nat) :
  (Op.equalIn (d + 1) t x y).run P w = .ok r w := by
 unfold bkOf at hb
 split at hb <;> cases hb <;> rename_i hd <;> cases x <;> cases y <;> simp only [cellEq] at hr <;> try cases hr
 ·split at hr <;> cases hr
  rename_i hk; subst hk
  simp [Op.equalIn, run_underlying hd]
 ·simp [Op.equalIn, run_underlying hd]
 ·simp [Op.equalIn, run_underlying hd]
theorem part_cell {t : TypeId} {k : Bk} (hb : bkOf P t = some k) {cs : Array Value} {off : Nat} {v : Value} (hv : cs[off]? = some v) : (part t cs off).run P w = .ok v w := by
 have ha : aggOf P t = some false := by
  unfold bkOf at hb
  unfold aggOf
  split at hb <;> cases hb <;> rename_i hd <;> simp [hd]
 simp [part, isAgg_false ha, hv]
theorem equal_loop {d : Nat} {xs ys : Array Value} {f : Field → Option Bool × Unit → Sem (ForInStep (Option Bool × Unit))}
  (hf : ∀ x s, x.name ≠ "_" → f x s = (do
   let a ← part x.type xs x.offset
   let b ← part x.type ys x.offset
   let c ← Op.equalIn (d + 1) x.type a b
   if c = false then pure (ForInStep.done (some false, ())) else pure (ForInStep.yield (none, ())))) :
  ∀ (fs : List Field) (i : Nat) (ks : List Bk) (r : Bool), bksOf P fs i = some ks → cellsEq ks (xs.toList.drop i) (ys.toList.drop i) = some r →
   (forIn fs (none, ()) f).run P w = .ok (if r then none else some false, ()) w := by
 intro fs
 induction fs with
 | nil =>
  intro i ks r hk hc
  simp only [bksOf] at hk; cases hk
  cases hx : xs.toList.drop i <;> cases hy : ys.toList.drop i <;> simp only [hx, hy, cellsEq] at hc <;> try cases hc
  simp
 | cons g fs ih =>
  intro i ks r hk hc
  simp only [bksOf] at hk
  split at hk <;> try cases hk
  rename_i hoff
  obtain ⟨ho, hn⟩ := hoff
  split at hk <;> cases hk
  rename_i k ks' hk1 hk2
  cases hx : xs.toList.drop i with
  | nil => simp [hx, cellsEq] at hc
  | cons x xr =>
   cases hy : ys.toList.drop i with
   | nil => simp [hx, hy, cellsEq] at hc
   | cons y yr =>
    simp only [hx, hy, cellsEq] at hc
    have hxi : xs[i]? = some x := by
     have : (xs.toList.drop i)[0]? = some x := by rw [hx]; rfl
     simpa using this
    have hyi : ys[i]? = some y := by
     have : (ys.toList.drop i)[0]? = some y := by rw [hy]; rfl
     simpa using this
    have hxr : xs.toList.drop (i + 1) = xr := by
     have := congrArg List.tail hx; simpa [List.tail_drop] using this
    have hyr : ys.toList.drop (i + 1) = yr := by
     have := congrArg List.tail hy; simpa [List.tail_drop] using this
    split at hc
    ·rename_i he
     simp only [List.forIn_cons, hf _ _ hn, Sem.run_bind, ho, part_cell hk1 hxi, part_cell hk1 hyi, Result.andThen_ok, equal_cell hk1 he]
     simp only [Bool.true_eq_false, if_false, Sem.run_pure, Result.andThen_ok]
     exact ih (i + 1) ks' r hk2 (by rw [hxr, hyr]; exact hc)
    ·rename_i he
     cases hc
     simp only [List.forIn_cons, hf _ _ hn, Sem.run_bind, ho, part_cell hk1 hxi, part_cell hk1 hyi, Result.andThen_ok, equal_cell hk1 he]
     simp
    ·cases hc
theorem equal_flat_in (d : Nat) {t : TypeId} {fs : Array Field} (hd : P.underlying t = some (.struct fs)) (hst : P.stoodInHeld t = false) {ks : List Bk} (hk : bksOf P fs.toList 0 = some ks)
  {xs ys : Array Value} {r : Bool} (hc : cellsEq ks xs.toList ys.toList = some r) : (Op.equalIn (d + 1 + 1) t (.agg xs) (.agg ys)).run P w = .ok r w := by
 rw [Op.equalIn.eq_2]
 simp only [Sem.run_bind, run_underlying hd, Result.andThen_ok]
 simp only [program, Sem.run, hst, Result.andThen_ok, Bool.false_eq_true, if_false, Sem.run_bind]
 simp only [← Array.forIn_toList]
 rw [equal_loop (P := P) (w := w) (d := d) (xs := xs) (ys := ys) (fun x s hx => by simp [hx]) fs.toList 0 ks r hk (by simpa using hc)]
 cases r <;> simp
theorem equal_flat {t : TypeId} {fs : Array Field} (hd : P.underlying t = some (.struct fs)) (hst : P.stoodInHeld t = false) {ks : List Bk} (hk : bksOf P fs.toList 0 = some ks)
  {xs ys : Array Value} {r : Bool} (hc : cellsEq ks xs.toList ys.toList = some r) : (Op.equal t (.agg xs) (.agg ys)).run P w = .ok r w := equal_flat_in 9998 hd hst hk hc
end Go.Cw
namespace Go.Cw
open Go
variable {P : Program} {w : World} {h : Heap} {env : Env} {pb : Nat → Option Nat} {N : Num}
theorem equal_class {t : TypeId} {c : EqC} (hc : eqClass P t = some c) {x y : Value} {r : Bool} (hr : eqV c x y = some r) :
  (Op.equal t x y).run P w = .ok r w := by
 unfold eqClass at hc
 split at hc
 all_goals first | cases hc | skip
 case h_6 fs hd =>
  split at hc
  ·rename_i hg
   obtain ⟨ks, hk, rfl⟩ := Option.map_eq_some_iff.1 hc
   cases x <;> cases y
   case agg.agg xs ys => simp only [eqV] at hr; exact equal_flat hd hg.1 hk hr
   all_goals first
    | (simp [eqV] at hr; done)
    | (rename_i a b; cases a <;> cases b <;> simp [eqV] at hr; done)
    | (rename_i a1 a2 a3 b1 b2 b3; cases a1 <;> cases b1 <;> simp [eqV] at hr; done)
  ·cases hc
 all_goals
  rename_i hd
  rw [show Op.equal t x y = Op.equalIn (9999 + 1) t x y from rfl, Op.equalIn.eq_2]
  simp only [Sem.run_bind, run_underlying hd, Result.andThen_ok]
  cases x <;> cases y <;> simp [eqV] at hr
 all_goals first
  | (subst hr; simp; done)
  | (rename_i a b; cases a <;> cases b <;> simp [eqV] at hr <;> (try subst hr) <;> simp; done)
  | (rename_i a1 a2 a3 b1 b2 b3; cases a1 <;> cases b1 <;> simp [eqV] at hr <;> (try subst hr) <;> simp; done)
theorem eqV_nil {c : EqC} {x y : Value} {r : Bool} (hr : eqV c x y = some r) (hx : x = .nilIface) (hy : y = .nilIface) : c = .iface := by
 subst hx; subst hy; simp [eqV] at hr; exact hr.1
theorem eqV_agg {c : EqC} {x y : Value} {r : Bool} (hr : eqV c x y = some r) {xs ys : Array Value} (hx : x = .agg xs) (hy : y = .agg ys) : ∃ ks, c = .flat ks := by
 subst hx; subst hy; simp only [eqV] at hr
 split at hr
 ·exact ⟨_, rfl⟩
 ·cases hr
theorem eqClass_flat {t : TypeId} {ks : List Bk} (hc : eqClass P t = some (.flat ks)) : P.eqGuardType P.depth t = false := by
 unfold eqClass at hc
 split at hc <;> try cases hc
 split at hc
 ·rename_i hg; exact hg.2
 ·cases hc
theorem binOp_eq {t : TypeId} {x y : Value} {c : EqC} {r : Bool} (hr : eqV c x y = some r) (neg : Bool) (ht : (Op.equal t x y).run P w = .ok r w) :
  (binOp (if neg then .neq else .eql) t x y).run P w = .ok (.bool (if neg then !r else r)) w := by
 cases neg <;> cases x <;> cases y <;> first
  | (simp [eqV] at hr; done)
  | (simp [binOp, ht]; done)
theorem res2_eq {t : TypeId} {x y : Operand} {ρ : Operand → Value} {c : EqC} {r neg : Bool} (hc : eqClass P t = some c) (hn : c = .iface → isNilC x = true ∨ isNilC y = true)
  (hr : eqV c (ρ x) (ρ y) = some r) {o : Oper} {yt : TypeId} (ho : o.op = .binOp (if neg then .neq else .eql) t x y yt) :
  (execOp ρ o).run P w = .ok (.value (.bool (if neg then !r else r))) w := by
 obtain ⟨dst, op, ty, pos, after, guard⟩ := o
 simp only at ho; subst ho
 have hg : (eqGuard (if neg then .neq else .eql) t x y (ρ x) (ρ y)).run P w = .ok () w := eqGuard_ok
  (fun h1 h2 => hn (eqV_nil hr h1 h2)) (fun xs ys h1 h2 => by obtain ⟨ks, rfl⟩ := eqV_agg hr h1 h2; exact eqClass_flat hc)
 simp only [execOp, Sem.run_bind, Sem.run_pure, hg, Result.andThen_ok, binOp_eq hr neg (equal_class hc hr)]
end Go.Cw
namespace Go.Cw
open Go
variable {P : Program} {w : World} {h : Heap} {env : Env} {pb : Nat → Option Nat} {N : Num}
theorem sameNow_of {t : TypeId} {kb : Bk} (hb : bkOf P t = some kb) {d : TypeDesc} (hd : P.underlying t = some d) {k x : Value} {r : Bool} (hr : cellEq kb k x = some r) :
  Instr.sameNow d k x = some r := by
 unfold bkOf at hb
 rw [hd] at hb
 split at hb <;> cases hb <;> rename_i hd' <;> cases hd' <;> cases k <;> cases x <;> simp only [cellEq] at hr <;> try cases hr
 ·split at hr <;> cases hr
  rename_i hk; simp [Instr.sameNow, hk]
 ·simp [Instr.sameNow]
 ·simp [Instr.sameNow]
theorem findNow_of {t : TypeId} {kb : Bk} (hb : bkOf P t = some kb) {d : TypeDesc} (hd : P.underlying t = some d) {k : Value} : ∀ (es : List MapEntry) (i : Nat) (r : Option (Nat × Value)),
  findE kb k es i = some r → Instr.findNow d k es i = some r := by
 intro es
 induction es with
 | nil => intro i r hr; simp only [findE] at hr; cases hr; rfl
 | cons e es ih =>
  intro i r hr
  simp only [findE] at hr
  split at hr
  ·rename_i he; cases hr; simp [Instr.findNow, sameNow_of hb hd he]
  ·rename_i he; simp [Instr.findNow, sameNow_of hb hd he, ih _ _ hr]
  ·cases hr
theorem run_findKey {t : TypeId} {kb : Bk} (hb : bkOf P t = some kb) {k : Value} {es : List MapEntry} {r : Option (Nat × Value)} (hr : findE kb k es 0 = some r) :
  (Instr.findKey t k es).run P w = .ok r w := by
 obtain ⟨d, hd⟩ : ∃ d, P.underlying t = some d := by
  unfold bkOf at hb
  split at hb <;> first | exact ⟨_, ‹_›⟩ | cases hb
 simp [Instr.findKey, run_underlying hd, findNow_of hb hd _ _ _ hr]
theorem run_checkKey {t : TypeId} {kb : Bk} (hb : bkOf P t = some kb) (e : Bool) (v : Value) : (Instr.checkKey e 10000 t v).run P w = .ok () w := by
 rw [show Instr.checkKey e 10000 t v = Instr.checkKey e (9999 + 1) t v from rfl, Instr.checkKey.eq_2]
 unfold bkOf at hb
 split at hb <;> cases hb <;> rename_i hd <;> simp [run_underlying hd]
theorem mapZero_spec {t : TypeId} {kb : Bk} {z : Value} (hm : mapZero P t = some (kb, z)) : ∃ k e, P.underlying t = some (.map k e) ∧ bkOf P k = some kb ∧ (P.info? e).bind (·.zero) = some z := by
 unfold mapZero at hm
 split at hm
 ·rename_i k e hd
  split at hm
  ·cases hm
  ·rename_i kb' z' hk hz; cases hm; exact ⟨k, e, hd, hk, hz⟩
  ·cases hm
 ·cases hm
theorem entriesOf_spec {m : Value} {es : List MapEntry} (he : entriesOf h m = some es) :
  (m = .map none ∧ es = []) ∨ ∃ r es' ck, m = .map (some r) ∧ h r = some (.map es' ck) ∧ es = es'.toList := by
 unfold entriesOf at he
 split at he
 ·cases he; exact .inl ⟨rfl, rfl⟩
 ·split at he
  ·rename_i hh; cases he; exact .inr ⟨_, _, _, rfl, hh, rfl⟩
  ·cases he
 ·cases he
theorem run_lookup {t : TypeId} {kb : Bk} {z : Value} (hm : mapZero P t = some (kb, z)) (hs : h.sub w) {m k : Value} {es : List MapEntry} (he : entriesOf h m = some es)
  {r : Option (Nat × Value)} (hr : findE kb k es 0 = some r) (ok : Bool) :
  (Instr.lookup t m k ok).run P w = .ok (match r with | some (_, v) => if ok then .tuple #[v, .bool true] else v | none => if ok then .tuple #[z, .bool false] else z) w := by
 obtain ⟨kt, et, hd, hk, hz⟩ := mapZero_spec hm
 rcases entriesOf_spec he with ⟨rfl, rfl⟩ | ⟨b, es', ck, rfl, hh, rfl⟩
 ·simp only [findE] at hr; cases hr
  simp only [Instr.lookup, Sem.run_bind, run_underlying hd, Result.andThen_ok, Sem.run_pure, run_checkKey hk]
  simp [run_findKey (P := P) (w := w) hk (k := k) (es := []) (r := none) rfl, run_zeroValue' hz]
 ·simp only [Instr.lookup, Sem.run_bind, run_underlying hd, Result.andThen_ok, Sem.run_pure, run_checkKey hk, run_mapObj (hs _ _ hh), run_findKey hk hr]
  cases r with
  | none => simp [run_zeroValue' hz]
  | some p => obtain ⟨i, v⟩ := p; cases ok <;> simp
theorem urel_o2 {o : O2} {a b : UV} {u' : UV} (hv : o2V h o a b = some u') : (∃ x y z, a = .v x ∧ b = .v y ∧ u' = .v z) ∨ ∃ i off k n, a = .p i off ∧ b = .v (.int k n) := by
 cases a with
 | v x => cases b with
  | v y => obtain ⟨z, rfl⟩ := o2_v hv; exact .inl ⟨x, y, z, rfl, rfl, rfl⟩
  | p i off => simp [o2V] at hv
 | p i off => cases b with
  | v y => cases y <;> first | exact .inr ⟨_, _, _, _, rfl, rfl⟩ | (simp [o2V] at hv; done)
  | p i off => simp [o2V] at hv
theorem indexAt_slice {t e : TypeId} {n : Nat} (hd : P.underlying t = some (.slice e)) (hn : sizeOf' P e = some n) {a : Addr} {len cap : Nat} {k : IntKind} {i : Int} (hb : inBounds i len = true) :
  (Instr.indexAt t (.slice (some a) len cap) (.int k i)).run P w = .ok (.pointer (some (a.add (i.toNat * n)))) w := by
 have hb' := inBounds_iff.1 hb
 simp [Instr.indexAt, asIntOf, run_underlying hd, hb'.1, hb'.2, run_sizeOf' hn]
theorem indexAt_array {t e : TypeId} {n len : Nat} (hd : P.underlying t = some (.array len e)) (hn : sizeOf' P e = some n) {a : Addr} {k : IntKind} {i : Int} (hb : inBounds i len = true) :
  (Instr.indexAt t (.pointer (some a)) (.int k i)).run P w = .ok (.pointer (some (a.add (i.toNat * n)))) w := by
 have hb' := inBounds_iff.1 hb
 simp [Instr.indexAt, asIntOf, run_underlying hd, hb'.1, hb'.2, run_sizeOf' hn, Instr.sureAddr]
def O2.heapy : O2 → Bool
 | .lkp _ _ | .lkpo _ _ => true
 | _ => false
theorem res2_sound {o : Oper} {r : O2} {x y : Operand} (hr : res2 P o.op = some (r, x, y)) {ρ : Operand → Value} {a b u' : UV}
  (ha : urel pb a (ρ x)) (hb : urel pb b (ρ y)) (hv : o2V h r a b = some u') (hs : r.heapy = true → h.sub w) : ∃ z, (execOp ρ o).run P w = .ok (.value z) w ∧ urel pb u' z := by
 have bin : ∀ {op t yt} {x y : Operand}, o.op = .binOp op t x y yt → ∀ {a b : UV}, urel pb a (ρ x) → urel pb b (ρ y) → ∀ {u'}, o2V h (.bin op) a b = some u' → ∃ z, (execOp ρ o).run P w = .ok (.value z) w ∧ urel pb u' z := by
  intro op t yt x y ho a b ha hb u' hv
  obtain ⟨dst, op', ty, pos, after, guard⟩ := o
  simp only at ho; subst ho
  rcases urel_o2 hv with ⟨p, q, z, rfl, rfl, rfl⟩ | ⟨i, off, k, n, rfl, rfl⟩
  ·rw [urel_v] at ha hb
   simp only [o2V, Option.map_eq_some_iff] at hv
   obtain ⟨z', h1, h2⟩ := hv
   cases h2
   refine ⟨z, ?_, rfl⟩
   cases p <;> cases q <;> first | (simp [binV] at h1; done) | skip
   ·have hg := eqGuard_ok (P := P) (w := w) (op := op) (t := t) (x := x) (y := y) (a := ρ x) (b := ρ y) (fun h => by rw [ha] at h; cases h) (fun _ _ h => by rw [ha] at h; cases h)
    simp only [execOp, Sem.run_bind, Sem.run_pure, hg, Result.andThen_ok]
    rw [ha, hb, run_int h1]; rfl
   ·have hg := eqGuard_ok (P := P) (w := w) (op := op) (t := t) (x := x) (y := y) (a := ρ x) (b := ρ y) (fun h => by rw [ha] at h; cases h) (fun _ _ h => by rw [ha] at h; cases h)
    simp only [execOp, Sem.run_bind, Sem.run_pure, hg, Result.andThen_ok]
    rw [ha, hb, run_str h1]; rfl
  ·simp [o2V] at hv
 have eqq : ∀ {neg t yt} {x y : Operand} {c}, o.op = .binOp (if neg then .neq else .eql) t x y yt → eqClass P t = some c → (c = .iface → isNilC x = true ∨ isNilC y = true) → ∀ {a b : UV}, urel pb a (ρ x) → urel pb b (ρ y) → ∀ {u'}, o2V h (.eqv c neg) a b = some u' → ∃ z, (execOp ρ o).run P w = .ok (.value z) w ∧ urel pb u' z := by
  intro neg t yt x y c ho hc hn a b ha hb u' hv
  rcases urel_o2 hv with ⟨p, q, z, rfl, rfl, rfl⟩ | ⟨i, off, k, n, rfl, rfl⟩
  ·rw [urel_v] at ha hb
   simp only [o2V, Option.map_eq_some_iff] at hv
   obtain ⟨r, h1, h2⟩ := hv
   cases h2
   subst ha; subst hb
   exact ⟨_, res2_eq hc hn h1 ho, rfl⟩
  ·simp [o2V] at hv
 unfold res2 at hr
 split at hr
 ·rename_i op t x' y' yt heq
  split at hr
  ·cases hr; exact bin heq ha hb hv
  ·cases hr; exact bin heq ha hb hv
  ·split at hr
   ·rename_i hc
    split at hr <;> cases hr
    rename_i hn
    exact eqq (neg := false) heq hc (fun _ => by simpa using hn) ha hb hv
   ·rename_i c hni hc
    cases hr
    exact eqq (neg := false) heq hc (fun e => absurd e (by simpa using hni)) ha hb hv
   ·cases hr
  ·split at hr
   ·rename_i hc
    split at hr <;> cases hr
    rename_i hn
    exact eqq (neg := true) heq hc (fun _ => by simpa using hn) ha hb hv
   ·rename_i c hni hc
    cases hr
    exact eqq (neg := true) heq hc (fun e => absurd e (by simpa using hni)) ha hb hv
   ·cases hr
  ·cases hr
 all_goals (obtain ⟨dst, op', ty, pos, after, guard⟩ := o)
 ·
  rename_i t x' y' heq
  simp only at heq; subst heq
  split at hr
  ·rename_i e hd
   obtain ⟨n, hn, h2⟩ := Option.map_eq_some_iff.1 hr
   cases h2
   rcases urel_o2 hv with ⟨p, q, z, rfl, rfl, rfl⟩ | ⟨i, off, k, n, rfl, rfl⟩
   ·rw [urel_v] at ha hb
    cases p with
    | slice ad len cap =>
     cases ad with
     | none => cases q <;> simp [o2V] at hv
     | some ad =>
      cases q <;> simp only [o2V] at hv <;> try cases hv
      split at hv <;> cases hv
      rename_i hbd
      exact ⟨_, by simp only [execOp, ha, hb, Sem.run_bind, indexAt_slice hd hn hbd, Result.andThen_ok]; rfl, rfl⟩
    | _ => cases q <;> simp [o2V] at hv
   ·simp [o2V] at hv
  ·rename_i len e hd
   obtain ⟨n, hn, h2⟩ := Option.map_eq_some_iff.1 hr
   cases h2
   rcases urel_o2 hv with ⟨p, q, z, rfl, rfl, rfl⟩ | ⟨i, off, k, m, rfl, rfl⟩
   ·rw [urel_v] at ha hb
    cases p with
    | pointer ad =>
     cases ad with
     | none => cases q <;> simp [o2V] at hv
     | some ad =>
      cases q <;> simp only [o2V] at hv <;> try cases hv
      split at hv <;> cases hv
      rename_i hbd
      exact ⟨_, by simp only [execOp, ha, hb, Sem.run_bind, indexAt_array hd hn hbd, Result.andThen_ok]; rfl, rfl⟩
    | _ => cases q <;> simp [o2V] at hv
   ·obtain ⟨b', hb1, hb2⟩ := ha
    rw [urel_v] at hb
    simp only [o2V] at hv
    split at hv <;> cases hv
    rename_i hbd
    exact ⟨.pointer (some ⟨b', off + m.toNat * n, none⟩), by simp only [execOp, hb2, hb, Sem.run_bind, indexAt_array hd hn hbd, Result.andThen_ok, addr_add]; rfl, b', hb1, rfl⟩
  ·cases hr
 ·
  rename_i t x' y' heq
  simp only at heq; subst heq
  split at hr
  ·rename_i hd
   cases hr
   rcases urel_o2 hv with ⟨p, q, z, rfl, rfl, rfl⟩ | ⟨i, off, k, m, rfl, rfl⟩
   ·rw [urel_v] at ha hb
    cases p <;> cases q <;> simp only [o2V] at hv <;> try cases hv
    rename_i s k m
    split at hv <;> cases hv
    rename_i hbd
    have hbd' := inBounds_iff.1 hbd
    refine ⟨_, ?_, rfl⟩
    have hlt : m.toNat < s.size := by omega
    have hg : s[m.toNat]? = some (s.data.getD m.toNat 0) := by
     have hlt' : m.toNat < s.data.size := hlt
     rw [getElem?_pos s m.toNat hlt]
     have e : s.data.getD m.toNat 0 = s.data[m.toNat] := by unfold Array.getD; rw [dif_pos hlt']; rfl
     rw [e]; rfl
    simp [execOp, ha, hb, Instr.index, asIntOf, run_underlying hd, hbd'.1, hg]
   ·simp [o2V] at hv
  ·rename_i len e hd
   split at hr
   ·rename_i hag hsz
    cases hr
    rcases urel_o2 hv with ⟨p, q, z, rfl, rfl, rfl⟩ | ⟨i, off, k, m, rfl, rfl⟩
    ·rw [urel_v] at ha hb
     cases p <;> cases q <;> simp only [o2V] at hv <;> try cases hv
     split at hv <;> try cases hv
     rename_i hbd
     have hbd' := inBounds_iff.1 hbd
     obtain ⟨z', h1, h2⟩ := Option.map_eq_some_iff.1 hv
     cases h2
     exact ⟨_, by simp [execOp, ha, hb, Instr.index, asIntOf, run_underlying hd, hbd'.1, hbd'.2, part, isAgg_false hag, run_sizeOf' hsz, h1], rfl⟩
    ·simp [o2V] at hv
   ·rename_i n hag hsz
    cases hr
    rcases urel_o2 hv with ⟨p, q, z, rfl, rfl, rfl⟩ | ⟨i, off, k, m, rfl, rfl⟩
    ·rw [urel_v] at ha hb
     cases p <;> cases q <;> simp only [o2V] at hv <;> try cases hv
     split at hv <;> cases hv
     rename_i hbd
     have hbd' := inBounds_iff.1 hbd
     exact ⟨_, by simp [execOp, ha, hb, Instr.index, asIntOf, run_underlying hd, hbd'.1, hbd'.2, part, isAgg_true hag, run_sizeOf' hsz], rfl⟩
    ·simp [o2V] at hv
   ·cases hr
  ·cases hr
 ·
  rename_i t x' y' ok heq
  simp only at heq; subst heq
  split at hr <;> try cases hr
  rename_i kb z hm
  rcases urel_o2 hv with ⟨p, q, z', rfl, rfl, rfl⟩ | ⟨i, off, k, m, rfl, rfl⟩
  ·rw [urel_v] at ha hb
   cases ok <;> simp only [o2V, if_true, if_false, Bool.false_eq_true] at hv <;> obtain ⟨es, he, h2⟩ := Option.bind_eq_some_iff.1 hv <;> obtain ⟨r, h3, h4⟩ := Option.map_eq_some_iff.1 h2 <;> cases h4 <;>
    refine ⟨_, ?_, rfl⟩ <;> simp only [execOp, ha, hb, Sem.run_bind, run_lookup hm (hs rfl) he h3, Result.andThen_ok, Sem.run_pure] <;> cases r <;> rfl
  ·cases ok <;> simp [o2V] at hv
 ·rename_i as ts heq
  simp only at heq; subst heq
  split at hr <;> cases hr
  rename_i has
  obtain ⟨as⟩ := as; simp only at has; subst has
  rcases urel_o2 hv with ⟨p, q, z, rfl, rfl, rfl⟩ | ⟨i, off, k, m, rfl, rfl⟩
  ·rw [urel_v] at ha hb
   cases p <;> cases q <;> simp only [o2V] at hv <;> try cases hv
   exact ⟨_, by simp [execOp, resolve, invoke, builtin, Builtin.max_, Builtin.max2, ha, hb], rfl⟩
  ·simp [o2V] at hv
 ·rename_i as ts heq
  simp only at heq; subst heq
  split at hr <;> cases hr
  rename_i has
  obtain ⟨as⟩ := as; simp only at has; subst has
  rcases urel_o2 hv with ⟨p, q, z, rfl, rfl, rfl⟩ | ⟨i, off, k, m, rfl, rfl⟩
  ·rw [urel_v] at ha hb
   cases p <;> cases q <;> simp only [o2V] at hv <;> try cases hv
   exact ⟨_, by simp [execOp, resolve, invoke, builtin, Builtin.min_, Builtin.min2, ha, hb], rfl⟩
  ·simp [o2V] at hv
 ·cases hr
end Go.Cw
namespace Go.Cw
open Go
def partAt (P : Program) (t : TypeId) (i : Nat) : Option (Nat × Nat) :=
 match P.underlying t with
 | some (.struct fs) => (fs[i]?).bind fun f => (sizeOf' P f.type).map fun n => (f.offset, n)
 | some (.array _ e) => (sizeOf' P e).map fun n => (i * n, n)
 | _ => none
def mkBuild (P : Program) (σ : Operand → Option Ex) (t : TypeId) : Ex → List (Nat × Operand) → Option Ex
 | b, [] => some b
 | b, (i, x) :: r =>
  match partAt P t i, σ x with
  | some (off, n), some e => mkBuild P σ t (.o2 (.bput off n) b e) r
  | _, _ => none
def fieldsOk (P : Program) (t : TypeId) : Bool :=
 match P.underlying t with
 | some (.struct fs) => fs.toList.all fun f => (sizeOf' P f.type).isSome
 | some (.array _ e) => (sizeOf' P e).isSome
 | _ => true
def zeroCells (P : Program) (t : TypeId) : Option (Array Value) := ((P.info? t).bind (·.zero)).map (·.cells)
def mkCaps (σ : Operand → Option Ex) : Ex → List Operand → Option Ex
 | b, [] => some b
 | b, x :: r =>
  match σ x with
  | some e => mkCaps σ (.o2 .capp b e) r
  | none => none
def loEx (σ : Operand → Option Ex) : Option Operand → Option Ex
 | none => some (.con (.int .i64 0))
 | some y => σ y
def hiEx (o : O1) (ex : Ex) (σ : Operand → Option Ex) : Option Operand → Option Ex
 | none => some (.o1 o ex)
 | some y => σ y
def mk (P : Program) (tk fk : Nat → Option Nat) (σ : Operand → Option Ex) (op : Op) : Option Ex :=
 match op with
 | .move x | .assign x => σ x
 | .pick c a b =>
  match σ c, σ a, σ b with
  | some c, some a, some b => some (.pick c a b)
  | _, _, _ => none
 | .build t parts =>
  match aggOf P t, fieldsOk P t, zeroCells P t with
  | some true, true, some z => mkBuild P σ t (.con (.agg z)) parts.toList
  | _, _, _ => none
 | .makeFunc (.func f) first caps =>
  match first.toList, fk f with
  | [], some k => mkCaps σ (.mkf k) caps.toList
  | _, _ => none
 | .slice t x lo hi none =>
  match σ x with
  | none => none
  | some ex =>
   match P.underlying t with
   | some .string =>
    match loEx σ lo, hiEx .slen ex σ hi with
    | some l, some r => some (.o3 .ssl ex l r)
    | _, _ => none
   | some (.slice e) =>
    match sizeOf' P e, loEx σ lo, hiEx .llen ex σ hi with
    | some n, some l, some r => some (.o3 (.lsl n) ex l r)
    | _, _, _ => none
   | _ => none
 | op =>
  match res1 P tk op with
  | some (o, x) => (σ x).map (.o1 o)
  | none =>
   match res2 P op with
   | some (o, x, y) =>
    match σ x, σ y with
    | some x, some y => some (.o2 o x y)
    | _, _ => none
   | none => none
variable {P : Program} {w : World} {h : Heap} {env : Env} {pb : Nat → Option Nat} {N : Num} {tk fk : Nat → Option Nat}
theorem fold_putL (off : Nat) (l : List Value) : ∀ (k : Nat) (c : Array Value), (l.zipIdx k).foldl (fun cs x => cs.setIfInBounds (off + x.2) x.1) c = putL c (off + k) l := by
 induction l with
 | nil => intro k c; rfl
 | cons v l ih => intro k c; simp only [List.zipIdx_cons, List.foldl_cons, ih, putL]; rfl
theorem fill_ok (place : Nat → Option (Nat × Nat)) (c : Array Value) (i off n : Nat) (x : Value) (rest : List (Nat × Value)) (hp : place i = some (off, n)) (hx : x.cells.size = n) (hc : off + n ≤ c.size) :
  Instr.fill place c ((i, x) :: rest) = Instr.fill place (putL c off x.cells.toList) rest := by
 subst hx
 have h1 : (x.cells.size ≠ x.cells.size || off + x.cells.size > c.size) = false := by simp; omega
 simp only [Instr.fill, hp, h1]
 congr 1
 have := fold_putL off x.cells.toList 0 c
 rw [Nat.add_zero] at this
 rw [← this, ← Array.foldl_toList]
 simp
theorem run_mapM_list {α β : Type} (f : α → Sem β) (g : α → β) (w : World) : ∀ (l : List α), (∀ x ∈ l, (f x).run P w = .ok (g x) w) → (l.mapM f).run P w = .ok (l.map g) w := by
 intro l
 induction l with
 | nil => intro _; rfl
 | cons x l ih =>
  intro hl
  simp only [List.mapM_cons, Sem.run_bind, hl x (by simp), Result.andThen_ok, ih (fun y hy => hl y (by simp [hy])), Sem.run_pure, List.map_cons]
theorem run_mapM_array {α β : Type} (f : α → Sem β) (g : α → β) (w : World) (l : Array α) (hl : ∀ x ∈ l, (f x).run P w = .ok (g x) w) : (l.mapM f).run P w = .ok (l.map g) w := by
 rw [Array.mapM_eq_mapM_toList]
 simp only [Sem.run_map, run_mapM_list f g w l.toList (fun x hx => hl x (by simpa using hx)), Result.andThen_ok]
 rw [← Array.toList_map]
def Says (N : Num) (env : Env) (h : Heap) (pb : Nat → Option Nat) (σ : Operand → Option Ex) (ρ : Operand → Value) (x : Operand) : Prop :=
 ∀ e u, σ x = some e → ev N env h e = some u → urel pb u (ρ x)
theorem ev_o2 {N : Num} {env : Env} {h : Heap} {o : O2} {a b : Ex} {u : UV} (hv : ev N env h (.o2 o a b) = some u) : ∃ x y, ev N env h a = some x ∧ ev N env h b = some y ∧ o2V h o x y = some u := by
 simp only [ev] at hv
 obtain ⟨x, h1, h2⟩ := Option.bind_eq_some_iff.1 hv
 obtain ⟨y, h3, h4⟩ := Option.bind_eq_some_iff.1 h2
 exact ⟨x, y, h1, h3, h4⟩
theorem ev_o1 {N : Num} {env : Env} {h : Heap} {o : O1} {a : Ex} {u : UV} (hv : ev N env h (.o1 o a) = some u) : ∃ x, ev N env h a = some x ∧ o1V N env h o x = some u := by
 simp only [ev] at hv
 exact Option.bind_eq_some_iff.1 hv
theorem ev_o3 {N : Num} {env : Env} {h : Heap} {o : O3} {a b c : Ex} {u : UV} (hv : ev N env h (.o3 o a b c) = some u) :
  ∃ x y z, ev N env h a = some x ∧ ev N env h b = some y ∧ ev N env h c = some z ∧ o3V o x y z = some u := by
 simp only [ev] at hv
 obtain ⟨x, h1, h2⟩ := Option.bind_eq_some_iff.1 hv
 obtain ⟨y, h3, h4⟩ := Option.bind_eq_some_iff.1 h2
 obtain ⟨z, h5, h6⟩ := Option.bind_eq_some_iff.1 h4
 exact ⟨x, y, z, h1, h3, h5, h6⟩
theorem o2_bput {off n : Nat} {x y u : UV} (hv : o2V h (.bput off n) x y = some u) : ∃ c z, x = .v (.agg c) ∧ y = .v z ∧ z.cells.size = n ∧ off + n ≤ c.size ∧ u = .v (.agg (putL c off z.cells.toList)) := by
 cases x with
 | p i o => cases y with
  | v z => cases z <;> simp [o2V] at hv
  | p _ _ => simp [o2V] at hv
 | v x => cases y with
  | p _ _ => simp [o2V] at hv
  | v z =>
   cases x <;> simp only [o2V] at hv <;> try cases hv
   split at hv <;> cases hv
   rename_i hc
   exact ⟨_, z, rfl, rfl, hc.1, hc.2, rfl⟩
theorem mkBuild_ev {σ : Operand → Option Ex} {t : TypeId} : ∀ (parts : List (Nat × Operand)) (b e : Ex) (u : UV), mkBuild P σ t b parts = some e → ev N env h e = some u → ∃ ub, ev N env h b = some ub := by
 intro parts
 induction parts with
 | nil => intro b e u hm hv; simp only [mkBuild] at hm; cases hm; exact ⟨u, hv⟩
 | cons p parts ih =>
  intro b e u hm hv
  obtain ⟨i, x⟩ := p
  simp only [mkBuild] at hm
  split at hm <;> try cases hm
  obtain ⟨ub, h1⟩ := ih _ _ _ hm hv
  obtain ⟨xv, yv, h2, h3, h4⟩ := ev_o2 h1
  exact ⟨_, h2⟩
theorem mkBuild_sound {σ : Operand → Option Ex} {ρ : Operand → Value} {t : TypeId} {place : Nat → Option (Nat × Nat)} (hpl : ∀ i r, partAt P t i = some r → place i = some r) :
  ∀ (parts : List (Nat × Operand)) (b e : Ex) (u : UV) (c : Array Value), (∀ p ∈ parts, Says N env h pb σ ρ p.2) → mkBuild P σ t b parts = some e → ev N env h e = some u → ev N env h b = some (.v (.agg c)) →
   ∃ c', u = .v (.agg c') ∧ Instr.fill place c (parts.map fun p => (p.1, ρ p.2)) = some c' := by
 intro parts
 induction parts with
 | nil =>
  intro b e u c _ hm hv hb
  simp only [mkBuild] at hm; cases hm
  rw [hb] at hv; cases hv
  exact ⟨c, rfl, rfl⟩
 | cons p parts ih =>
  intro b e u c hs hm hv hb
  obtain ⟨i, x⟩ := p
  simp only [mkBuild] at hm
  split at hm <;> try cases hm
  rename_i off n ex hp hx
  obtain ⟨ub, h1⟩ := mkBuild_ev _ _ _ _ hm hv
  obtain ⟨xv, yv, h2, h3, h4⟩ := ev_o2 h1
  rw [hb] at h2; cases h2
  obtain ⟨c0, z, e1, e2, h5, h6, e3⟩ := o2_bput h4
  cases e1; subst e2; subst e3
  have hz : ρ x = z := hs (i, x) (by simp) ex _ hx h3
  obtain ⟨c', e4, h7⟩ := ih _ _ _ _ (fun p hp => hs p (by simp [hp])) hm hv h1
  refine ⟨c', e4, ?_⟩
  rw [List.map_cons, hz, fill_ok place c i off n z _ (hpl _ _ hp) h5 h6]
  exact h7
theorem build_sound {σ : Operand → Option Ex} {ρ : Operand → Value} {t : TypeId} {parts : Array (Nat × Operand)} {z : Array Value} (ha : aggOf P t = some true) (hf : fieldsOk P t = true) (hz : zeroCells P t = some z)
  {e : Ex} {u : UV} (hs : ∀ p ∈ parts.toList, Says N env h pb σ ρ p.2) (hm : mkBuild P σ t (.con (.agg z)) parts.toList = some e) (hv : ev N env h e = some u) :
  ∃ y, (Instr.build t (parts.map fun p => (p.1, ρ p.2))).run P w = .ok y w ∧ urel pb u y := by
 obtain ⟨zv, hz1, rfl⟩ := Option.map_eq_some_iff.1 hz
 unfold aggOf at ha
 split at ha <;> try cases ha
 ·rename_i fs hd
  have hpl : ∀ i r, partAt P t i = some r → (fs.map fun f => (f.offset, (sizeOf' P f.type).getD 0))[i]? = some r := by
   intro i r hr
   simp only [partAt, hd] at hr
   obtain ⟨f, h1, h2⟩ := Option.bind_eq_some_iff.1 hr
   obtain ⟨n, h3, rfl⟩ := Option.map_eq_some_iff.1 h2
   simp [h1, h3]
  obtain ⟨c', rfl, h1⟩ := mkBuild_sound (place := fun i => (fs.map fun f => (f.offset, (sizeOf' P f.type).getD 0))[i]?) hpl parts.toList _ _ _ _ hs hm hv rfl
  refine ⟨.agg c', ?_, rfl⟩
  have hmap : (fs.mapM fun f => do pure (f.offset, ← sizeOf f.type) : Sem (Array (Nat × Nat))).run P w = .ok (fs.map fun f => (f.offset, (sizeOf' P f.type).getD 0)) w := by
   refine run_mapM_array _ _ w fs fun f hf' => ?_
   simp only [fieldsOk, hd, List.all_eq_true] at hf
   have hsz := hf f (by simpa using hf')
   obtain ⟨n, hn⟩ := Option.isSome_iff_exists.1 hsz
   simp [run_sizeOf' hn, hn]
  simp only [Instr.build, Sem.run_bind, run_zeroValue' hz1, run_underlying hd, Result.andThen_ok, hmap]
  have hl : (parts.map fun p => (p.1, ρ p.2)).toList = parts.toList.map fun p => (p.1, ρ p.2) := by simp
  rw [hl, h1]
  rfl
 ·rename_i len el hd
  simp only [fieldsOk, hd] at hf
  obtain ⟨n, hn⟩ := Option.isSome_iff_exists.1 hf
  have hpl : ∀ i r, partAt P t i = some r → (fun i => some (i * n, n)) i = some r := by
   intro i r hr
   simp only [partAt, hd, hn] at hr
   exact hr
  obtain ⟨c', rfl, h1⟩ := mkBuild_sound hpl parts.toList _ _ _ _ hs hm hv rfl
  refine ⟨.agg c', ?_, rfl⟩
  simp only [Instr.build, Sem.run_bind, run_zeroValue' hz1, run_underlying hd, Result.andThen_ok, run_sizeOf' hn]
  have hl : (parts.map fun p => (p.1, ρ p.2)).toList = parts.toList.map fun p => (p.1, ρ p.2) := by simp
  rw [hl, h1]
  rfl
theorem mkCaps_ev {σ : Operand → Option Ex} : ∀ (l : List Operand) (b e : Ex) (u : UV), mkCaps σ b l = some e → ev N env h e = some u → ∃ ub, ev N env h b = some ub := by
 intro l
 induction l with
 | nil => intro b e u hm hv; simp only [mkCaps] at hm; cases hm; exact ⟨u, hv⟩
 | cons x l ih =>
  intro b e u hm hv
  simp only [mkCaps] at hm
  split at hm <;> try cases hm
  obtain ⟨ub, h1⟩ := ih _ _ _ hm hv
  obtain ⟨xv, yv, h2, h3, h4⟩ := ev_o2 h1
  exact ⟨_, h2⟩
theorem mkCaps_sound {σ : Operand → Option Ex} {ρ : Operand → Value} : ∀ (l : List Operand) (b e : Ex) (u : UV) (fn : Fn) (fi cs : Array Value), (∀ x ∈ l, Says N env h pb σ ρ x) → mkCaps σ b l = some e → ev N env h e = some u →
  ev N env h b = some (.v (.func fn fi cs)) → u = .v (.func fn fi (cs ++ (l.map ρ).toArray)) := by
 intro l
 induction l with
 | nil => intro b e u fn fi cs _ hm hv hb; simp only [mkCaps] at hm; cases hm; rw [hb] at hv; cases hv; simp
 | cons x l ih =>
  intro b e u fn fi cs hs hm hv hb
  simp only [mkCaps] at hm
  split at hm <;> try cases hm
  rename_i ex hx
  obtain ⟨ub, h1⟩ := mkCaps_ev _ _ _ _ hm hv
  obtain ⟨xv, yv, h2, h3, h4⟩ := ev_o2 h1
  rw [hb] at h2; cases h2
  cases yv with
  | p i o => simp [o2V] at h4
  | v z =>
   simp only [o2V] at h4; cases h4
   have hz : ρ x = z := hs x (by simp) ex _ hx h3
   have := ih _ _ _ fn fi (cs.push z) (fun y hy => hs y (by simp [hy])) hm hv h1
   rw [this, ← hz]
   simp
theorem run_slice_str {t : TypeId} (hd : P.underlying t = some .string) {s : ByteArray} {lo hi : Option Value} {l r : Nat} (hl : (lo = none ∧ l = 0) ∨ ∃ k n, lo = some (.int k n) ∧ 0 ≤ n ∧ l = n.toNat)
  (hr : (hi = none ∧ r = s.size) ∨ ∃ k n, hi = some (.int k n) ∧ 0 ≤ n ∧ r = n.toNat) (h1 : l ≤ r) (h2 : r ≤ s.size) :
  (Instr.sliceAt t (.string s) lo hi none).run P w = .ok (.string (s.extract l r)) w := by
 rcases hl with ⟨rfl, rfl⟩ | ⟨k, n, rfl, hn, rfl⟩ <;> rcases hr with ⟨rfl, rfl⟩ | ⟨k', m, rfl, hm, rfl⟩ <;>
  simp only [Instr.sliceAt, Sem.run_bind, run_underlying hd, Result.andThen_ok, Instr.slice, Instr.sliceBounds, Instr.sliceBound, asIntOf, Sem.run_pure] <;> simp
 ·simp [hm]; intro hb; exfalso; omega
 ·simp [hn]; intro hb; exfalso; omega
 ·have h3 : m ≤ (s.size : Int) := by omega
  simp [hm, h3, hn]; intro hb; exfalso; omega
theorem run_slice_sl {t e : TypeId} {size : Nat} (hd : P.underlying t = some (.slice e)) (hsz : sizeOf' P e = some size) {a : Option Addr} {len cap : Nat} {lo hi : Option Value} {l r : Nat}
  (hl : (lo = none ∧ l = 0) ∨ ∃ k n, lo = some (.int k n) ∧ 0 ≤ n ∧ l = n.toNat)
  (hr : (hi = none ∧ r = len) ∨ ∃ k n, hi = some (.int k n) ∧ 0 ≤ n ∧ r = n.toNat) (h1 : l ≤ r) (h2 : r ≤ cap) :
  (Instr.sliceAt t (.slice a len cap) lo hi none).run P w = .ok (.slice (if cap = l then a else a.map (·.add (l * size))) (r - l) (cap - l)) w := by
 rcases hl with ⟨rfl, rfl⟩ | ⟨k, n, rfl, hn, rfl⟩ <;> rcases hr with ⟨rfl, rfl⟩ | ⟨k', m, rfl, hm, rfl⟩ <;>
  simp only [Instr.sliceAt, Sem.run_bind, run_underlying hd, Result.andThen_ok, Instr.slice, Instr.sliceBounds, Instr.sliceBound, asIntOf] <;> simp [run_sizeOf' hsz]
 ·have h3 : m ≤ (cap : Int) := by omega
  simp [hm]; intro hb; exfalso; omega
 ·have h3 : n ≤ (r : Int) := by omega
  simp [hn]; intro hb; exfalso; omega
 ·have h3 : m ≤ (cap : Int) := by omega
  have h4 : n ≤ m := by omega
  simp [hm, h3, hn]; intro hb; exfalso; omega
theorem bound_lo {σ : Operand → Option Ex} {ρ : Operand → Value} {lo : Option Operand} (hs : ∀ x, lo = some x → Says N env h pb σ ρ x) {l : Ex}
  (hl : loEx σ lo = some l) {k : IntKind} {n : Int} (hv : ev N env h l = some (.v (.int k n))) (h0 : 0 ≤ n) :
  (lo.map ρ = none ∧ n.toNat = 0) ∨ ∃ k m, lo.map ρ = some (.int k m) ∧ 0 ≤ m ∧ n.toNat = m.toNat := by
 cases lo with
 | none => simp only [loEx] at hl; cases hl; simp only [ev] at hv; cases hv; exact .inl ⟨rfl, rfl⟩
 | some y => exact .inr ⟨k, n, by rw [Option.map_some, (hs y rfl l _ hl hv : ρ y = _)], h0, rfl⟩
theorem o3_ssl {x y z u : UV} (hv : o3V .ssl x y z = some u) : ∃ s k lo k' hi, x = .v (.string s) ∧ y = .v (.int k lo) ∧ z = .v (.int k' hi) ∧ 0 ≤ lo ∧ lo ≤ hi ∧ hi ≤ (s.size : Int) ∧ u = .v (.string (s.extract lo.toNat hi.toNat)) := by
 unfold o3V at hv
 split at hv
 ·split at hv <;> cases hv
  rename_i hc
  exact ⟨_, _, _, _, _, rfl, rfl, rfl, hc.1, hc.2.1, hc.2.2, rfl⟩
 ·rename_i heq; cases heq
 ·cases hv
theorem o3_lsl {size : Nat} {x y z u : UV} (hv : o3V (.lsl size) x y z = some u) : ∃ a len cap k lo k' hi, x = .v (.slice a len cap) ∧ y = .v (.int k lo) ∧ z = .v (.int k' hi) ∧ 0 ≤ lo ∧ lo ≤ hi ∧ hi ≤ (cap : Int) ∧
  u = .v (.slice (if cap = lo.toNat then a else a.map (·.add (lo.toNat * size))) (hi.toNat - lo.toNat) (cap - lo.toNat)) := by
 cases x with
 | p _ _ => simp [o3V] at hv
 | v x =>
  cases y with
  | p _ _ => cases x <;> simp [o3V] at hv
  | v y =>
   cases z with
   | p _ _ => cases x <;> cases y <;> simp [o3V] at hv
   | v z =>
    cases x <;> cases y <;> cases z <;> simp only [o3V] at hv <;> try cases hv
    split at hv <;> cases hv
    rename_i hc
    exact ⟨_, _, _, _, _, _, _, rfl, rfl, rfl, hc.1, hc.2.1, hc.2.2, rfl⟩
def heapyOp (P : Program) (tk : Nat → Option Nat) (op : Op) : Bool :=
 match res1 P tk op with
 | some (o, _) => o.heapy
 | none =>
  match res2 P op with
  | some (o, _) => o.heapy
  | none => false
theorem mk_sound (htk : ∀ t k, tk t = some k → N.tid k = t) (hfk : ∀ f k, fk f = some k → N.fid k = f) {σ : Operand → Option Ex} {ρ : Operand → Value} {o : Oper}
  (hsay : ∀ x, Says N env h pb σ ρ x) {e : Ex} {u : UV} (hm : mk P tk fk σ o.op = some e) (hv : ev N env h e = some u) (hs : heapyOp P tk o.op = true → h.sub w) (hp : heapyOp P tk o.op = true → Priv pb env h w) :
  ∃ y, (execOp ρ o).run P w = .ok (.value y) w ∧ urel pb u y := by
 have gen : ∀ {e}, (match res1 P tk o.op with
  | some (o, x) => (σ x).map (.o1 o)
  | none =>
   match res2 P o.op with
   | some (o, x, y) =>
    match σ x, σ y with
    | some x, some y => some (.o2 o x y)
    | _, _ => none
   | none => none) = some e → ev N env h e = some u → ∃ y, (execOp ρ o).run P w = .ok (.value y) w ∧ urel pb u y := by
  intro e hm hv
  split at hm
  ·rename_i r x hr
   obtain ⟨ex, h1, rfl⟩ := Option.map_eq_some_iff.1 hm
   obtain ⟨ux, h2, h3⟩ := ev_o1 hv
   exact res1_sound htk hr (hsay x ex ux h1 h2) h3 (fun hh => hs (by simp only [heapyOp, hr]; exact hh)) (fun hh => hp (by simp only [heapyOp, hr]; exact hh))
  ·rename_i hr1
   split at hm
   ·rename_i r x y hr
    split at hm <;> cases hm
    rename_i ex ey hx hy
    obtain ⟨ux, uy, h2, h3, h4⟩ := ev_o2 hv
    exact res2_sound hr (hsay x ex ux hx h2) (hsay y ey uy hy h3) h4 (fun hh => hs (by simp only [heapyOp, hr1, hr]; exact hh))
   ·cases hm
 unfold mk at hm
 split at hm
 ·rename_i x heq
  exact ⟨ρ x, by rw [execOp_of heq]; rfl, hsay x e u hm hv⟩
 ·rename_i x heq
  exact ⟨ρ x, by rw [execOp_of heq]; rfl, hsay x e u hm hv⟩
 ·rename_i c a b heq
  split at hm <;> cases hm
  rename_i ec ea eb hc ha hb
  simp only [ev] at hv
  split at hv
  ·rename_i h1
   have hcv : ρ c = _ := hsay c ec _ hc h1
   exact ⟨ρ a, by rw [execOp_of heq]; simp [execOp, hcv, asBool], hsay a ea u ha hv⟩
  ·rename_i h1
   have hcv : ρ c = _ := hsay c ec _ hc h1
   exact ⟨ρ b, by rw [execOp_of heq]; simp [execOp, hcv, asBool], hsay b eb u hb hv⟩
  ·cases hv
 ·rename_i t parts heq
  split at hm <;> try cases hm
  rename_i z ha hf hz
  obtain ⟨y, h1, h2⟩ := build_sound (w := w) ha hf hz (fun p _ => hsay p.2) hm hv
  exact ⟨y, by rw [execOp_of heq]; simp only [execOp, Sem.run_bind]; rw [h1]; rfl, h2⟩
 ·rename_i f first caps heq
  split at hm <;> try (cases hm; done)
  rename_i k hfi hk
  have := mkCaps_sound caps.toList _ _ _ _ _ _ (fun x _ => hsay x) hm hv rfl
  subst this
  refine ⟨_, ?_, rfl⟩
  obtain ⟨fi⟩ := first
  simp only at hfi; subst hfi
  rw [execOp_of heq, hfk _ _ hk]
  simp [execOp, Instr.makeFunc]
  rw [← Array.toList_map]
 ·rename_i t x lo hi heq
  split at hm
  ·cases hm
  ·rename_i ex hx
   split at hm
   ·rename_i hd
    split at hm <;> cases hm
    rename_i l r hl hr
    obtain ⟨ux, ul, ur, h1, h2, h3, h4⟩ := ev_o3 hv
    obtain ⟨s, k, lo', k', hi', rfl, rfl, rfl, h5, h6, h7, rfl⟩ := o3_ssl h4
    have hxv : ρ x = _ := hsay x ex _ hx h1
    refine ⟨_, ?_, rfl⟩
    have hlo := bound_lo (ρ := ρ) (fun y _ => hsay y) hl h2 h5
    have hhi : (hi.map ρ = none ∧ hi'.toNat = s.size) ∨ ∃ k n, hi.map ρ = some (.int k n) ∧ 0 ≤ n ∧ hi'.toNat = n.toNat := by
     cases hi with
     | none =>
      simp only [hiEx] at hr; cases hr
      obtain ⟨q, h8, h9⟩ := ev_o1 h3
      rw [h1] at h8; cases h8
      simp only [o1V] at h9; cases h9
      exact .inl ⟨rfl, by simp⟩
     | some y => exact .inr ⟨k', hi', by rw [Option.map_some, (hsay y r _ hr h3 : ρ y = _)], by omega, rfl⟩
    rw [execOp_of heq]
    simp only [execOp, Sem.run_bind, hxv, Option.map_none]
    rw [run_slice_str hd hlo hhi (by omega) (by omega)]
    rfl
   ·rename_i el hd
    split at hm <;> cases hm
    rename_i n l r hn hl hr
    obtain ⟨ux, ul, ur, h1, h2, h3, h4⟩ := ev_o3 hv
    obtain ⟨a, len, cap, k, lo', k', hi', rfl, rfl, rfl, h5, h6, h7, rfl⟩ := o3_lsl h4
    have hxv : ρ x = _ := hsay x ex _ hx h1
    refine ⟨_, ?_, rfl⟩
    have hlo := bound_lo (ρ := ρ) (fun y _ => hsay y) hl h2 h5
    have hhi : (hi.map ρ = none ∧ hi'.toNat = len) ∨ ∃ k n, hi.map ρ = some (.int k n) ∧ 0 ≤ n ∧ hi'.toNat = n.toNat := by
     cases hi with
     | none =>
      simp only [hiEx] at hr; cases hr
      obtain ⟨q, h8, h9⟩ := ev_o1 h3
      rw [h1] at h8; cases h8
      simp only [o1V] at h9; cases h9
      exact .inl ⟨rfl, by simp⟩
     | some y => exact .inr ⟨k', hi', by rw [Option.map_some, (hsay y r _ hr h3 : ρ y = _)], by omega, rfl⟩
    rw [execOp_of heq]
    simp only [execOp, Sem.run_bind, hxv, Option.map_none]
    rw [run_slice_sl hd hn hlo hhi (by omega) (by omega)]
    rfl
   ·cases hm
 ·exact gen hm hv
end Go.Cw
namespace Go.Cw
open Go
inductive Ef where
 | new (t : Nat)
 | bsl (t len : Nat)
 | app (t size bytes : Nat)
 | call (f : Nat)
 | cal
 | mnew
 | mupd (kb : Bk)
 | mdel (kb : Bk)
 | st (n : Nat)
 | cpy (size : Nat)
 | rng
 | nxt
 | ent
 deriving Inhabited
abbrev Ctx := Nat → List Value → Heap → (Value → Heap → Prop) → Prop
def newCells (h : Heap) (size : Nat) : Value → Option (Nat × Array Value)
 | .string s => if size = 1 then some (s.size, s.data.map fun b => .int .u8 b.toNat) else none
 | .slice none n _ => if n = 0 then some (0, #[]) else none
 | .slice (some a) n _ => if n * size = 0 then some (n, #[]) else (h.row a (n * size)).map fun c => (n, c)
 | _ => none
def putRow (h : Heap) (a : Addr) (l : List Value) : Option Heap :=
 match l with
 | [] => some h
 | _ =>
  if a.spot.isSome then none else
  match h a.block with
  | some (.cells c t (0, 0)) => if a.off + l.length ≤ c.size ∧ l.all one = true then some (h.set a.block (.cells (putL c a.off l) t (0, 0))) else none
  | _ => none
def cands (es : Array MapEntry) (since : Nat) (seen : Array Nat) : Array (Option MapEntry) :=
 let left := es.filter fun e => !seen.contains e.born
 let old := left.filter (·.born < since)
 let new := left.filter (·.born ≥ since)
 (if old.isEmpty then #[none] else #[]) ++ (old ++ new).map some
def efW (N : Num) (Γ : Ctx) (f : Ef) (us : List Value) (h : Heap) (K : Value → Heap → Prop) : Prop :=
 match f, us with
 | .new t, [x] => ∀ b, h b = none → K (.pointer (some ⟨b, 0, none⟩)) (h.set b (.cells x.cells (N.tid t) (0, 0)))
 | .bsl t len, [.agg c] => ∀ b, h b = none → K (.slice (some ⟨b, 0, none⟩) len len) (h.set b (.cells c (N.tid t) (0, 0)))
 | .app t size bytes, [.slice a n cap, x] =>
  ∃ m news, newCells h size x = some (m, news) ∧
   if n + m ≤ cap then
    match a with
    | none => K (.slice none (n + m) cap) h
    | some g => ∃ h', putRow h (g.add (n * size)) news.toList = some h' ∧ K (.slice (some g) (n + m) cap) h'
   else
    n + m ≤ maxLen ∧ (n + m) * bytes ≤ 140737488355328 ∧
    ∃ m' olds, newCells h size (.slice a n cap) = some (m', olds) ∧
     ∀ b cap' tail, h b = none → n + m ≤ cap' → cap' ≤ maxLen → tail.size = (cap' - (n + m)) * size →
      K (.slice (some ⟨b, 0, none⟩) (n + m) cap') (h.set b (.cells (olds ++ news ++ tail) (N.tid t) (0, 0)))
 | .call f, us => Γ f us h K
 | .cal, .func (.func g) first caps :: us => ∃ k, N.fid k = g ∧ first = #[] ∧ Γ k (us ++ caps.toList) h K
 | .mnew, [] => ∀ b, h b = none → K (.map (some b)) (h.set b (.map #[] 0))
 | .mupd kb, [.map (some r), k, v] =>
  ∃ es ck, h r = some (.map es ck) ∧ ∃ x, findE kb k es.toList 0 = some x ∧
   match x with
   | some (i, _) => K undef (h.set r (.map (es.modify i fun e => { e with key := k, val := v }) ck))
   | none => K undef (h.set r (.map (es.push { key := k, val := v, born := ck }) (ck + 1)))
 | .mdel kb, [.map (some r), k] =>
  ∃ es ck, h r = some (.map es ck) ∧ ∃ x, findE kb k es.toList 0 = some x ∧
   match x with
   | some (i, _) => K undef (h.set r (.map (es.eraseIdxIfInBounds i) ck))
   | none => K undef h
 | .st n, [.pointer (some a), x] => x.cells.size = n ∧ ∃ h', putRow h a x.cells.toList = some h' ∧ K undef h'
 | .cpy size, [.slice (some g) dn dcap, .slice (some a) sn _] =>
  ∃ c, h.row a (min sn dn * size) = some c ∧ ∃ h', putRow h g c.toList = some h' ∧ dn ≤ dcap ∧ K (.int .i64 (min sn dn : Nat)) h'
 | .rng, [.map none] => ∀ b, h b = none → K (.pointer (some ⟨b, 0, none⟩)) (h.set b (.mapIter none 0 #[] 0))
 | .rng, [.map (some m)] => ∃ es ck, h m = some (.map es ck) ∧ ∀ b, h b = none → K (.pointer (some ⟨b, 0, none⟩)) (h.set b (.mapIter (some m) ck #[] ck))
 | .nxt, [.pointer (some ⟨r, 0, none⟩)] =>
  (∃ s1 s2 s3, h r = some (.mapIter none s1 s2 s3) ∧ K (.tuple #[.bool false]) h) ∨
  ∃ m since seen last es ck, h r = some (.mapIter (some m) since seen last) ∧ h m = some (.map es ck) ∧
   (!seen.isEmpty && !es.isEmpty && es.all (·.born ≥ last)) = false ∧
   (cands es since seen).size ≠ 0 ∧
   ∀ c ∈ (cands es since seen).toList,
    match c with
    | some e => K (.tuple #[.bool true, e.key, e.val]) (h.set r (.mapIter (some m) since (seen.push e.born) ck))
    | none => K (.tuple #[.bool false]) h
 | .ent, [.pointer (some ⟨r, 0, none⟩)] =>
  ∃ m since seen stepped stamp es, h r = some (.mapIter (some m) since seen stepped) ∧ seen.back? = some stamp ∧ h m = some (.map es stepped) ∧
   ∃ e, es.find? (·.born == stamp) = some e ∧ K (.tuple #[e.key, e.val]) h
 | _, _ => False
structure WStep (h h' : Heap) (w w' : World) : Prop where
 sub : h'.sub w'
 size : w.heap.size ≤ w'.heap.size
 os : w'.os = w.os
 tape : w'.tape = w.tape
 output : w'.output = w.output
 frame : ∀ b, b < w.heap.size → h b = none → h' b = none ∧ w'.heap[b]? = w.heap[b]?
theorem WStep.refl {h : Heap} {w : World} (hs : h.sub w) : WStep h h w w := ⟨hs, Nat.le_refl _, rfl, rfl, rfl, fun _ _ hb => ⟨hb, rfl⟩⟩
theorem WStep.trans {h h' h'' : Heap} {w w' w'' : World} (a : WStep h h' w w') (b : WStep h' h'' w' w'') : WStep h h'' w w'' :=
 ⟨b.sub, Nat.le_trans a.size b.size, b.os.trans a.os, b.tape.trans a.tape, b.output.trans a.output, fun k hk hn =>
  let ⟨h1, h2⟩ := a.frame k hk hn
  let ⟨h3, h4⟩ := b.frame k (Nat.lt_of_lt_of_le hk a.size) h1
  ⟨h3, h4.trans h2⟩⟩
theorem WStep.drew {h h' : Heap} {w w' : World} (a : WStep h h' w w') (n : Nat) : WStep h h' w { w' with drawn := n } := ⟨a.sub, a.size, a.os, a.tape, a.output, a.frame⟩
theorem WStep.drew0 {h h' : Heap} {w w' : World} {n : Nat} (a : WStep h h' { w with drawn := n } w') : WStep h h' w w' := ⟨a.sub, a.size, a.os, a.tape, a.output, a.frame⟩
theorem Heap.fresh {h : Heap} {w : World} (hs : h.sub w) {b : Nat} (hb : w.heap.size ≤ b) : h b = none := by
 cases hh : h b with
 | none => rfl
 | some o =>
  have := hs b o hh
  rw [Array.getElem?_eq_none hb] at this
  cases this
theorem WStep.push {h : Heap} {w : World} (hs : h.sub w) (o : Obj) : WStep h (h.set w.heap.size o) w { w with heap := w.heap.push o } := by
 refine ⟨?_, by simp, rfl, rfl, rfl, ?_⟩
 ·intro b o' hb
  simp only [Heap.set] at hb
  split at hb
  ·rename_i e; cases hb; subst e; simp
  ·have := hs b o' hb
   have hlt := (Array.getElem?_eq_some_iff.1 this).1
   simp [Array.getElem?_push, Nat.ne_of_lt hlt, this]
 ·intro b hlt hn
  refine ⟨by simp [Heap.set, Nat.ne_of_lt hlt, hn], by simp [Array.getElem?_push, Nat.ne_of_lt hlt]⟩
theorem WStep.setObj {h : Heap} {w : World} (hs : h.sub w) {r : Nat} {o : Obj} (hr : h r = some o) (o' : Obj) : WStep h (h.set r o') w { w with heap := w.heap.setIfInBounds r o' } := by
 have hlt := (Array.getElem?_eq_some_iff.1 (hs r o hr)).1
 refine ⟨?_, by simp, rfl, rfl, rfl, ?_⟩
 ·intro b x hb
  simp only [Heap.set] at hb
  split at hb
  ·rename_i e; cases hb; subst e; simp [hlt]
  ·rename_i e
   have := hs b x hb
   simp [Array.getElem?_setIfInBounds, Ne.symm e, this]
 ·intro b hb hn
  have e : b ≠ r := by intro e; subst e; rw [hr] at hn; cases hn
  exact ⟨by simp [Heap.set, e, hn], by simp [Array.getElem?_setIfInBounds, Ne.symm e]⟩
variable {P : Program} {w : World} {h : Heap} {N : Num}
theorem set_same {α : Type} {a : Array α} {b : Nat} {x : α} (hx : a[b]? = some x) : a.setIfInBounds b x = a := by
 apply Array.ext_getElem?
 intro i
 simp only [Array.getElem?_setIfInBounds]
 split
 ·rename_i e; subst e
  obtain ⟨hlt, he⟩ := Array.getElem?_eq_some_iff.1 hx
  simp [hlt, he]
 ·rfl
theorem setCell_eq {b off : Nat} {c : Array Value} {t : TypeId} {v : Value} (hw : w.heap[b]? = some (.cells c t (0, 0))) :
  w.setCell ⟨b, off, none⟩ v = { w with heap := w.heap.setIfInBounds b (.cells (c.setIfInBounds off v) t (0, 0)) } := by
 obtain ⟨hlt, he⟩ := Array.getElem?_eq_some_iff.1 hw
 simp only [World.setCell]
 congr 1
 apply Array.ext_getElem?
 intro i
 simp only [Array.getElem?_modify, Array.getElem?_setIfInBounds]
 split
 ·rename_i e; subst e; simp [hlt, he]
 ·rfl
theorem run_store_one {b off : Nat} {c : Array Value} {t : TypeId} {v : Value} (hw : w.heap[b]? = some (.cells c t (0, 0))) (ho : off < c.size) (h1 : one v = true) :
  (store ⟨b, off, none⟩ v).run P w = .ok () { w with heap := w.heap.setIfInBounds b (.cells (c.setIfInBounds off v) t (0, 0)) } := by
 rw [← setCell_eq hw]
 have hc : w.cell? ⟨b, off, none⟩ = some c[off] := by simp [World.cell?, hw, ho]
 have hf : w.frozen? ⟨b, off, none⟩ = false := by simp [World.frozen?, hw]
 cases v <;> first | (simp [one] at h1; done) | simp [store, Sem.run, hc, hf]
theorem run_storeCells_put {b off : Nat} {t : TypeId} : ∀ (l : List Value) (i : Nat) (c : Array Value) (w : World), w.heap[b]? = some (.cells c t (0, 0)) → off + i + l.length ≤ c.size → l.all one = true →
  (storeCells ⟨b, off, none⟩ l i).run P w = .ok () { w with heap := w.heap.setIfInBounds b (.cells (putL c (off + i) l) t (0, 0)) } := by
 intro l
 induction l with
 | nil => intro i c w hw _ _; simp [storeCells, putL, set_same hw]
 | cons v l ih =>
  intro i c w hw hle h1
  simp only [List.all_cons, Bool.and_eq_true] at h1
  simp only [List.length_cons] at hle
  have hlt := (Array.getElem?_eq_some_iff.1 hw).1
  simp only [storeCells, Sem.run_bind, addr_add, run_store_one hw (by omega : off + i < c.size) h1.1, Result.andThen_ok]
  rw [ih (i + 1) (c.setIfInBounds (off + i) v) _ (by simp [hlt]) (by simp; omega) h1.2]
  simp [putL, Nat.add_assoc]
theorem run_putRow (hs : h.sub w) {a : Addr} {l : List Value} {h' : Heap} (hp : putRow h a l = some h') : ∃ w', (storeCells a l).run P w = .ok () w' ∧ WStep h h' w w' := by
 unfold putRow at hp
 split at hp
 ·cases hp; exact ⟨w, rfl, WStep.refl hs⟩
 ·split at hp
  ·cases hp
  ·rename_i hsp
   split at hp
   ·rename_i c t hb
    split at hp <;> cases hp
    rename_i hc
    obtain ⟨b, off, sp⟩ := a
    cases sp with
    | some s => simp at hsp
    | none => exact ⟨_, run_storeCells_put l 0 c w (hs _ _ hb) (by simpa using hc.1) hc.2, by simpa using WStep.setObj hs hb _⟩
   ·cases hp
theorem run_newRow (t : TypeId) (c : Array Value) : (newRow t c).run P w = .ok ⟨w.heap.size, 0, none⟩ { w with heap := w.heap.push (.cells c t) } := by
 simp [newRow, newObj, Sem.run]
end Go.Cw
namespace Go.Cw
open Go
variable {P : Program} {w : World} {h : Heap} {N : Num}
theorem newCells_spec (hs : h.sub w) {size m : Nat} {x : Value} {c : Array Value} (hn : newCells h size x = some (m, c)) :
  (Builtin.lenOf x).run P w = .ok m w ∧ (∀ w', h.sub w' → (Builtin.firstCells size m x).run P w' = .ok c w') := by
 unfold newCells at hn
 split at hn
 ·split at hn <;> cases hn
  refine ⟨rfl, fun w' _ => ?_⟩
  simp [Builtin.firstCells]
 ·split at hn <;> cases hn
  rename_i h0; subst h0
  exact ⟨rfl, fun w' _ => rfl⟩
 ·split at hn
  ·cases hn
   rename_i a n cap h0
   refine ⟨rfl, fun w' _ => ?_⟩
   simp [Builtin.firstCells, h0, loadCells, loadCellsFrom]
  ·obtain ⟨c', h1, h2⟩ := Option.map_eq_some_iff.1 hn
   cases h2
   refine ⟨rfl, fun w' hs' => ?_⟩
   simp [Builtin.firstCells, Heap.sub_row hs' h1]
 ·cases hn
structure AppT (P : Program) (ts : Array TypeId) (e : TypeId) (size bytes : Nat) : Prop where
 t : ∃ t tx, ts = #[t, tx] ∧ P.underlying t = some (.slice e) ∧ (P.underlying tx = some .string ∨ ∃ e', P.underlying tx = some (.slice e'))
 i : ∃ i z, P.info? e = some i ∧ i.size = size ∧ i.bytes = bytes ∧ i.zero = some z ∧ z.cells.size = size
theorem run_choose_cap {need old : Nat} {e : TypeId} (hn : need ≤ maxLen) : ∃ cap, need ≤ cap ∧ cap ≤ maxLen ∧ cap = (Question.appendCap need old e).cut (w.tape w.drawn (.appendCap need old e)) := by
 refine ⟨(Question.appendCap need old e).cut (w.tape w.drawn (.appendCap need old e)), by simp [Question.cut], ?_, rfl⟩
 have hlt := Nat.mod_lt (w.tape w.drawn (.appendCap need old e)) (show 0 < 2 ^ 63 - need by simp only [maxLen] at hn; omega)
 simp only [Question.cut, maxLen] at hn ⊢
 omega
theorem run_app {ts : Array TypeId} {e : TypeId} {t size bytes : Nat} (ht : AppT P ts e size bytes) (hk : N.tid t = e) (hs : h.sub w) {s x : Value} {K : Value → Heap → Prop} {Γ : Ctx}
  (hK : efW N Γ (.app t size bytes) [s, x] h K) (ty : TypeId) : ∃ v w' h', (Builtin.append_ ts ty #[s, x]).run P w = .ok v w' ∧ K v h' ∧ WStep h h' w w' := by
 obtain ⟨⟨t1, tx, rfl, hd, hdx⟩, i, z, hi, hsz, hby, hz, hzc⟩ := ht
 cases s with
 | slice a n cap =>
  simp only [efW] at hK
  obtain ⟨m, news, hn, hK⟩ := hK
  obtain ⟨hlen, hfirst⟩ := newCells_spec (P := P) hs hn
  have hsize : ∀ w : World, (sizeOf e).run P w = .ok size w := fun w => by simp [sizeOf, typeInfo, program, Sem.run, hi, hsz]
  have hinfo : ∀ w : World, (typeInfo e).run P w = .ok i w := fun w => by simp [typeInfo, program, Sem.run, hi]
  have hzero : ∀ w : World, (zeroValue e).run P w = .ok z w := fun w => by simp [zeroValue, hinfo, hz]
  rcases hdx with hdx | ⟨e', hdx⟩
  all_goals
   by_cases hle : n + m ≤ cap
   ·simp only [hle, if_true] at hK
    cases a with
    | none =>
     refine ⟨_, w, h, ?_, hK, WStep.refl hs⟩
     simp [Builtin.append_, run_underlying hd, hsize, run_underlying hdx, hlen, hfirst w hs, hle]
    | some g =>
     obtain ⟨h', hp, hK⟩ := hK
     obtain ⟨w', h1, h2⟩ := run_putRow (P := P) hs hp
     refine ⟨_, w', h', ?_, hK, h2⟩
     simp [Builtin.append_, run_underlying hd, hsize, run_underlying hdx, hlen, hfirst w hs, hle, h1]
   ·simp only [hle, if_false] at hK
    obtain ⟨h63, hb, m', olds, ho, hK⟩ := hK
    obtain ⟨hlen', hfirst'⟩ := newCells_spec (P := P) hs ho
    have hm' : m' = n := by
     have : (Builtin.lenOf (.slice a n cap)).run P w = .ok n w := rfl
     rw [this] at hlen'; cases hlen'; rfl
    subst hm'
    obtain ⟨cap', hc1, hc2, hch⟩ := run_choose_cap (w := w) (old := cap) (e := e) h63
    have hfit : ¬ (Builtin.nextslicecap (m' + m) cap * i.bytes > 281474976710656) := by
     have := growslice_fits (need := m' + m) (old := cap) (bytes := i.bytes) (by omega) (by rw [hby]; exact hb)
     omega
    have hmax : ¬ (((m' + m : Nat) : Int) > IntKind.i64.max) := by
     simp only [maxLen] at h63
     simp [IntKind.max, IntKind.bits, IntKind.signed]; omega
    have hKK := hK w.heap.size cap' (Builtin.zeroCells z.cells (cap' - (m' + m))) (Heap.fresh hs (Nat.le_refl _)) hc1 hc2 (by simp [Builtin.zeroCells, hzc])
    refine ⟨_, w.drew.alloc (.cells (olds ++ news ++ Builtin.zeroCells z.cells (cap' - (m' + m))) e), _, ?_, hKK, ?_⟩
    ·have hroom : ∀ (b : Nat) (w : World), (askRoom b).run P w = .ok () w := fun b w => by unfold askRoom; split <;> simp [mark, Sem.run]
     simp only [Builtin.append_, Sem.run_bind, run_underlying hd, hsize, Result.andThen_ok, List.getElem?_toArray, List.getElem?_cons_zero, List.getElem?_cons_succ, run_underlying hdx, Sem.run_pure, Bool.false_eq_true, if_false, hlen, hle, hinfo]
     simp only [false_or, hmax, false_and, if_false, Sem.run_bind, Sem.run_pure, Result.andThen_ok, hinfo]
     have hfc : (Question.appendCap (m' + m) cap e).forced = false := rfl
     simp [hfit, hfc, hroom, hinfo, hfirst' w.drew hs, hfirst w.drew hs, hzero, ← hch, run_newRow]
    ·rw [hk]
     exact (WStep.push (w := w.drew) hs _).drew0 (n := w.drawn + 1)
 | _ => simp [efW] at hK
end Go.Cw
namespace Go.Cw
open Go
def FB (P : Program) (f : FuncId) (args : List Value) (h : Heap) (K : Value → Heap → Prop) : Prop :=
 (∃ fn, P.funcs[f]? = some fn ∧ (fn.name == "runtime.NumGoroutine") = false ∧ fn.body.isNone = false) ∧
 ∀ w, h.sub w → Calls P f args.toArray w fun e w' => ∃ v h', e = .returned v ∧ K v h' ∧ WStep h h' w w'
def FE (P : Program) (f : FuncId) (args : List Value) (h : Heap) (K : Value → Heap → Prop) : Prop :=
 ∀ w, h.sub w → ∃ v h' w', (callFunc f args.toArray).run P w = .ok (.value v) w' ∧ K v h' ∧ WStep h h' w w'
def FC (P : Program) (f : FuncId) (args : List Value) (h : Heap) (K : Value → Heap → Prop) : Prop := FB P f args h K ∨ FE P f args h K
def Good (P : Program) (N : Num) (Γ : Ctx) : Prop := ∀ k us h K, Γ k us h K → FC P (N.fid k) us h K
def appT (P : Program) (tk : Nat → Option Nat) (ts : List TypeId) : Option Ef :=
 match ts with
 | [t, tx] =>
  match P.underlying t, P.underlying tx with
  | some (.slice e), some .string | some (.slice e), some (.slice _) =>
   match P.info? e, tk e with
   | some i, some k =>
    match i.zero with
    | some z => if z.cells.size = i.size then some (.app k i.size i.bytes) else none
    | none => none
   | _, _ => none
  | _, _ => none
 | _ => none
def mapKb (P : Program) (t : TypeId) : Option Bk :=
 match P.underlying t with
 | some (.map k _) => match bkOf P k with
  | some .bool => none
  | r => r
 | _ => none
def resE (P : Program) (tk fk : Nat → Option Nat) (op : Op) : Option (Ef × List Operand) :=
 match op with
 | .box t x => (tk t).map fun k => (.new k, [x])
 | .alloc t =>
  match tk t, (P.info? t).bind (·.zero) with
  | some k, some z => some (.new k, [.const z])
  | _, _ => none
 | .call { callee := .builtin .append, args := as, argTypes := ts } => (appT P tk ts.toList).map fun e => (e, as.toList)
 | .call { callee := .value (.func f), args := as, argTypes := _ } => (fk f).map fun k => (.call k, as.toList)
 | .call { callee := .value f, args := as, argTypes := _ } => some (.cal, f :: as.toList)
 | .makeMap _ none => some (.mnew, [])
 | .mapUpdate t m k v => (mapKb P t).map fun kb => (.mupd kb, [m, k, v])
 | .call { callee := .builtin .delete, args := as, argTypes := ts } =>
  match ts.toList with
  | t :: _ => (mapKb P t).map fun kb => (.mdel kb, as.toList)
  | _ => none
 | .store t a x => (sizeOf' P t).map fun n => (.st n, [a, x])
 | .call { callee := .builtin .copy, args := as, argTypes := ts } =>
  match ts.toList with
  | t :: _ =>
   match P.underlying t with
   | some (.slice e) => (sizeOf' P e).map fun n => (.cpy n, as.toList)
   | _ => none
  | _ => none
 | .range t x =>
  match P.underlying t with
  | some (.map _ _) => some (.rng, [x])
  | _ => none
 | .next x false => some (.nxt, [x])
 | .entry x => some (.ent, [x])
 | _ => none
variable {P : Program} {w : World} {h : Heap} {N : Num} {tk fk : Nat → Option Nat} {Γ : Ctx}
theorem appT_spec (htk : ∀ t k, tk t = some k → N.tid k = t) {ts : Array TypeId} {f : Ef} (ha : appT P tk ts.toList = some f) :
  ∃ t size bytes, f = .app t size bytes ∧ AppT P ts (N.tid t) size bytes := by
 obtain ⟨ts⟩ := ts
 simp only at ha
 unfold appT at ha
 split at ha <;> try cases ha
 rename_i t tx
 split at ha <;> try cases ha
 ·rename_i e hd hdx
  split at ha <;> try cases ha
  rename_i i k hi hk
  split at ha <;> try cases ha
  rename_i z hz
  split at ha <;> cases ha
  rename_i hzc
  exact ⟨k, _, _, rfl, ⟨t, tx, rfl, by rw [htk _ _ hk]; exact hd, .inl hdx⟩, i, z, by rw [htk _ _ hk]; exact hi, rfl, rfl, hz, hzc⟩
 ·rename_i e e' hd hdx
  split at ha <;> try cases ha
  rename_i i k hi hk
  split at ha <;> try cases ha
  rename_i z hz
  split at ha <;> cases ha
  rename_i hzc
  exact ⟨k, _, _, rfl, ⟨t, tx, rfl, by rw [htk _ _ hk]; exact hd, .inr ⟨e', hdx⟩⟩, i, z, by rw [htk _ _ hk]; exact hi, rfl, rfl, hz, hzc⟩
theorem mapKb_spec {t : TypeId} {kb : Bk} (hm : mapKb P t = some kb) : ∃ k e, P.underlying t = some (.map k e) ∧ bkOf P k = some kb ∧ kb ≠ .bool := by
 unfold mapKb at hm
 split at hm
 ·rename_i k e hd
  split at hm
  ·cases hm
  ·rename_i r hr
   exact ⟨k, e, hd, hm, fun e => by subst e; exact hr hm⟩
 ·cases hm
theorem wp_value {o : Oper} {a : Act} {Kw : Act → World → Prop} {Q : Exit → Act → World → Prop} {v : Value} {w' : World} (hr : (execOp a.eval o).run P w = .ok (.value v) w') (hk : Kw (a.put o.dst v) w') : o.wp P a w Kw Q := by
 simp only [Oper.wp, hr, Oper.upon]; exact hk
theorem wp_skip' {o : Oper} {a : Act} {Kw : Act → World → Prop} {Q : Exit → Act → World → Prop} {w' : World} (hr : (execOp a.eval o).run P w = .ok .skip w') (hk : Kw (a.put o.dst undef) w') : o.wp P a w Kw Q := by
 simp only [Oper.wp, hr, Oper.upon]; exact hk
theorem cellEq_same {kb : Bk} {k x : Value} (hk : cellEq kb k x = some true) : k = x := by
 cases kb <;> cases k <;> cases x <;> simp only [cellEq] at hk <;> try (cases hk; done)
 ·split at hk
  ·rename_i h1
   simp at hk
   rw [h1, hk]
  ·cases hk
 ·rw [ba_eq (Option.some.inj hk)]
 ·simp at hk; rw [hk]
theorem sameBits_self {kb : Bk} {k x : Value} (hk : cellEq kb k x = some true) : Instr.sameBits 10000 x k = true := by
 have := cellEq_same hk; subst this
 cases kb <;> cases k <;> simp only [cellEq] at hk <;> first | (cases hk; done) | (simp [Instr.sameBits, ba_refl]; done)
theorem findE_at {kb : Bk} {k : Value} : ∀ (es : List MapEntry) (i j : Nat) (v : Value), findE kb k es i = some (some (j, v)) → i ≤ j ∧ ∃ e, es[j - i]? = some e ∧ cellEq kb k e.key = some true ∧ e.val = v := by
 intro es
 induction es with
 | nil => intro i j v hf; simp [findE] at hf
 | cons e es ih =>
  intro i j v hf
  simp only [findE] at hf
  split at hf
  ·rename_i he; cases hf; exact ⟨Nat.le_refl _, e, by simp, he, rfl⟩
  ·obtain ⟨h1, e', h2, h3, h4⟩ := ih _ _ _ hf
   refine ⟨by omega, e', ?_, h3, h4⟩
   rw [show j - i = (j - (i + 1)) + 1 by omega]
   simpa using h2
  ·cases hf
end Go.Cw
namespace Go.Cw
open Go
variable {P : Program} {w : World} {h : Heap} {N : Num} {tk fk : Nat → Option Nat} {Γ : Ctx}
theorem call_wp (hΓ : Good P N Γ) (hs : h.sub w) {o : Oper} {a : Act} {k : Nat} {us : List Value} {K : Value → Heap → Prop} {Kw : Act → World → Prop} {Q : Exit → Act → World → Prop}
  (hK : Γ k us h K) (hnext : ∀ v h' w', K v h' → WStep h h' w w' → Kw (a.put o.dst v) w')
  (hr : (execOp a.eval o).run P w = (callFunc (N.fid k) us.toArray).run P w) : o.wp P a w Kw Q := by
 rcases hΓ _ _ _ _ hK with ⟨⟨fn, hfn, hname, hbody⟩, hc⟩ | hx
 rotate_left
 ·obtain ⟨v, h', w', h1, h2, h3⟩ := hx w hs
  simp only [Oper.wp, hr, h1, Oper.upon]
  exact hnext v h' w' h2 h3
 have hcall : (callFunc (N.fid k) us.toArray).run P w = .ok (.enter (N.fid k) us.toArray) w := by
  have hn' : fn.name ≠ "runtime.NumGoroutine" := by simpa using hname
  obtain ⟨b, hb⟩ : ∃ b, fn.body = some b := by
   cases hh : fn.body with
   | none => rw [hh] at hbody; simp at hbody
   | some b => exact ⟨b, rfl⟩
  simp [callFunc, program, Sem.run, hfn, hn', hb]
 simp only [Oper.wp, hr, hcall, Oper.upon]
 exact (hc w hs).mono fun e w' ⟨v, h', he, hk, hst⟩ => by subst he; exact hnext v h' w' hk hst
theorem run_getObj {o : Obj} {r : Nat} (hw : w.heap[r]? = some o) (hc : ∀ c t f, o ≠ .cells c t f) : (getObj r).run P w = .ok o w := by
 cases o <;> first | (exact absurd rfl (hc _ _ _)) | simp [getObj, Sem.run, hw]
theorem run_setObj {o o' : Obj} {r : Nat} (hw : w.heap[r]? = some o) (hc : ∀ c t f, o ≠ .cells c t f) : (setObj r o').run P w = .ok () { w with heap := w.heap.setIfInBounds r o' } := by
 cases o <;> first | (exact absurd rfl (hc _ _ _)) | simp [setObj, Sem.run, hw]
theorem run_mapUpdate {t : TypeId} {kb : Bk} (hm : mapKb P t = some kb) (hs : h.sub w) {r : Nat} {k v : Value} {K : Value → Heap → Prop} (hK : efW N Γ (.mupd kb) [.map (some r), k, v] h K) :
  ∃ w' h', (Instr.mapUpdate t (.map (some r)) k v).run P w = .ok () w' ∧ K undef h' ∧ WStep h h' w w' := by
 obtain ⟨kt, et, hd, hk, _⟩ := mapKb_spec hm
 simp only [efW] at hK
 obtain ⟨es, ck, hr, x, hx, hK⟩ := hK
 have hw := hs _ _ hr
 have hne : ∀ c t f, Obj.map es ck ≠ .cells c t f := by intro c t f; simp
 cases x with
 | none =>
  refine ⟨_, _, ?_, hK, WStep.setObj hs hr _⟩
  simp [Instr.mapUpdate, run_underlying hd, run_getObj hw hne, run_checkKey hk, run_findKey hk hx, run_setObj hw hne]
 | some p =>
  obtain ⟨i, pv⟩ := p
  obtain ⟨_, e, he, hck, _⟩ := findE_at _ _ _ _ hx
  refine ⟨_, _, ?_, hK, WStep.setObj hs hr _⟩
  have hkey : ((es[i]?).map (·.key)).getD k = e.key := by
   have : es[i]? = some e := by simpa using he
   simp [this]
  simp only [Instr.mapUpdate, Sem.run_bind, run_underlying hd, Result.andThen_ok, run_getObj hw hne, run_checkKey hk, run_findKey hk hx, hkey, Instr.keyThatStays, sameBits_self hck, if_true, Sem.run_pure, run_setObj hw hne]
theorem run_delete {t : TypeId} {kb : Bk} (hm : mapKb P t = some kb) (hs : h.sub w) {ts : Array TypeId} (hts : ts[0]? = some t) (ty : TypeId) {r : Nat} {k : Value} {K : Value → Heap → Prop}
  (hK : efW N Γ (.mdel kb) [.map (some r), k] h K) :
  ∃ w' h', (Builtin.delete_ ts ty #[.map (some r), k]).run P w = .ok undef w' ∧ K undef h' ∧ WStep h h' w w' := by
 obtain ⟨kt, et, hd, hk, _⟩ := mapKb_spec hm
 simp only [efW] at hK
 obtain ⟨es, ck, hr, x, hx, hK⟩ := hK
 have hw := hs _ _ hr
 have hne : ∀ c t f, Obj.map es ck ≠ .cells c t f := by intro c t f; simp
 cases x with
 | none =>
  refine ⟨w, h, ?_, hK, WStep.refl hs⟩
  simp [Builtin.delete_, hts, run_underlying hd, run_getObj hw hne, run_checkKey hk, run_findKey hk hx, run_setObj hw hne, set_same hw, undef]
 | some p =>
  obtain ⟨i, pv⟩ := p
  refine ⟨_, _, ?_, hK, WStep.setObj hs hr _⟩
  simp [Builtin.delete_, hts, run_underlying hd, run_getObj hw hne, run_checkKey hk, run_findKey hk hx, run_setObj hw hne, undef]
theorem run_copy {t e : TypeId} {size : Nat} (hd : P.underlying t = some (.slice e)) (hsz : sizeOf' P e = some size) (hs : h.sub w) {ts : Array TypeId} (hts : ts[0]? = some t) (ty : TypeId) {x y : Value} {K : Value → Heap → Prop}
  (hK : efW N Γ (.cpy size) [x, y] h K) : ∃ v w' h', (Builtin.copy_ ts ty #[x, y]).run P w = .ok v w' ∧ K v h' ∧ WStep h h' w w' := by
 cases x with
 | slice g dn dcap =>
  cases g with
  | none => simp [efW] at hK
  | some g =>
   cases y with
   | slice a sn scap =>
    cases a with
    | none => simp [efW] at hK
    | some a =>
     simp only [efW] at hK
     obtain ⟨c, hc, h', hp, _, hK⟩ := hK
     obtain ⟨w', h1, h2⟩ := run_putRow (P := P) hs hp
     refine ⟨_, w', h', ?_, hK, h2⟩
     have hmin : Nat.min sn dn = min sn dn := rfl
     simp [Builtin.copy_, hts, run_underlying hd, Builtin.lenOf, run_sizeOf' hsz, Builtin.firstCells, hmin, Heap.sub_row hs hc, h1, goInt]
   | _ => simp [efW] at hK
 | _ => simp [efW] at hK
theorem run_next (hs : h.sub w) {x : Value} (ty : TypeId) {K : Value → Heap → Prop} (hK : efW N Γ .nxt [x] h K) :
  ∃ v w' h', (Instr.next x false ty).run P w = .ok v w' ∧ K v h' ∧ WStep h h' w w' := by
 cases x with
 | pointer a =>
  cases a with
  | none => simp [efW] at hK
  | some a =>
   obtain ⟨r, off, sp⟩ := a
   cases sp with
   | some s => cases off <;> simp [efW] at hK
   | none =>
    cases off with
    | succ n => simp [efW] at hK
    | zero =>
     simp only [efW] at hK
     rcases hK with ⟨s1, s2, s3, hr, hK⟩ | ⟨m, since, seen, last, es, ck, hr, hm, hg, hne, hK⟩
     ·refine ⟨_, w, h, ?_, hK, WStep.refl hs⟩
      simp [Instr.next, run_getObj (P := P) (hs _ _ hr) (by intro c t f; simp)]
     ·have h1 := run_getObj (P := P) (hs _ _ hr) (by intro c t f; simp)
      have h2 := run_getObj (P := P) (hs _ _ hm) (by intro c t f; simp)
      have hch : ∃ n w', (choose (.mapNext (cands es since seen).size)).run P w = .ok n w' ∧ n < (cands es since seen).size ∧ (w' = w ∨ w' = { w with drawn := w.drawn + 1 }) := by
       by_cases hf : (Question.mapNext (cands es since seen).size).forced = true
       ·exact ⟨0, w, by simp [choose, Sem.run, hf], Nat.pos_of_ne_zero hne, .inl rfl⟩
       ·refine ⟨(Question.mapNext (cands es since seen).size).cut (w.tape w.drawn (.mapNext (cands es since seen).size)), { w with drawn := w.drawn + 1 }, by simp [choose, Sem.run, hf], ?_, .inr rfl⟩
        simp only [Question.cut]
        exact Nat.mod_lt _ (Nat.pos_of_ne_zero hne)
      obtain ⟨n, w1, hch, hlt, hw1⟩ := hch
      have hs1 : h.sub w1 := by rcases hw1 with rfl | rfl <;> exact hs
      have hst : ∀ {h' w'}, WStep h h' w1 w' → WStep h h' w w' := by
       intro h' w' hh
       rcases hw1 with rfl | rfl
       ·exact hh
       ·exact hh.drew0
      have hget : (cands es since seen)[n]? = some ((cands es since seen)[n]) := by simp [hlt]
      have hmem := hK ((cands es since seen)[n]) (by simp)
      have hrun : (Instr.next (.pointer (some ⟨r, 0, none⟩)) false ty).run P w = (match (cands es since seen)[n]? with
        | some (some e) => (do setObj r (.mapIter (some m) since (seen.push e.born) ck); pure (.tuple #[.bool true, e.key, e.val]) : Sem Value)
        | some none => pure (.tuple #[.bool false])
        | none => stuck "Next: no such candidate").run P w1 := by
       simp only [Instr.next, Sem.run_bind, h1, Result.andThen_ok, h2, hg, Bool.false_eq_true, if_false]
       refine Eq.trans (b := ((choose (.mapNext (cands es since seen).size)).run P w).andThen fun n w' => (match (cands es since seen)[n]? with
        | some (some e) => (do setObj r (.mapIter (some m) since (seen.push e.born) ck); pure (.tuple #[.bool true, e.key, e.val]) : Sem Value)
        | some none => pure (.tuple #[.bool false])
        | none => stuck "Next: no such candidate").run P w') rfl ?_
       rw [hch]
       rfl
      rw [hget] at hrun
      generalize (cands es since seen)[n] = c at hrun hmem
      cases c with
      | none => exact ⟨_, w1, h, hrun, hmem, hst (WStep.refl hs1)⟩
      | some e =>
       refine ⟨_, _, _, ?_, hmem, hst (WStep.setObj hs1 hr _)⟩
       rw [hrun]
       simp [run_setObj (P := P) (hs1 _ _ hr) (by intro c t f; simp)]
 | _ => simp [efW] at hK
end Go.Cw
namespace Go.Cw
open Go
variable {P : Program} {w : World} {h : Heap} {N : Num} {tk fk : Nat → Option Nat} {Γ : Ctx}
theorem ef_sound (htk : ∀ t k, tk t = some k → N.tid k = t) (hfk : ∀ f k, fk f = some k → N.fid k = f) (hΓ : Good P N Γ) (hs : h.sub w) {o : Oper} {a : Act} {f : Ef} {xs : List Operand}
  (hr : resE P tk fk o.op = some (f, xs)) {K : Value → Heap → Prop} {Kw : Act → World → Prop} {Q : Exit → Act → World → Prop}
  (hK : efW N Γ f (xs.map a.eval) h K) (hnext : ∀ v h' w', K v h' → WStep h h' w w' → Kw (a.put o.dst v) w') : o.wp P a w Kw Q := by
 have newv : ∀ {t k : Nat} {x : Value}, tk t = some k → efW N Γ (.new k) [x] h K → (execOp a.eval o).run P w = .ok (.value (.pointer (some ⟨w.heap.size, 0, none⟩))) { w with heap := w.heap.push (.cells x.cells t) } → o.wp P a w Kw Q := by
  intro t k x hk hK hrun
  simp only [efW] at hK
  refine wp_value hrun (hnext _ _ _ (hK _ (Heap.fresh hs (Nat.le_refl _))) ?_)
  rw [htk _ _ hk]
  exact WStep.push hs _
 unfold resE at hr
 split at hr
 ·
  rename_i t x heq
  obtain ⟨k, hk, h1⟩ := Option.map_eq_some_iff.1 hr
  cases h1
  refine newv (x := a.eval x) hk (by simpa using hK) ?_
  rw [execOp_of heq]
  simp [execOp, Instr.box, newVar, newRow, newObj, Sem.run]
 ·
  rename_i t heq
  split at hr <;> cases hr
  rename_i k z hk hz
  refine newv (x := z) hk (by simpa [Act.eval] using hK) ?_
  rw [execOp_of heq]
  simp only [execOp, Instr.alloc, Sem.run_bind, run_zeroValue' hz, Result.andThen_ok]
  simp [newVar, newRow, newObj, Sem.run]
 ·
  rename_i as ts heq
  obtain ⟨e, he, h1⟩ := Option.map_eq_some_iff.1 hr
  cases h1
  obtain ⟨t, size, bytes, rfl, hat⟩ := appT_spec htk he
  have h2 : ∃ s x, as.toList.map a.eval = [s, x] := by
   generalize as.toList.map a.eval = l at hK
   match l, hK with
   | [], hK => simp [efW] at hK
   | [x], hK => cases x <;> simp [efW] at hK
   | [s, x], _ => exact ⟨s, x, rfl⟩
   | s :: x :: y :: r, hK => cases s <;> simp [efW] at hK
  obtain ⟨s, x, hl⟩ := h2
  rw [hl] at hK
  obtain ⟨v, w', h', h3, h4, h5⟩ := run_app hat rfl hs hK o.type
  refine wp_value ?_ (hnext v h' w' h4 h5)
  rw [execOp_of heq]
  have : as.map a.eval = #[s, x] := by rw [← Array.toList_inj, Array.toList_map, hl]
  simp [execOp, resolve, invoke, builtin, this, h3]
 ·
  rename_i f' as ts heq
  obtain ⟨k, hk, h1⟩ := Option.map_eq_some_iff.1 hr
  cases h1
  refine call_wp hΓ hs (k := k) (us := as.toList.map a.eval) hK hnext ?_
  rw [execOp_of heq, hfk _ _ hk]
  simp [execOp, resolve, invoke, Act.eval, Deferred.ofValue, Array.toList_map]
  rw [← Array.toList_map]
 ·
  rename_i fo as ts _ heq
  cases hr
  simp only [List.map_cons] at hK
  generalize hfo : a.eval fo = fv at hK
  cases fv with
  | func fn first caps =>
   cases fn with
   | func g =>
    simp only [efW] at hK
    obtain ⟨k, hk, hfirst, hK⟩ := hK
    subst hfirst
    refine call_wp hΓ hs (k := k) (us := as.toList.map a.eval ++ caps.toList) hK hnext ?_
    rw [execOp_of heq, hk]
    have e : (as.toList.map a.eval ++ caps.toList).toArray = as.map a.eval ++ caps := by rw [← Array.toList_map, ← Array.toList_append]
    rw [e]
    simp [execOp, resolve, invoke, hfo, Deferred.ofValue]
   | _ => simp [efW] at hK
  | _ => simp [efW] at hK
 ·
  rename_i t heq
  cases hr
  simp only [List.map_nil, efW] at hK
  refine wp_value (v := .map (some w.heap.size)) (w' := { w with heap := w.heap.push (.map #[] 0) }) ?_ (hnext _ _ _ (hK _ (Heap.fresh hs (Nat.le_refl _))) (WStep.push hs _))
  rw [execOp_of heq]
  simp [execOp, Instr.makeMap, newObj, Sem.run]
 ·
  rename_i t m k v heq
  obtain ⟨kb, hm, h1⟩ := Option.map_eq_some_iff.1 hr
  cases h1
  simp only [List.map_cons, List.map_nil] at hK
  generalize hmv : a.eval m = mv at hK
  cases mv with
  | map r =>
   cases r with
   | none => simp [efW] at hK
   | some r =>
    obtain ⟨w', h', h3, h4, h5⟩ := run_mapUpdate hm hs hK
    refine wp_skip' ?_ (hnext _ h' w' h4 h5)
    rw [execOp_of heq]
    simp [execOp, hmv, h3]
  | _ => simp [efW] at hK
 ·
  rename_i as ts heq
  split at hr <;> try cases hr
  rename_i t r hts
  obtain ⟨kb, hm, h1⟩ := Option.map_eq_some_iff.1 hr
  cases h1
  have h2 : ∃ r k, as.toList.map a.eval = [.map (some r), k] := by
   generalize as.toList.map a.eval = l at hK
   match l, hK with
   | [], hK => simp [efW] at hK
   | [x], hK => cases x <;> simp [efW] at hK
   | [s, x], hK => cases s with
    | map r => cases r with
     | some r => exact ⟨r, x, rfl⟩
     | none => simp [efW] at hK
    | _ => simp [efW] at hK
   | s :: x :: y :: r, hK => cases s <;> simp [efW] at hK
  obtain ⟨r, k, hl⟩ := h2
  rw [hl] at hK
  have ht0 : ts[0]? = some t := by rw [← Array.getElem?_toList, hts]; rfl
  obtain ⟨w', h', h3, h4, h5⟩ := run_delete hm hs ht0 o.type hK
  refine wp_value ?_ (hnext _ h' w' h4 h5)
  rw [execOp_of heq]
  have : as.map a.eval = #[.map (some r), k] := by rw [← Array.toList_inj, Array.toList_map, hl]
  simp [execOp, resolve, invoke, builtin, this, h3]
 ·
  rename_i t ad x heq
  obtain ⟨n, hn, h1⟩ := Option.map_eq_some_iff.1 hr
  cases h1
  simp only [List.map_cons, List.map_nil] at hK
  generalize hav : a.eval ad = av at hK
  cases av with
  | pointer p =>
   cases p with
   | none => simp [efW] at hK
   | some p =>
    simp only [efW] at hK
    obtain ⟨hsz, h', hp, hK⟩ := hK
    obtain ⟨w', h3, h4⟩ := run_putRow (P := P) hs hp
    refine wp_skip' ?_ (hnext _ h' w' hK h4)
    rw [execOp_of heq]
    simp [execOp, Instr.storeAt, hav, Instr.sureAddr, storeVar, run_sizeOf' hn, hsz, h3]
  | _ => simp [efW] at hK
 ·
  rename_i as ts heq
  split at hr <;> try cases hr
  rename_i t r hts
  split at hr <;> try cases hr
  rename_i e hd
  obtain ⟨n, hn, h1⟩ := Option.map_eq_some_iff.1 hr
  cases h1
  have h2 : ∃ x y, as.toList.map a.eval = [x, y] := by
   generalize as.toList.map a.eval = l at hK
   match l, hK with
   | [], hK => simp [efW] at hK
   | [x], hK => simp [efW] at hK
   | [s, x], hK => exact ⟨s, x, rfl⟩
   | s :: x :: y :: r, hK => simp [efW] at hK
  obtain ⟨x, y, hl⟩ := h2
  rw [hl] at hK
  have ht0 : ts[0]? = some t := by rw [← Array.getElem?_toList, hts]; rfl
  obtain ⟨v, w', h', h3, h4, h5⟩ := run_copy hd hn hs ht0 o.type hK
  refine wp_value ?_ (hnext _ h' w' h4 h5)
  rw [execOp_of heq]
  have : as.map a.eval = #[x, y] := by rw [← Array.toList_inj, Array.toList_map, hl]
  simp [execOp, resolve, invoke, builtin, this, h3]
 ·
  rename_i t x heq
  split at hr <;> cases hr
  rename_i kt et hd
  simp only [List.map_cons, List.map_nil] at hK
  generalize hxv : a.eval x = xv at hK
  cases xv with
  | map r =>
   cases r with
   | none =>
    simp only [efW] at hK
    refine wp_value (v := .pointer (some ⟨w.heap.size, 0, none⟩)) (w' := { w with heap := w.heap.push (.mapIter none 0 #[] 0) }) ?_ (hnext _ _ _ (hK _ (Heap.fresh hs (Nat.le_refl _))) (WStep.push hs _))
    rw [execOp_of heq]
    simp [execOp, Instr.range, run_underlying hd, hxv, newObj, Sem.run]
   | some r =>
    simp only [efW] at hK
    obtain ⟨es, ck, hr, hK⟩ := hK
    refine wp_value (v := .pointer (some ⟨w.heap.size, 0, none⟩)) (w' := { w with heap := w.heap.push (.mapIter (some r) ck #[] ck) }) ?_ (hnext _ _ _ (hK _ (Heap.fresh hs (Nat.le_refl _))) (WStep.push hs _))
    rw [execOp_of heq]
    simp only [execOp, Instr.range, Sem.run_bind, run_underlying hd, hxv, Result.andThen_ok, run_mapObj (hs _ _ hr)]
    simp [newObj, Sem.run]
  | _ => simp [efW] at hK
 ·
  rename_i x heq
  cases hr
  simp only [List.map_cons, List.map_nil] at hK
  obtain ⟨v, w', h', h3, h4, h5⟩ := run_next (P := P) hs o.type hK
  refine wp_value ?_ (hnext _ h' w' h4 h5)
  rw [execOp_of heq]
  simp [execOp, h3]
 ·
  rename_i x heq
  cases hr
  simp only [List.map_cons, List.map_nil] at hK
  generalize hxv : a.eval x = xv at hK
  cases xv with
  | pointer p =>
   cases p with
   | none => simp [efW] at hK
   | some p =>
    obtain ⟨r, off, sp⟩ := p
    cases sp with
    | some s => cases off <;> simp [efW] at hK
    | none =>
     cases off with
     | succ n => simp [efW] at hK
     | zero =>
      simp only [efW] at hK
      obtain ⟨m, since, seen, stepped, stamp, es, hr, hb, hm, e, hf, hK⟩ := hK
      refine wp_value (w' := w) ?_ (hnext _ h w hK (WStep.refl hs))
      rw [execOp_of heq]
      simp [execOp, hxv, Instr.entry, run_getObj (P := P) (hs _ _ hr) (by intro c t f; simp), hb, run_mapObj (hs _ _ hm), hf]
  | _ => simp [efW] at hK
 ·cases hr
end Go.Cw
namespace Go.Cw
open Go
inductive EI where
 | ef (gs : List (Ex × Bool)) (f : Ef) (args : List Ex) (dst : Option Nat)
 | pnew (i : Nat) (e : Ex)
 | pst (i : Nat) (e : Ex)
 deriving Inhabited
structure Let where
 gs : List (Ex × Bool)
 i : Nat
 e : Ex
 deriving Inhabited
structure Stg where
 lets : List Let
 eff : Option EI
 deriving Inhabited
inductive DS where
 | done (s : Stg)
 | eff (fl : Bool) (wx : List Let) (s : Stg) (r : DS)
 | alt (fl : Bool) (wx : List Let) (s : Stg) (r : DS) (fl' : Bool) (wx' : List Let) (s' : Stg) (r' : DS)
 deriving Inhabited
inductive St where
 | skip
 | ret
 | exit (id : Nat)
 | seq (a b : St)
 | reg (l : List Stg)
 | cond (c : Ex) (a b : St)
 | block (id : Nat) (s : St)
 | loop (s : St)
 | dreg (d : DS)
 | rfn (k off i ip : Nat) (asg body : St)
 deriving Inhabited
def evGs (N : Num) (env : Env) (h : Heap) : List (Ex × Bool) → Option Bool
 | [] => some true
 | (e, w) :: r =>
  match ev N env h e with
  | none => none
  | some (.v (.bool b)) => if b = w then evGs N env h r else some false
  | some _ => some false
def putLets (N : Num) (env : Env) (h : Heap) : List Let → Env → Option Env
 | [], e => some e
 | l :: r, e =>
  match evGs N env h l.gs with
  | none => none
  | some false => putLets N env h r (e.put l.i undef)
  | some true =>
   match ev N env h l.e with
   | some (.v x) => putLets N env h r (e.put l.i x)
   | _ => none
def evVals (N : Num) (env : Env) (h : Heap) : List Ex → Option (List Value)
 | [] => some []
 | e :: r =>
  match ev N env h e, evVals N env h r with
  | some (.v x), some xs => some (x :: xs)
  | _, _ => none
def putD (e : Env) (d : Option Nat) (v : Value) : Env :=
 match d with
 | some i => e.put i v
 | none => e
def eiW (N : Num) (Γ : Ctx) (x : EI) (env0 env1 : Env) (h : Heap) (K : Env → Heap → Prop) : Prop :=
 match x with
 | .ef gs f args dst =>
  (evGs N env0 h gs = some true ∧ ∃ us, evVals N env0 h args = some us ∧ efW N Γ f us h fun r h' => K (putD env1 dst r) h') ∨
  (evGs N env0 h gs = some false ∧ K (putD env1 dst undef) h)
 | .pnew i e => ∃ v, ev N env0 h e = some (.v v) ∧ K (env1.put i (.agg v.cells)) h
 | .pst i e => ∃ v, ev N env0 h e = some (.v v) ∧ K (env1.put i v) h
def stgW (N : Num) (Γ : Ctx) (s : Stg) (env : Env) (h : Heap) (K : Env → Heap → Prop) : Prop :=
 ∃ env1, putLets N env h s.lets env = some env1 ∧
  match s.eff with
  | none => K env1 h
  | some x => eiW N Γ x env env1 h K
def stgsW (N : Num) (Γ : Ctx) : List Stg → Env → Heap → (Env → Heap → Prop) → Prop
 | [], env, h, K => K env h
 | s :: r, env, h, K => stgW N Γ s env h fun env h => stgsW N Γ r env h K
def covX (N : Num) (env : Env) (x : Heap) (l : Let) : Prop := ∃ b, evGs N env x l.gs = some b ∧ (b = true → ∃ u, ev N env x l.e = some u)
def dsK (N : Num) (fl : Bool) (wx : List Let) (ws : List Heap) (env : Env) (h : Heap) (K : List Heap → Env → Heap → Prop) : Env → Heap → Prop := fun env' h' =>
 match wx with
 | [] => (fl = true → ∀ z ∈ ws, Heap.le z h') ∧ K (if fl then ws else []) env' h'
 | l :: ls => ∃ x, (x = h ∨ (Heap.le x h ∧ ∀ l' ∈ l :: ls, covX N env x l')) ∧ (fl = true → ∀ z ∈ x :: ws, Heap.le z h') ∧ K (if fl then x :: ws else []) env' h'
def dsW (N : Num) (Γ : Ctx) : DS → List Heap → Env → Heap → (Env → Heap → Prop) → Prop
 | .done s, _, env, h, K => stgW N Γ s env h K
 | .eff fl wx s r, ws, env, h, K => stgW N Γ s env h (dsK N fl wx ws env h fun ws env' h' => dsW N Γ r ws env' h' K)
 | .alt fl wx s r fl' wx' s' r', ws, env, h, K => stgW N Γ s env h (dsK N fl wx ws env h fun ws env' h' => dsW N Γ r ws env' h' K) ∧
   stgW N Γ s' env h (dsK N fl' wx' ws env h fun ws env' h' => dsW N Γ r' ws env' h' K)
inductive SE where
 | normal
 | exit (id : Nat)
 | ret
def SW (N : Num) (Γ : Ctx) : St → (SE → Env → Heap → Prop) → Env → Heap → Prop
 | .skip, Q, env, h => Q .normal env h
 | .ret, Q, env, h => Q .ret env h
 | .exit id, Q, env, h => Q (.exit id) env h
 | .seq a b, Q, env, h => SW N Γ a (fun e env h => match e with
   | .normal => SW N Γ b Q env h
   | e => Q e env h) env h
 | .reg l, Q, env, h => stgsW N Γ l env h (Q .normal)
 | .dreg d, Q, env, h => dsW N Γ d [] env h (Q .normal)
 | .cond c a b, Q, env, h => ∃ t, ev N env h c = some (.v (.bool t)) ∧ (t = true → SW N Γ a Q env h) ∧ (t = false → SW N Γ b Q env h)
 | .block id s, Q, env, h => SW N Γ s (fun e env h => match e with
   | .exit j => if j = id then Q .normal env h else Q (.exit j) env h
   | e => Q e env h) env h
 | .loop s, Q, env, h => ∃ (I : Nat → Env → Heap → Prop) (n : Nat), I n env h ∧
   ∀ n env h, I n env h → SW N Γ s (fun e env' h' => match e with
    | .normal => ∃ n', n' < n ∧ I n' env' h'
    | e => Q e env' h') env h
 | .rfn k off i ip asg body, Q, env, h => ∃ c a m es ck, env.get i = some (.func (.func (N.fid k)) #[] #[.pointer (some c)]) ∧ h.cell c = some (.pointer (some a)) ∧ h.cell (a.add off) = some (.map (some m)) ∧ h m = some (.map es ck) ∧
   (∀ e ∈ es.toList, e.born < ck) ∧ ∃ J : List Nat → Heap → Prop, J [] h ∧ ∀ dn G, J dn G → G m = some (.map es ck) ∧ ((∀ e ∈ es.toList, e.born ∈ dn) → Q .normal env G) ∧
    ∀ e ∈ es.toList, e.born ∉ dn → SW N Γ asg (fun x env1 G1 => match x with
     | .normal => SW N Γ body (fun y env2 G2 => match y with
      | .normal => J (dn ++ [e.born]) G2
      | y => Q y env G2) env1 G1
     | _ => False) (env.put ip e.key) G
abbrev Pth := List (Nat × Bool)
structure En where
 owner : Nat
 path : Pth
 ex : Ex
 deriving Inhabited
abbrev Sg := List (Nat × En)
def Sg.get (s : Sg) (t : Nat) : Option En :=
 match s with
 | [] => none
 | (t', e) :: r => if t' = t then some e else Sg.get r t
abbrev Lmap := List (Nat × Bool)
def sg0 (n : Nat) : Nat → Lmap → Sg
 | _, [] => []
 | i, (slot, pr) :: r => (slot, ⟨n + slot, [], if pr then .pad i else .var i⟩) :: sg0 n (i + 1) r
def sgOp (s : Sg) (path : Pth) : Operand → Option Ex
 | .const v => some (.con v)
 | .global g => some (.con (.pointer (some ⟨g, 0, none⟩)))
 | .func _ => none
 | .tmp t =>
  match s.get t with
  | some en => if en.path.all path.contains then some en.ex else none
  | none => none
def ownerOf (s : Sg) : Operand → Option Nat
 | .tmp t => (s.get t).map (·.owner)
 | _ => none
structure Rec where
 idx : Nat
 path : Pth
 ex : Ex
 move : Bool
 uses : List (Nat × Pth)
 deriving Inhabited
def pathOf (ops : Array Oper) (s : Sg) (o : Oper) : Option Pth :=
 match o.guard with
 | none => some []
 | some (g, w) =>
  match (ops[g]?).bind (·.dst) with
  | some d =>
   match s.get d with
   | some en => some (en.path ++ [(en.owner, w)])
   | none => none
  | none => none
def isMove : Op → Bool
 | .move _ | .assign _ => true
 | _ => false
def mkOp (P : Program) (tk fk : Nat → Option Nat) (s : Sg) (path : Pth) (op : Op) : Option (Ex × List (Nat × Pth)) :=
 match op with
 | .pick c a b =>
  let co := (ownerOf s c).getD 0
  match c, sgOp s path c, sgOp s (path ++ [(co, true)]) a, sgOp s (path ++ [(co, false)]) b with
  | .tmp _, some ec, some ea, some eb =>
   some (.pick ec ea eb, (co, path) :: ((ownerOf s a).toList.map fun o => (o, path ++ [(co, true)])) ++ ((ownerOf s b).toList.map fun o => (o, path ++ [(co, false)])))
  | _, _, _, _ => none
 | op =>
  match mk P tk fk (sgOp s path) op with
  | some e => some (e, op.operands.toList.filterMap fun x => if (sgOp s path x).isSome then (ownerOf s x).map fun o => (o, path) else none)
  | none => none
def pureL (P : Program) (tk fk : Nat → Option Nat) (ops : Array Oper) (nt : Nat) : List Nat → Sg → Option (List Rec × Sg)
 | [], s => some ([], s)
 | j :: r, s =>
  match ops[j]? with
  | none => none
  | some o =>
   match o.dst, pathOf ops s o with
   | some d, some path =>
    match mkOp P tk fk s path o.op with
    | some (e, us) =>
     if d < nt then
      match pureL P tk fk ops nt r ((d, ⟨j, path, e⟩) :: s) with
      | some (rs, s') => some (⟨j, path, e, isMove o.op, us⟩ :: rs, s')
      | none => none
     else none
    | none => none
   | _, _ => none
variable {P : Program} {w : World} {h : Heap} {env : Env} {N : Num} {tk fk : Nat → Option Nat}
theorem res1_ops {op : Op} {r : O1} {x : Operand} (hr : res1 P tk op = some (r, x)) : op.operands.toList = [x] := by
 unfold res1 at hr
 split at hr
 ·split at hr <;> try (cases hr; done)
  rename_i has _
  split at hr <;> cases hr <;> simp [Op.operands, Call.operands, has]
 ·split at hr <;> try (cases hr; done)
  split at hr <;> try (cases hr; done)
  split at hr <;> cases hr
  rfl
 ·split at hr <;> cases hr <;> rfl
 ·cases hr; rfl
 ·cases hr; rfl
 ·cases hr; rfl
 ·split at hr <;> try (cases hr; done)
  ·cases hr; rfl
  ·split at hr <;> cases hr; rfl
 ·cases hr; rfl
 ·split at hr <;> try (cases hr; done)
  split at hr <;> try (cases hr; done)
  split at hr <;> cases hr <;> rfl
 ·split at hr <;> cases hr; rfl
 ·cases hr; rfl
 ·split at hr <;> cases hr; rfl
 ·cases hr
theorem res2_ops {op : Op} {r : O2} {x y : Operand} (hr : res2 P op = some (r, x, y)) : op.operands.toList = [x, y] := by
 unfold res2 at hr
 split at hr
 ·split at hr
  ·cases hr; rfl
  ·cases hr; rfl
  ·split at hr <;> try (cases hr; done)
   ·split at hr <;> cases hr; rfl
   ·cases hr; rfl
  ·split at hr <;> try (cases hr; done)
   ·split at hr <;> cases hr; rfl
   ·cases hr; rfl
  ·cases hr
 ·split at hr <;> try (cases hr; done)
  ·obtain ⟨n, _, h2⟩ := Option.map_eq_some_iff.1 hr; cases h2; rfl
  ·obtain ⟨n, _, h2⟩ := Option.map_eq_some_iff.1 hr; cases h2; rfl
 ·split at hr <;> try (cases hr; done)
  ·cases hr; rfl
  ·split at hr <;> cases hr <;> rfl
 ·split at hr <;> cases hr; rfl
 ·split at hr <;> cases hr
  rename_i has
  simp [Op.operands, Call.operands, has]
 ·split at hr <;> cases hr
  rename_i has
  simp [Op.operands, Call.operands, has]
 ·cases hr
theorem mkBuild_strict {σ : Operand → Option Ex} {t : TypeId} : ∀ (parts : List (Nat × Operand)) (b e : Ex) (u : UV), mkBuild P σ t b parts = some e → ev N env h e = some u →
  ∀ p ∈ parts, ∀ ex, σ p.2 = some ex → ∃ ux, ev N env h ex = some ux := by
 intro parts
 induction parts with
 | nil => intro b e u _ _ p hp; simp at hp
 | cons q parts ih =>
  intro b e u hm hv p hp ex hx
  obtain ⟨i, x⟩ := q
  simp only [mkBuild] at hm
  split at hm <;> try (cases hm; done)
  rename_i off n ex' hpa hx'
  obtain ⟨ub, h1⟩ := mkBuild_ev _ _ _ _ hm hv
  obtain ⟨xv, yv, h2, h3, h4⟩ := ev_o2 h1
  simp only [List.mem_cons] at hp
  rcases hp with rfl | hp
  ·rw [hx'] at hx; cases hx; exact ⟨_, h3⟩
  ·exact ih _ _ _ hm hv p hp ex hx
theorem mkCaps_strict {σ : Operand → Option Ex} : ∀ (l : List Operand) (b e : Ex) (u : UV), mkCaps σ b l = some e → ev N env h e = some u → ∀ x ∈ l, ∀ ex, σ x = some ex → ∃ ux, ev N env h ex = some ux := by
 intro l
 induction l with
 | nil => intro b e u _ _ p hp; simp at hp
 | cons y l ih =>
  intro b e u hm hv x hp ex hx
  simp only [mkCaps] at hm
  split at hm <;> try (cases hm; done)
  rename_i ex' hx'
  obtain ⟨ub, h1⟩ := mkCaps_ev _ _ _ _ hm hv
  obtain ⟨xv, yv, h2, h3, h4⟩ := ev_o2 h1
  simp only [List.mem_cons] at hp
  rcases hp with rfl | hp
  ·rw [hx'] at hx; cases hx; exact ⟨_, h3⟩
  ·exact ih _ _ _ hm hv x hp ex hx
theorem mk_strict {σ : Operand → Option Ex} {op : Op} {e : Ex} {u : UV} (hnp : ∀ c a b, op ≠ .pick c a b) (hm : mk P tk fk σ op = some e) (hv : ev N env h e = some u) :
  ∀ x ∈ op.operands.toList, ∀ ex, σ x = some ex → ∃ ux, ev N env h ex = some ux := by
 intro x hx ex hex
 unfold mk at hm
 split at hm
 ·simp [Op.operands] at hx; subst hx; rw [hex] at hm; cases hm; exact ⟨u, hv⟩
 ·simp [Op.operands] at hx; subst hx; rw [hex] at hm; cases hm; exact ⟨u, hv⟩
 ·exact absurd rfl (hnp _ _ _)
 ·split at hm <;> try (cases hm; done)
  simp only [Op.operands, List.mem_map] at hx
  obtain ⟨p, hp, rfl⟩ := hx
  exact mkBuild_strict _ _ _ _ hm hv p hp ex hex
 ·split at hm <;> try (cases hm; done)
  rename_i hfi hk
  simp only [Op.operands, Array.toList_append, hfi, List.nil_append] at hx
  exact mkCaps_strict _ _ _ _ hm hv x hx ex hex
 ·rename_i t x' lo hi
  split at hm
  ·cases hm
  ·rename_i ex' hx'
   have hgo : ∀ {l r : Ex} {o : O3} {o1 : O1} {u}, loEx σ lo = some l → hiEx o1 ex' σ hi = some r → ev N env h (.o3 o ex' l r) = some u → ∃ ux, ev N env h ex = some ux := by
    intro l r o o1 u hl hr hv
    obtain ⟨ux, ul, ur, h1, h2, h3, _⟩ := ev_o3 hv
    cases lo <;> cases hi <;> simp [Op.operands] at hx
    ·subst hx; rw [hex] at hx'; cases hx'; exact ⟨_, h1⟩
    ·rcases hx with rfl | rfl
     ·rw [hex] at hx'; cases hx'; exact ⟨_, h1⟩
     ·simp only [hiEx] at hr; rw [hex] at hr; cases hr; exact ⟨_, h3⟩
    ·rcases hx with rfl | rfl
     ·rw [hex] at hx'; cases hx'; exact ⟨_, h1⟩
     ·simp only [loEx] at hl; rw [hex] at hl; cases hl; exact ⟨_, h2⟩
    ·rcases hx with rfl | rfl | rfl
     ·rw [hex] at hx'; cases hx'; exact ⟨_, h1⟩
     ·simp only [loEx] at hl; rw [hex] at hl; cases hl; exact ⟨_, h2⟩
     ·simp only [hiEx] at hr; rw [hex] at hr; cases hr; exact ⟨_, h3⟩
   split at hm
   ·split at hm <;> cases hm
    rename_i hl hr
    exact hgo hl hr hv
   ·split at hm <;> cases hm
    rename_i hl hr
    exact hgo hl hr hv
   ·cases hm
 ·split at hm
  ·rename_i r y hr
   obtain ⟨ey, h1, rfl⟩ := Option.map_eq_some_iff.1 hm
   rw [res1_ops hr] at hx
   simp at hx; subst hx
   rw [h1] at hex; cases hex
   obtain ⟨ux, h2, _⟩ := ev_o1 hv
   exact ⟨_, h2⟩
  ·split at hm
   ·rename_i r y z hr
    split at hm <;> cases hm
    rename_i ey ez hy hz
    rw [res2_ops hr] at hx
    simp at hx
    obtain ⟨ux, uy, h2, h3, _⟩ := ev_o2 hv
    rcases hx with rfl | rfl
    ·rw [hy] at hex; cases hex; exact ⟨_, h2⟩
    ·rw [hz] at hex; cases hex; exact ⟨_, h3⟩
   ·cases hm
end Go.Cw
namespace Go.Cw
open Go
variable {P : Program} {w : World} {h : Heap} {env : Env} {N : Num} {tk fk : Nat → Option Nat} {pb : Nat → Option Nat}
def evP (N : Num) (env : Env) (h : Heap) (g : Nat → Option Ex) : Pth → Option Bool
 | [] => some true
 | (k, w) :: r =>
  match (g k).bind (ev N env h) with
  | none => none
  | some (.v (.bool b)) => if b = w then evP N env h g r else some false
  | some _ => some false
theorem evP_append {g : Nat → Option Ex} (p q : Pth) : evP N env h g (p ++ q) = (match evP N env h g p with
  | some true => evP N env h g q
  | x => x) := by
 induction p with
 | nil => rfl
 | cons x p ih =>
  obtain ⟨k, w⟩ := x
  simp only [List.cons_append, evP]
  split
  ·rfl
  ·split
   ·exact ih
   ·rfl
  ·rfl
theorem evP_prefix {g : Nat → Option Ex} {p q : Pth} (hp : p.isPrefixOf q = true) (hq : evP N env h g q = some true) : evP N env h g p = some true := by
 obtain ⟨r, rfl⟩ := List.isPrefixOf_iff_prefix.1 hp
 rw [evP_append] at hq
 split at hq
 ·assumption
 ·rename_i x hx
  cases hh : evP N env h g p with
  | none => rw [hh] at hq; cases hq
  | some b => cases b with
   | true => rfl
   | false => rw [hh] at hq; cases hq
theorem evP_mem {g : Nat → Option Ex} : ∀ (q : Pth), evP N env h g q = some true → ∀ k w, (k, w) ∈ q → (g k).bind (ev N env h) = some (.v (.bool w)) := by
 intro q
 induction q with
 | nil => intro _ k w hk; cases hk
 | cons x q ih =>
  obtain ⟨k', w'⟩ := x
  intro hq k w hk
  simp only [evP] at hq
  split at hq
  ·cases hq
  ·rename_i b hb
   split at hq
   ·rename_i e; subst e
    simp only [List.mem_cons, Prod.mk.injEq] at hk
    rcases hk with ⟨rfl, rfl⟩ | hk
    ·exact hb
    ·exact ih hq k w hk
   ·cases hq
  ·cases hq
theorem evP_sub {g : Nat → Option Ex} : ∀ (p : Pth) {q : Pth}, p.all q.contains = true → evP N env h g q = some true → evP N env h g p = some true := by
 intro p
 induction p with
 | nil => intro q _ _; rfl
 | cons x p ih =>
  obtain ⟨k, w⟩ := x
  intro q hp hq
  simp only [List.all_cons, Bool.and_eq_true, List.contains_iff_mem] at hp
  simp only [evP, evP_mem q hq k w hp.1, if_true]
  exact ih hp.2 hq
theorem evP_snoc_true {g : Nat → Option Ex} {p : Pth} {k : Nat} {w : Bool} (hq : evP N env h g (p ++ [(k, w)]) = some true) :
  evP N env h g p = some true ∧ ∃ e, g k = some e ∧ ev N env h e = some (.v (.bool w)) := by
 rw [evP_append] at hq
 split at hq
 ·rename_i hp
  refine ⟨hp, ?_⟩
  simp only [evP] at hq
  split at hq
  ·cases hq
  ·rename_i b hb
   obtain ⟨e, h1, h2⟩ := Option.bind_eq_some_iff.1 hb
   split at hq
   ·rename_i e'; subst e'; exact ⟨e, h1, h2⟩
   ·cases hq
  ·cases hq
 ·rename_i x hx
  exact absurd hq hx
theorem evP_snoc_false {g : Nat → Option Ex} {p : Pth} {k : Nat} {w : Bool} (hq : evP N env h g (p ++ [(k, w)]) = some false) :
  evP N env h g p = some false ∨ (evP N env h g p = some true ∧ ∃ e u, g k = some e ∧ ev N env h e = some u ∧ u ≠ .v (.bool w)) := by
 rw [evP_append] at hq
 split at hq
 ·rename_i hp
  refine .inr ⟨hp, ?_⟩
  simp only [evP] at hq
  split at hq
  ·cases hq
  ·rename_i b hb
   obtain ⟨e, h1, h2⟩ := Option.bind_eq_some_iff.1 hb
   split at hq
   ·cases hq
   ·rename_i hne; exact ⟨e, _, h1, h2, by simpa using hne⟩
  ·rename_i u hne hb
   obtain ⟨e, h1, h2⟩ := Option.bind_eq_some_iff.1 hb
   exact ⟨e, u, h1, h2, fun e => hne w e⟩
 ·exact .inl hq
def SInv (N : Num) (env : Env) (h : Heap) (g : Nat → Option Ex) (pb : Nat → Option Nat) (s : Sg) (a : Act) : Prop :=
 ∀ t en, s.get t = some en → g en.owner = some en.ex ∧
  (evP N env h g en.path = some true → ∀ u, ev N env h en.ex = some u → urel pb u (a.tmps.getD t undef)) ∧
  (evP N env h g en.path = some false → a.tmps.getD t undef = undef)
theorem getD_put_same {a : Act} {d : Nat} {v : Value} (hd : d < a.tmps.size) : (a.put (some d) v).tmps.getD d undef = v := by
 simp [Act.put, Array.getD, hd]
theorem getD_put_other {a : Act} {d t : Nat} {v : Value} (hd : d ≠ t) : (a.put (some d) v).tmps.getD t undef = a.tmps.getD t undef := by
 simp only [Act.put, Array.getD_eq_getD_getElem?, Array.getElem?_setIfInBounds, hd, if_false]
theorem says_of {g : Nat → Option Ex} {s : Sg} {a : Act} (hi : SInv N env h g pb s a) {path : Pth} (hp : evP N env h g path = some true) (x : Operand) : Says N env h pb (sgOp s path) a.eval x := by
 intro e u he hv
 cases x with
 | const v => simp only [sgOp] at he; cases he; simp only [ev] at hv; cases hv; rfl
 | global k => simp only [sgOp] at he; cases he; simp only [ev] at hv; cases hv; rfl
 | func f => simp [sgOp] at he
 | tmp t =>
  simp only [sgOp] at he
  split at he
  ·rename_i en hen
   split at he <;> cases he
   rename_i hpre
   exact (hi t en hen).2.1 (evP_sub _ hpre hp) u hv
  ·cases he
theorem owner_ex {g : Nat → Option Ex} {s : Sg} {a : Act} (hi : SInv N env h g pb s a) {x : Operand} {o : Nat} (ho : ownerOf s x = some o) {path : Pth} {e : Ex} (he : sgOp s path x = some e) : g o = some e := by
 cases x with
 | tmp t =>
  simp only [ownerOf, Option.map_eq_some_iff] at ho
  obtain ⟨en, h1, rfl⟩ := ho
  simp only [sgOp, h1] at he
  split at he <;> cases he
  exact (hi t en h1).1
 | _ => simp [ownerOf] at ho
theorem wanted_true {g : Nat → Option Ex} {ops : Array Oper} {s : Sg} {a : Act} (hi : SInv N env h g pb s a) {o : Oper} {path : Pth} (hp : pathOf ops s o = some path) (hv : evP N env h g path = some true) :
  Region.wanted o (yielded ops a.tmps) = true := by
 unfold pathOf at hp
 unfold Region.wanted
 split at hp
 ·rename_i hg; rw [hg]
 ·rename_i k w hg
  rw [hg]
  split at hp
  ·rename_i d hd
   split at hp <;> cases hp
   rename_i en hen
   obtain ⟨h1, e, h2, h3⟩ := evP_snoc_true hv
   obtain ⟨h4, h5, _⟩ := hi d en hen
   rw [h4] at h2; cases h2
   have h6 := h5 h1 _ h3
   rw [urel_v] at h6
   have h7 : a.tmps[d]? = some (.bool w) := by
    rw [Array.getD_eq_getD_getElem?] at h6
    cases hh : a.tmps[d]? with
    | none => rw [hh] at h6; simp [undef] at h6
    | some v => rw [hh] at h6; simp at h6; rw [h6]
   simp [yielded, hd, h7]
  ·cases hp
theorem wanted_false {g : Nat → Option Ex} {ops : Array Oper} {s : Sg} {a : Act} (hi : SInv N env h g pb s a) {o : Oper} {path : Pth} (hp : pathOf ops s o = some path) (hv : evP N env h g path = some false) :
  Region.wanted o (yielded ops a.tmps) = false := by
 unfold pathOf at hp
 unfold Region.wanted
 split at hp
 ·cases hp; simp [evP] at hv
 ·rename_i k w hg
  rw [hg]
  split at hp
  ·rename_i d hd
   split at hp <;> cases hp
   rename_i en hen
   obtain ⟨h4, h5, h6⟩ := hi d en hen
   have key : ∀ v, a.tmps.getD d undef = v → v ≠ .bool w → (yielded ops a.tmps k == some w) = false := by
    intro v h1 h2
    have : yielded ops a.tmps k ≠ some w := by
     intro h3
     unfold yielded at h3
     rw [hd] at h3
     simp only [Option.bind_some] at h3
     split at h3
     ·rename_i b hb
      cases h3
      rw [Array.getD_eq_getD_getElem?, hb] at h1
      simp at h1
      exact h2 h1.symm
     ·cases h3
    simpa using this
   rcases evP_snoc_false hv with h1 | ⟨h1, e, u, h2, h3, h7⟩
   ·exact key undef (h6 h1) (by simp [undef])
   ·rw [h4] at h2; cases h2
    have h8 := h5 h1 u h3
    cases u with
    | v x =>
     rw [urel_v] at h8
     exact key x h8 (fun e => h7 (by rw [e]))
    | p i off =>
     obtain ⟨b, _, h9⟩ := h8
     exact key _ h9 (by simp)
  ·cases hp
theorem mkOp_sound (htk : ∀ t k, tk t = some k → N.tid k = t) (hfk : ∀ f k, fk f = some k → N.fid k = f) {g : Nat → Option Ex} {s : Sg} {a : Act} (hi : SInv N env h g pb s a) {path : Pth} (hp : evP N env h g path = some true)
  {o : Oper} {e : Ex} {us : List (Nat × Pth)} (hm : mkOp P tk fk s path o.op = some (e, us)) {u : UV} (hv : ev N env h e = some u) (hs : heapyOp P tk o.op = true → h.sub w) (hpr : heapyOp P tk o.op = true → Priv pb env h w) :
  (∃ y, (execOp a.eval o).run P w = .ok (.value y) w ∧ urel pb u y) ∧ ∀ k p, (k, p) ∈ us → evP N env h g p = some true → ∃ e u, g k = some e ∧ ev N env h e = some u := by
 unfold mkOp at hm
 split at hm
 ·rename_i c x y heq
  simp only at hm
  split at hm <;> cases hm
  rename_i t ec ea eb hc ha hb
  obtain ⟨en, hen, hpre, rfl⟩ : ∃ en, s.get t = some en ∧ en.path.all path.contains = true ∧ en.ex = ec := by
   simp only [sgOp] at hc
   split at hc
   ·rename_i en hen
    split at hc <;> cases hc
    exact ⟨en, hen, ‹_›, rfl⟩
   ·cases hc
  have hco : (ownerOf s (.tmp t)).getD 0 = en.owner := by simp [ownerOf, hen]
  rw [hco] at ha hb ⊢
  have hg := (hi t en hen).1
  simp only [ev] at hv
  have hcond : ∀ b, ev N env h en.ex = some (.v (.bool b)) → evP N env h g (path ++ [(en.owner, b)]) = some true := by
   intro b hb
   rw [evP_append, hp]
   simp [evP, hg, hb]
  have hother : ∀ b b', ev N env h en.ex = some (.v (.bool b)) → evP N env h g (path ++ [(en.owner, b')]) = some true → b = b' := by
   intro b b' hb h1
   obtain ⟨_, e, h2, h3⟩ := evP_snoc_true h1
   rw [hg] at h2; cases h2
   rw [hb] at h3; cases h3; rfl
  split at hv
  ·rename_i hcv
   have hce : a.eval (.tmp t) = .bool true := says_of hi hp (.tmp t) _ _ (by simp [sgOp, hen, hpre]) hcv
   refine ⟨⟨a.eval x, by rw [execOp_of heq]; simp [execOp, hce, asBool], says_of hi (hcond true hcv) x ea u ha hv⟩, ?_⟩
   intro k p hk hkp
   simp only [List.mem_cons, List.mem_append, List.mem_map] at hk
   rcases hk with (h1 | ⟨o', ho, h1⟩) | ⟨o', ho, h1⟩
   ·cases h1; exact ⟨_, _, hg, hcv⟩
   ·cases h1; exact ⟨ea, u, owner_ex hi (by simpa using ho) ha, hv⟩
   ·cases h1; exact absurd (hother true false hcv hkp) (by simp)
  ·rename_i hcv
   have hce : a.eval (.tmp t) = .bool false := says_of hi hp (.tmp t) _ _ (by simp [sgOp, hen, hpre]) hcv
   refine ⟨⟨a.eval y, by rw [execOp_of heq]; simp [execOp, hce, asBool], says_of hi (hcond false hcv) y eb u hb hv⟩, ?_⟩
   intro k p hk hkp
   simp only [List.mem_cons, List.mem_append, List.mem_map] at hk
   rcases hk with (h1 | ⟨o', ho, h1⟩) | ⟨o', ho, h1⟩
   ·cases h1; exact ⟨_, _, hg, hcv⟩
   ·cases h1; exact absurd (hother false true hcv hkp) (by simp)
   ·cases h1; exact ⟨eb, u, owner_ex hi (by simpa using ho) hb, hv⟩
  ·cases hv
 ·rename_i hnp
  split at hm <;> cases hm
  rename_i hmk
  refine ⟨mk_sound htk hfk (fun x => says_of hi hp x) hmk hv hs hpr, ?_⟩
  intro k p hk hkp
  simp only [List.mem_filterMap] at hk
  obtain ⟨x, hx, hk⟩ := hk
  split at hk
  ·rename_i hsm
   obtain ⟨ex, hsx⟩ := Option.isSome_iff_exists.1 hsm
   obtain ⟨o', ho, h1⟩ := Option.map_eq_some_iff.1 hk
   cases h1
   obtain ⟨ux, h2⟩ := mk_strict (fun c a b => hnp c a b) hmk hv x hx ex hsx
   exact ⟨ex, ux, owner_ex hi ho hsx, h2⟩
  ·cases hk
end Go.Cw
namespace Go.Cw
open Go
variable {P : Program} {w : World} {h : Heap} {env : Env} {N : Num} {tk fk : Nat → Option Nat} {pb : Nat → Option Nat}
theorem SInv.put {g : Nat → Option Ex} {s : Sg} {a : Act} (hi : SInv N env h g pb s a) {d : Nat} {v : Value} (hd : d < a.tmps.size) {en : En} (hg : g en.owner = some en.ex)
  (h1 : evP N env h g en.path = some true → ∀ u, ev N env h en.ex = some u → urel pb u v) (h2 : evP N env h g en.path = some false → v = undef) :
  SInv N env h g pb ((d, en) :: s) (a.put (some d) v) := by
 intro t en' he
 simp only [Sg.get] at he
 split at he
 ·rename_i e; subst e; cases he
  rw [getD_put_same hd]
  exact ⟨hg, h1, h2⟩
 ·rename_i e
  rw [getD_put_other e]
  exact hi t en' he
theorem pureL_sound (htk : ∀ t k, tk t = some k → N.tid k = t) (hfk : ∀ f k, fk f = some k → N.fid k = f) {g : Nat → Option Ex} {ops : Array Oper} {nt : Nat} {Q : Exit → Act → World → Prop} {rest : List Nat}
  (hs : h.sub w) (hpr : Priv pb env h w) : ∀ (L : List Nat) (s s' : Sg) (rs : List Rec) (a : Act), pureL P tk fk ops nt L s = some (rs, s') → SInv N env h g pb s a → a.tmps.size = nt →
   (∀ r ∈ rs, g r.idx = some r.ex) → (∀ r ∈ rs, evP N env h g r.path ≠ none ∧ (evP N env h g r.path = some true → r.move = true ∨ ∃ u, ev N env h r.ex = some u)) →
   (∀ a', SInv N env h g pb s' a' → a'.tmps.size = nt → a'.defers = a.defers → wpOps P ops Q rest a' w) → wpOps P ops Q (L ++ rest) a w := by
 intro L
 induction L with
 | nil =>
  intro s s' rs a hp hi hn _ _ hK
  simp only [pureL] at hp; cases hp
  exact hK a hi hn rfl
 | cons j L ih =>
  intro s s' rs a hp hi hn hg hc hK
  simp only [pureL] at hp
  split at hp <;> try (cases hp; done)
  rename_i o ho
  split at hp <;> try (cases hp; done)
  rename_i d path hd hpath
  split at hp <;> try (cases hp; done)
  rename_i e us hm
  split at hp <;> try (cases hp; done)
  rename_i hdn
  split at hp <;> cases hp
  rename_i rs' hp
  have hrec := hc _ (List.mem_cons_self ..)
  have hgj : g j = some e := hg _ (List.mem_cons_self ..)
  simp only at hrec
  have hd' : d < a.tmps.size := by rw [hn]; exact hdn
  have next : ∀ v, (evP N env h g path = some true → ∀ u, ev N env h e = some u → urel pb u v) → (evP N env h g path = some false → v = undef) → wpOps P ops Q (L ++ rest) (a.put (some d) v) w := by
   intro v h1 h2
   refine ih _ s' rs' _ hp (hi.put hd' hgj h1 h2) (by simp [Act.put, hn]) (fun r hr => hg r (List.mem_cons_of_mem _ hr)) (fun r hr => hc r (List.mem_cons_of_mem _ hr)) ?_
   intro a' h3 h4 h5
   exact hK a' h3 h4 h5
  simp only [List.cons_append, wpOps, ho]
  cases hev : evP N env h g path with
  | none => exact absurd hev hrec.1
  | some b =>
   cases b with
   | true =>
    rw [if_pos (wanted_true hi hpath hev)]
    left
    cases hu : ev N env h e with
    | none =>
     rcases hrec.2 hev with hmv | ⟨u, hu'⟩
     ·obtain ⟨x, hx⟩ : ∃ x, o.op = .move x ∨ o.op = .assign x := by
       cases ho' : o.op <;> rw [ho'] at hmv <;> simp [isMove] at hmv
       ·exact ⟨_, .inl rfl⟩
       ·exact ⟨_, .inr rfl⟩
      have hrun : (execOp a.eval o).run P w = .ok (.value (a.eval x)) w := by
       rcases hx with hx | hx <;> rw [execOp_of hx] <;> rfl
      refine wp_value hrun ?_
      rw [hd]
      exact next _ (fun _ u hu' => by rw [hu] at hu'; cases hu') (fun h => by rw [hev] at h; cases h)
     ·rw [hu] at hu'; cases hu'
    | some u =>
     obtain ⟨⟨y, hrun, hy⟩, _⟩ := mkOp_sound htk hfk hi hev hm hu (fun _ => hs) (fun _ => hpr)
     refine wp_value hrun ?_
     rw [hd]
     exact next y (fun _ u' hu' => by rw [hu] at hu'; cases hu'; exact hy) (fun h => by rw [hev] at h; cases h)
   | false =>
    rw [if_neg (by rw [wanted_false hi hpath hev]; simp)]
    rw [hd]
    exact next undef (fun h => by rw [hev] at h; cases h) (fun _ => rfl)
def cover (rs : List Rec) (c : List (Nat × Pth)) : List (Nat × Pth) :=
 rs.foldr (fun r c => if c.contains (r.idx, r.path) then r.uses ++ c else c) c
def prefs : Pth → Pth → List (Nat × Pth)
 | _, [] => []
 | acc, (k, w) :: r => (k, acc) :: prefs (acc ++ [(k, w)]) r
def okCov (rs : List Rec) (c : List (Nat × Pth)) : Bool :=
 rs.all fun r => (r.move || c.contains (r.idx, r.path)) && (prefs [] r.path).all fun x => c.contains x
def Cov (N : Num) (env : Env) (h : Heap) (g : Nat → Option Ex) (c : List (Nat × Pth)) : Prop :=
 ∀ k p, (k, p) ∈ c → evP N env h g p = some true → ∃ e u, g k = some e ∧ ev N env h e = some u
theorem evP_of_prefs {g : Nat → Option Ex} : ∀ (p acc : Pth), evP N env h g acc ≠ none → (∀ k q, (k, q) ∈ prefs acc p → evP N env h g q = some true → ∃ e u, g k = some e ∧ ev N env h e = some u) → evP N env h g (acc ++ p) ≠ none := by
  intro p
  induction p with
  | nil => intro acc ha _; simpa using ha
  | cons x p ih =>
    intro acc ha hc
    obtain ⟨k, w⟩ := x
    have := ih (acc ++ [(k, w)]) ?_ (fun k' q hk => hc k' q (by simp [prefs, hk]))
    · simpa using this
    · rw [evP_append]
      cases he : evP N env h g acc with
      | none => exact absurd he ha
      | some b =>
        cases b with
        | false => simp
        | true =>
          simp only
          obtain ⟨e, u, h1, h2⟩ := hc k acc (by simp [prefs]) he
          simp only [evP, h1, Option.bind_some, h2]
          cases u with
          | p _ _ => simp
          | v x => cases x <;> simp [evP]
                   split <;> simp
end Go.Cw
namespace Go.Cw
open Go
variable {P : Program} {w : World} {h : Heap} {env : Env} {N : Num} {tk fk : Nat → Option Nat} {pb : Nat → Option Nat}
def SG (g : Nat → Option Ex) (s : Sg) : Prop := ∀ t en, s.get t = some en → g en.owner = some en.ex
theorem owner_ex' {g : Nat → Option Ex} {s : Sg} (hi : SG g s) {x : Operand} {o : Nat} (ho : ownerOf s x = some o) {path : Pth} {e : Ex} (he : sgOp s path x = some e) : g o = some e := by
 cases x with
 | tmp t =>
  simp only [ownerOf, Option.map_eq_some_iff] at ho
  obtain ⟨en, h1, rfl⟩ := ho
  simp only [sgOp, h1] at he
  split at he <;> cases he
  exact hi t en h1
 | _ => simp [ownerOf] at ho
def Strict (N : Num) (env : Env) (h : Heap) (g : Nat → Option Ex) (r : Rec) : Prop :=
 (∀ k p, (k, p) ∈ r.uses → r.path.isPrefixOf p = true) ∧ (evP N env h g r.path = some true → (∃ u, ev N env h r.ex = some u) → ∀ k p, (k, p) ∈ r.uses → evP N env h g p = some true → ∃ e u, g k = some e ∧ ev N env h e = some u)
theorem mkOp_pre {s : Sg} {path : Pth} {op : Op} {e : Ex} {us : List (Nat × Pth)} (hm : mkOp P tk fk s path op = some (e, us)) : ∀ k p, (k, p) ∈ us → path.isPrefixOf p = true := by
 unfold mkOp at hm
 split at hm
 ·simp only at hm
  split at hm <;> cases hm
  intro k p hk
  simp only [List.mem_cons, List.mem_append, List.mem_map] at hk
  rcases hk with (h1 | ⟨o', ho, h1⟩) | ⟨o', ho, h1⟩ <;> cases h1 <;> simp [List.isPrefixOf_iff_prefix]
 ·split at hm <;> cases hm
  intro k p hk
  simp only [List.mem_filterMap] at hk
  obtain ⟨x, hx, hk⟩ := hk
  split at hk
  ·obtain ⟨o', ho, h1⟩ := Option.map_eq_some_iff.1 hk
   cases h1; simp [List.isPrefixOf_iff_prefix]
  ·cases hk
theorem mkOp_uses {g : Nat → Option Ex} {s : Sg} (hi : SG g s) {path : Pth} (hp : evP N env h g path = some true)
  {op : Op} {e : Ex} {us : List (Nat × Pth)} (hm : mkOp P tk fk s path op = some (e, us)) {u : UV} (hv : ev N env h e = some u) :
  ∀ k p, (k, p) ∈ us → evP N env h g p = some true → ∃ e u, g k = some e ∧ ev N env h e = some u := by
 unfold mkOp at hm
 split at hm
 ·rename_i c x y
  simp only at hm
  split at hm <;> cases hm
  rename_i t ec ea eb hc ha hb
  obtain ⟨en, hen, hpre, rfl⟩ : ∃ en, s.get t = some en ∧ en.path.all path.contains = true ∧ en.ex = ec := by
   simp only [sgOp] at hc
   split at hc
   ·rename_i en hen
    split at hc <;> cases hc
    exact ⟨en, hen, ‹_›, rfl⟩
   ·cases hc
  have hco : (ownerOf s (.tmp t)).getD 0 = en.owner := by simp [ownerOf, hen]
  rw [hco] at ha hb ⊢
  have hg := hi t en hen
  simp only [ev] at hv
  have hother : ∀ b b', ev N env h en.ex = some (.v (.bool b)) → evP N env h g (path ++ [(en.owner, b')]) = some true → b = b' := by
   intro b b' hb h1
   obtain ⟨_, e, h2, h3⟩ := evP_snoc_true h1
   rw [hg] at h2; cases h2
   rw [hb] at h3; cases h3; rfl
  intro k p hk hkp
  simp only [List.mem_cons, List.mem_append, List.mem_map] at hk
  split at hv
  ·rename_i hcv
   rcases hk with (h1 | ⟨o', ho, h1⟩) | ⟨o', ho, h1⟩
   ·cases h1; exact ⟨_, _, hg, hcv⟩
   ·cases h1; exact ⟨ea, u, owner_ex' hi (by simpa using ho) ha, hv⟩
   ·cases h1; exact absurd (hother true false hcv hkp) (by simp)
  ·rename_i hcv
   rcases hk with (h1 | ⟨o', ho, h1⟩) | ⟨o', ho, h1⟩
   ·cases h1; exact ⟨_, _, hg, hcv⟩
   ·cases h1; exact absurd (hother false true hcv hkp) (by simp)
   ·cases h1; exact ⟨eb, u, owner_ex' hi (by simpa using ho) hb, hv⟩
  ·cases hv
 ·rename_i hnp
  split at hm <;> cases hm
  rename_i hmk
  intro k p hk hkp
  simp only [List.mem_filterMap] at hk
  obtain ⟨x, hx, hk⟩ := hk
  split at hk
  ·rename_i hsm
   obtain ⟨ex, hsx⟩ := Option.isSome_iff_exists.1 hsm
   obtain ⟨o', ho, h1⟩ := Option.map_eq_some_iff.1 hk
   cases h1
   obtain ⟨ux, h2⟩ := mk_strict (fun c a b => hnp c a b) hmk hv x hx ex hsx
   exact ⟨ex, ux, owner_ex' hi ho hsx, h2⟩
  ·cases hk
theorem pureL_strict {g : Nat → Option Ex} {ops : Array Oper} {nt : Nat} : ∀ (L : List Nat) (s s' : Sg) (rs : List Rec), pureL P tk fk ops nt L s = some (rs, s') → SG g s → (∀ r ∈ rs, g r.idx = some r.ex) →
  (∀ r ∈ rs, Strict N env h g r) ∧ SG g s' := by
 intro L
 induction L with
 | nil => intro s s' rs hp hi _; simp only [pureL] at hp; cases hp; exact ⟨by simp, hi⟩
 | cons j L ih =>
  intro s s' rs hp hi hg
  simp only [pureL] at hp
  split at hp <;> try (cases hp; done)
  split at hp <;> try (cases hp; done)
  rename_i d path hd hpath
  split at hp <;> try (cases hp; done)
  rename_i e us hm
  split at hp <;> try (cases hp; done)
  split at hp <;> cases hp
  rename_i rs' hp
  have hgj : g j = some e := hg _ (List.mem_cons_self ..)
  have hi' : SG g ((d, ⟨j, path, e⟩) :: s) := by
   intro t en he
   simp only [Sg.get] at he
   split at he
   ·cases he; exact hgj
   ·exact hi t en he
  obtain ⟨h1, h2⟩ := ih _ _ _ hp hi' (fun r hr => hg r (List.mem_cons_of_mem _ hr))
  refine ⟨fun r hr => ?_, h2⟩
  simp only [List.mem_cons] at hr
  rcases hr with rfl | hr
  ·exact ⟨mkOp_pre hm, fun h3 ⟨u, h4⟩ => mkOp_uses hi h3 hm h4⟩
  ·exact h1 r hr
theorem cover_sound {g : Nat → Option Ex} : ∀ (rs : List Rec) (c : List (Nat × Pth)), (∀ r ∈ rs, Strict N env h g r) → (∀ r ∈ rs, g r.idx = some r.ex) → Cov N env h g c → Cov N env h g (cover rs c) := by
 intro rs
 induction rs with
 | nil => intro c _ _ hc; exact hc
 | cons r rs ih =>
  intro c hs hg hc
  have h1 := ih c (fun r hr => hs r (List.mem_cons_of_mem _ hr)) (fun r hr => hg r (List.mem_cons_of_mem _ hr)) hc
  simp only [cover, List.foldr_cons] at h1 ⊢
  split
  ·rename_i hcon
   intro k p hk hp
   simp only [List.mem_append] at hk
   rcases hk with hk | hk
   ·have hmem : (r.idx, r.path) ∈ List.foldr (fun r c => if c.contains (r.idx, r.path) then r.uses ++ c else c) c rs := by simpa using hcon
    obtain ⟨hpre, hstr⟩ := hs r (List.mem_cons_self ..)
    have hpr := evP_prefix (hpre k p hk) hp
    obtain ⟨e, u, h2, h3⟩ := h1 _ _ hmem hpr
    have := hg r (List.mem_cons_self ..)
    rw [h2] at this; cases this
    exact hstr hpr ⟨u, h3⟩ k p hk hp
   ·exact h1 k p hk hp
  ·exact h1
end Go.Cw
namespace Go.Cw
open Go
variable {P : Program} {w : World} {h : Heap} {env : Env} {N : Num} {tk fk : Nat → Option Nat} {pb : Nat → Option Nat}
def gOf (rs : List Rec) (s0 : Sg) (k : Nat) : Option Ex :=
 match rs.find? (fun r => r.idx == k) with
 | some r => some r.ex
 | none => (s0.find? fun x => x.2.owner == k).map fun x => x.2.ex
def pathEx (g : Nat → Option Ex) : Pth → Option (List (Ex × Bool))
 | [] => some []
 | (k, w) :: r =>
  match g k, pathEx g r with
  | some e, some l => some ((e, w) :: l)
  | _, _ => none
def letsOf (g : Nat → Option Ex) (s : Sg) (n : Nat) : Nat → Lmap → Option (List Let × List (Nat × Pth))
 | _, [] => some ([], [])
 | i, (slot, pr) :: r =>
  match s.get slot, letsOf g s n (i + 1) r with
  | some en, some (ls, c) =>
   if en.owner = n + slot then some (ls, c)
   else if pr then none else
   match pathEx g en.path with
   | some gs => some (⟨gs, i, en.ex⟩ :: ls, (en.owner, en.path) :: prefs [] en.path ++ c)
   | none => none
  | _, _ => none
def idxOf (slot : Nat) : Nat → Lmap → Option (Nat × Bool)
 | _, [] => none
 | i, (s, pr) :: r => if s = slot then some (i, pr) else idxOf slot (i + 1) r
def padRoot : Ex → Option Nat
 | .pad i => some i
 | .o1 (.fadr _) a => padRoot a
 | .o1 .nilck a => padRoot a
 | .o2 (.aadr _ _) a _ => padRoot a
 | _ => none
def exList (s : Sg) (path : Pth) : List Operand → Option (List Ex)
 | [] => some []
 | x :: r =>
  match sgOp s path x, exList s path r with
  | some e, some l => some (e :: l)
  | _, _ => none
def ownersOf (s : Sg) (path : Pth) (l : List Operand) : List (Nat × Pth) := l.filterMap fun x => (ownerOf s x).map fun o => (o, path)
def zerosOf (P : Program) (e : TypeId) (len : Nat) : Option (Array Value) :=
 match P.info? e with
 | some i =>
  match i.zero with
  | some z => if z.cells.size = i.size ∧ len * i.size ≤ 16777216 ∧ 0 < i.size then some (((Array.range (len * i.size)).map (z.cells[· % z.cells.size]!))) else none
  | none => none
 | none => none
def mkParts (σ : Operand → Option Ex) (size : Nat) : Ex → List (Nat × Operand) → Option Ex
 | b, [] => some b
 | b, (i, x) :: r =>
  match σ x with
  | some e => mkParts σ size (.o2 (.bput (i * size) size) b e) r
  | none => none
def dstOf (m : Lmap) (nt : Nat) : Option Nat → Option (Option Nat)
 | none => some none
 | some d => if d < nt then
   match idxOf d 0 m with
   | none => some none
   | some (i, false) => some (some i)
   | some (_, true) => none
  else none
def slotOf (m : Lmap) : Option Nat → Option (Nat × Bool)
 | some d => idxOf d 0 m
 | none => none
def effBox (s : Sg) (nt i : Nat) (path : Pth) (dst : Option Nat) (x : Operand) : Option (EI × List (Nat × Pth)) :=
 match path, sgOp s [] x, dst with
 | [], some e, some d => if d < nt then some (.pnew i e, ownersOf s [] [x]) else none
 | _, _, _ => none
def effAl (P : Program) (nt i : Nat) (path : Pth) (dst : Option Nat) (t : TypeId) : Option (EI × List (Nat × Pth)) :=
 match path, (P.info? t).bind (·.zero), dst with
 | [], some z, some d => if d < nt then some (.pnew i (.con z), []) else none
 | _, _, _ => none
def effSt (P : Program) (g : Nat → Option Ex) (s : Sg) (path : Pth) (dst : Option Nat) (t : TypeId) (a x : Operand) : Option (EI × List (Nat × Pth)) :=
 match sgOp s path a, sgOp s path x, sizeOf' P t, dst with
 | some ea, some ex, some n, none =>
  match padRoot ea with
  | some i => if path.isEmpty then some (.pst i (.upd (.cnt i) i n ea ex), ownersOf s path [a, x]) else none
  | none =>
   match pathEx g path with
   | some gs => some (.ef gs (.st n) [ea, ex] none, prefs [] path ++ ownersOf s path [a, x])
   | none => none
 | _, _, _, _ => none
def effBsl (P : Program) (tk : Nat → Option Nat) (nt : Nat) (m : Lmap) (g : Nat → Option Ex) (s : Sg) (path : Pth) (dst : Option Nat) (t : TypeId) (len : Nat) (parts : List (Nat × Operand)) : Option (EI × List (Nat × Pth)) :=
 match P.underlying t with
 | some (.slice e) =>
  match zerosOf P e len, sizeOf' P e, tk e, pathEx g path, dstOf m nt dst with
  | some z, some size, some k, some gs, some d =>
   match mkParts (sgOp s path) size (.con (.agg z)) parts with
   | some ex => some (.ef gs (.bsl k len) [ex] d, prefs [] path ++ ownersOf s path (parts.map (·.2)))
   | none => none
  | _, _, _, _, _ => none
 | _ => none
def effRes (P : Program) (tk fk : Nat → Option Nat) (nt : Nat) (m : Lmap) (g : Nat → Option Ex) (s : Sg) (path : Pth) (dst : Option Nat) (op : Op) : Option (EI × List (Nat × Pth)) :=
 match resE P tk fk op with
 | some (f, xs) =>
  match exList s path xs, pathEx g path, dstOf m nt dst with
  | some es, some gs, some d => some (.ef gs f es d, prefs [] path ++ ownersOf s path xs)
  | _, _, _ => none
 | none => none
def effOf (P : Program) (tk fk : Nat → Option Nat) (ops : Array Oper) (nt : Nat) (m : Lmap) (g : Nat → Option Ex) (s : Sg) (o : Oper) : Option (EI × List (Nat × Pth)) :=
 match pathOf ops s o with
 | none => none
 | some path =>
  match slotOf m o.dst with
  | some (i, true) =>
   match o.op with
   | .box _ x => effBox s nt i path o.dst x
   | .alloc t => effAl P nt i path o.dst t
   | _ => none
  | _ =>
   match o.op with
   | .store t a x => effSt P g s path o.dst t a x
   | .buildSlice t len parts => effBsl P tk nt m g s path o.dst t len parts.toList
   | op => effRes P tk fk nt m g s path o.dst op
def nodupN : List Nat → Bool
 | [] => true
 | x :: r => !r.contains x && nodupN r
def stage (P : Program) (tk fk : Nat → Option Nat) (ops : Array Oper) (nt : Nat) (m : Lmap) (L : List Nat) (x : Option Nat) : Option Stg :=
 match pureL P tk fk ops nt L (sg0 ops.size 0 m) with
 | none => none
 | some (rs, s) =>
  let g := gOf rs (sg0 ops.size 0 m)
  if nodupN L && L.all (· < ops.size) then
   match letsOf g s ops.size 0 m with
   | none => none
   | some (lets, c1) =>
    match x with
    | none => if okCov rs (cover rs c1) then some ⟨lets, none⟩ else none
    | some j =>
     match ops[j]? with
     | none => none
     | some o =>
      match effOf P tk fk ops nt m g s o with
      | some (ei, c2) => if okCov rs (cover rs (c1 ++ c2)) then some ⟨lets, some ei⟩ else none
      | none => none
  else none
def isPure : Op → Bool
 | .move _ | .assign _ | .pick _ _ _ | .build _ _ | .makeFunc _ _ _ | .slice _ _ _ _ _ | .fieldAddr _ _ _ | .load _ _ | .nilCheck _ | .unOp _ _ _ | .binOp _ _ _ _ _ | .convert _ _ _
 | .extract _ _ | .field _ _ _ | .makeInterface _ _ | .typeAssert _ _ _ _ | .indexAddr _ _ _ | .index _ _ _ | .lookup _ _ _ _ => true
 | .call { callee := .builtin b, args := _, argTypes := _ } => match b with
  | .len | .max | .min => true
  | _ => false
 | _ => false
def stages (P : Program) (tk fk : Nat → Option Nat) (ops : Array Oper) (nt : Nat) (m : Lmap) : List Nat → List Nat → Option (List Stg)
 | acc, [] => if acc.isEmpty then some [] else (stage P tk fk ops nt m acc.reverse none).map fun s => [s]
 | acc, j :: r =>
  match ops[j]? with
  | none => none
  | some o =>
   if isPure o.op then stages P tk fk ops nt m (j :: acc) r
   else
    match stage P tk fk ops nt m acc.reverse (some j), stages P tk fk ops nt m [] r with
    | some s, some l => some (s :: l)
    | _, _ => none
end Go.Cw
namespace Go.Cw
open Go
variable {P : Program} {w : World} {h : Heap} {env : Env} {N : Num} {tk fk : Nat → Option Nat} {pb : Nat → Option Nat}
structure Rel (m : Lmap) (nt : Nat) (h0 : Heap) (w0 : World) (pb : Nat → Option Nat) (env : Env) (h : Heap) (a : Act) (w : World) : Prop where
 elen : env.length = m.length
 plain : ∀ i slot, m[i]? = some (slot, false) → ∀ v, env.get i = some v → a.tmps.getD slot undef = v
 prom : ∀ i slot, m[i]? = some (slot, true) → ∀ v, env.get i = some v → ∃ b, pb i = some b ∧ a.tmps.getD slot undef = .pointer (some ⟨b, 0, none⟩)
 priv : Priv pb env h w
 pbm : ∀ i b, pb i = some b → ∃ slot, m[i]? = some (slot, true) ∧ w0.heap.size ≤ b
 inj : ∀ i j b, pb i = some b → pb j = some b → i = j
 step : WStep h0 h w0 w
 nt : a.tmps.size = nt
 df : a.defers = []
theorem evGs_path {g : Nat → Option Ex} : ∀ (p : Pth) (gs : List (Ex × Bool)), pathEx g p = some gs → evGs N env h gs = evP N env h g p := by
 intro p
 induction p with
 | nil => intro gs hg; simp only [pathEx] at hg; cases hg; rfl
 | cons x p ih =>
  intro gs hg
  obtain ⟨k, w⟩ := x
  simp only [pathEx] at hg
  split at hg <;> cases hg
  rename_i e l he hl
  simp only [evGs, evP, he, Option.bind_some, ih l hl]
  all_goals
   cases hv : ev N env h e with
   | none => rfl
   | some u => cases u with
    | p _ _ => rfl
    | v x => cases x <;> rfl
theorem prefs_cov {g : Nat → Option Ex} : ∀ (p acc : Pth), evP N env h g (acc ++ p) ≠ none → Cov N env h g (prefs acc p) := by
 intro p
 induction p with
 | nil => intro acc _ k q hk; simp [prefs] at hk
 | cons x p ih =>
  intro acc ha k q hk hq
  obtain ⟨k', w⟩ := x
  simp only [prefs, List.mem_cons] at hk
  rcases hk with hk | hk
  ·cases hk
   rw [evP_append, hq] at ha
   simp only [evP] at ha
   cases hb : (g k).bind (ev N env h) with
   | none => rw [hb] at ha; simp at ha
   | some u =>
    obtain ⟨e, h1, h2⟩ := Option.bind_eq_some_iff.1 hb
    exact ⟨e, u, h1, h2⟩
  ·exact ih (acc ++ [(k', w)]) (by simpa using ha) k q hk hq
theorem sg0_get {n : Nat} : ∀ (m : Lmap) (i t : Nat) (en : En), (sg0 n i m).get t = some en → ∃ (j : Nat) (pr : Bool), m[j]? = some (t, pr) ∧ en = ⟨n + t, [], if pr = true then .pad (i + j) else .var (i + j)⟩ := by
 intro m
 induction m with
 | nil => intro i t en he; simp [sg0, Sg.get] at he
 | cons x m ih =>
  intro i t en he
  obtain ⟨slot, pr⟩ := x
  simp only [sg0, Sg.get] at he
  split at he
  ·rename_i e; subst e; cases he; exact ⟨0, pr, rfl, by simp⟩
  ·obtain ⟨j, pr', h1, h2⟩ := ih _ _ _ he
   exact ⟨j + 1, pr', by simpa using h1, by rw [h2]; simp [Nat.add_assoc, Nat.add_comm 1 j]⟩
theorem sg0_find {n : Nat} : ∀ (m : Lmap) (i t : Nat) (en : En), (sg0 n i m).get t = some en → ((sg0 n i m).find? fun x => x.2.owner == n + t).map (fun x => x.2.ex) = some en.ex := by
 intro m
 induction m with
 | nil => intro i t en he; simp [sg0, Sg.get] at he
 | cons x m ih =>
  intro i t en he
  obtain ⟨slot, pr⟩ := x
  simp only [sg0, Sg.get] at he ⊢
  split at he
  ·rename_i e; subst e; cases he; simp
  ·rename_i e
   have : (n + slot == n + t) = false := by simp; exact e
   rw [List.find?_cons_of_neg (by simpa using e)]
   exact ih _ _ _ he
theorem nodupN_iff : ∀ (l : List Nat), nodupN l = true → l.Nodup := by
 intro l
 induction l with
 | nil => intro _; exact List.nodup_nil
 | cons x l ih =>
  intro hl
  simp only [nodupN, Bool.and_eq_true, Bool.not_eq_true', List.contains_eq_mem, decide_eq_false_iff_not] at hl
  exact List.nodup_cons.2 ⟨hl.1, ih hl.2⟩
theorem pureL_idx {ops : Array Oper} {nt : Nat} : ∀ (L : List Nat) (s s' : Sg) (rs : List Rec), pureL P tk fk ops nt L s = some (rs, s') → rs.map (·.idx) = L := by
 intro L
 induction L with
 | nil => intro s s' rs hp; simp only [pureL] at hp; cases hp; rfl
 | cons j L ih =>
  intro s s' rs hp
  simp only [pureL] at hp
  split at hp <;> try (cases hp; done)
  split at hp <;> try (cases hp; done)
  split at hp <;> try (cases hp; done)
  split at hp <;> try (cases hp; done)
  split at hp <;> cases hp
  rename_i rs' hp
  simp [ih _ _ _ hp]
theorem gOf_rec {rs : List Rec} {s0 : Sg} : (rs.map (·.idx)).Nodup → ∀ r ∈ rs, gOf rs s0 r.idx = some r.ex := by
 intro hn r hr
 have : rs.find? (fun x => x.idx == r.idx) = some r := by
  induction rs with
  | nil => simp at hr
  | cons x rs ih =>
   simp only [List.map_cons, List.nodup_cons] at hn
   simp only [List.mem_cons] at hr
   rcases hr with rfl | hr
   ·simp
   ·have hne : x.idx ≠ r.idx := by
     intro e
     exact hn.1 (e ▸ List.mem_map_of_mem hr)
    rw [List.find?_cons_of_neg (by simpa using hne)]
    exact ih hn.2 hr
 simp [gOf, this]
theorem gOf_sg0 {rs : List Rec} {n : Nat} {m : Lmap} (hlt : ∀ r ∈ rs, r.idx < n) : SG (gOf rs (sg0 n 0 m)) (sg0 n 0 m) := by
 intro t en he
 obtain ⟨j, pr, h1, h2⟩ := sg0_get m 0 t en he
 have hno : rs.find? (fun r => r.idx == n + t) = none := by
  rw [List.find?_eq_none]
  intro r hr
  have := hlt r hr
  simp; omega
 have ho : en.owner = n + t := by rw [h2]
 rw [ho]
 simp only [gOf, hno]
 exact sg0_find m 0 t en he
theorem Rel.sinv {m : Lmap} {nt : Nat} {h0 : Heap} {w0 : World} {a : Act} (hr : Rel m nt h0 w0 pb env h a w) {rs : List Rec} {n : Nat} (hlt : ∀ r ∈ rs, r.idx < n) :
  SInv N env h (gOf rs (sg0 n 0 m)) pb (sg0 n 0 m) a := by
 intro t en he
 obtain ⟨j, pr, h1, h2⟩ := sg0_get m 0 t en he
 refine ⟨gOf_sg0 hlt t en he, ?_, ?_⟩
 ·intro _ u hu
  subst h2
  simp only [Nat.zero_add] at hu
  cases pr with
  | false =>
   simp only [Bool.false_eq_true, if_false, ev, Option.map_eq_some_iff] at hu
   obtain ⟨v, h3, rfl⟩ := hu
   exact hr.plain j t h1 v h3
  | true =>
   simp only [if_true, ev, Option.map_eq_some_iff] at hu
   obtain ⟨v, h3, rfl⟩ := hu
   obtain ⟨b, h4, h5⟩ := hr.prom j t h1 v h3
   exact ⟨b, h4, h5⟩
 ·intro hf
  rw [h2] at hf
  simp [evP] at hf
end Go.Cw
namespace Go.Cw
open Go
variable {P : Program} {w : World} {h : Heap} {env : Env} {N : Num} {tk fk : Nat → Option Nat} {pb : Nat → Option Nat}
theorem Env.get_put_same {e : Env} {i : Nat} {v : Value} (hi : i < e.length) : (Env.put e i v).get i = some v := by
 simp [Env.get, Env.put, hi]
theorem Env.get_put_other {e : Env} {i j : Nat} {v : Value} (hij : i ≠ j) : (Env.put e i v).get j = e.get j := by
 simp [Env.get, Env.put, List.getElem?_set, hij]
theorem Env.len_put {e : Env} {i : Nat} {v : Value} : (Env.put e i v).length = e.length := by simp [Env.put]
theorem lets_spec {g : Nat → Option Ex} {s : Sg} {n : Nat} : ∀ (m : Lmap) (k : Nat) (ls : List Let) (c : List (Nat × Pth)) (e e1 : Env), letsOf g s n k m = some (ls, c) → putLets N env h ls e = some e1 → k + m.length ≤ e.length →
    (∀ t en, s.get t = some en → g en.owner = some en.ex) →
    e1.length = e.length ∧ (∀ j, j < k → e1.get j = e.get j) ∧ Cov N env h g c ∧
    ∀ (j slot : Nat) (pr : Bool), m[j]? = some (slot, pr) → ∃ en, s.get slot = some en ∧
      ((en.owner = n + slot ∧ e1.get (k + j) = e.get (k + j)) ∨
       (pr = false ∧ ((evP N env h g en.path = some true ∧ ∃ x, ev N env h en.ex = some (.v x) ∧ e1.get (k + j) = some x) ∨ (evP N env h g en.path = some false ∧ e1.get (k + j) = some undef)))) := by
  intro m
  induction m with
  | nil =>
    intro k ls c e e1 hl hp _ _
    simp only [letsOf] at hl; cases hl
    simp only [putLets] at hp; cases hp
    exact ⟨rfl, fun _ _ => rfl, by intro k p hk; simp at hk, by intro j slot pr hm; simp at hm⟩
  | cons x m ih =>
    intro k ls c e e1 hl hp hlen hg
    obtain ⟨slot, pr⟩ := x
    simp only [letsOf] at hl
    split at hl <;> try (cases hl; done)
    rename_i en ls' c' hen hl'
    simp only [List.length_cons] at hlen
    split at hl
    · rename_i ho
      cases hl
      obtain ⟨h1, h2, h3, h4⟩ := ih (k + 1) ls c e e1 hl' hp (by omega) hg
      refine ⟨h1, fun j hj => h2 j (by omega), h3, ?_⟩
      intro j slot' pr' hm
      cases j with
      | zero => simp at hm; obtain ⟨rfl, rfl⟩ := hm; exact ⟨en, hen, .inl ⟨ho, h2 k (by omega)⟩⟩
      | succ j =>
        have := h4 j slot' pr' (by simpa using hm)
        rwa [show k + 1 + j = k + (j + 1) by omega] at this
    · rename_i ho
      split at hl <;> try (cases hl; done)
      rename_i hpr
      split at hl <;> cases hl
      rename_i gs hgs
      simp only [putLets] at hp
      have hgse := evGs_path (N := N) (env := env) (h := h) en.path gs hgs
      have hgo := hg slot en hen
      have fin : ∀ v, putLets N env h ls' (e.put k v) = some e1 → evP N env h g en.path ≠ none →
          ((evP N env h g en.path = some true ∧ ∃ x, ev N env h en.ex = some (.v x) ∧ v = x) ∨ (evP N env h g en.path = some false ∧ v = undef)) →
          e1.length = e.length ∧ (∀ j, j < k → e1.get j = e.get j) ∧ Cov N env h g ((en.owner, en.path) :: prefs [] en.path ++ c') ∧
          ∀ (j slot' : Nat) (pr' : Bool), ((slot, pr) :: m)[j]? = some (slot', pr') → ∃ en, s.get slot' = some en ∧
            ((en.owner = n + slot' ∧ e1.get (k + j) = e.get (k + j)) ∨
             (pr' = false ∧ ((evP N env h g en.path = some true ∧ ∃ x, ev N env h en.ex = some (.v x) ∧ e1.get (k + j) = some x) ∨ (evP N env h g en.path = some false ∧ e1.get (k + j) = some undef)))) := by
        intro v hp hne hv
        obtain ⟨h1, h2, h3, h4⟩ := ih (k + 1) ls' c' (e.put k v) e1 hl' hp (by rw [Env.len_put]; omega) hg
        have hk : e1.get k = some v := by rw [h2 k (by omega)]; exact Env.get_put_same (by omega)
        refine ⟨by rw [h1, Env.len_put], fun j hj => ?_, ?_, ?_⟩
        · rw [h2 j (by omega)]; exact Env.get_put_other (by omega)
        · intro k' p hk' hp'
          simp only [List.mem_append, List.mem_cons] at hk'
          rcases hk' with (hk' | hk') | hk'
          · cases hk'
            rcases hv with ⟨_, x, hx, _⟩ | ⟨hf, _⟩
            · exact ⟨_, _, hgo, hx⟩
            · rw [hf] at hp'; cases hp'
          · exact prefs_cov en.path [] (by simpa using hne) k' p hk' hp'
          · exact h3 k' p hk' hp'
        · intro j slot' pr' hm
          cases j with
          | zero =>
            simp at hm; obtain ⟨rfl, rfl⟩ := hm
            refine ⟨en, hen, .inr ⟨by simpa using hpr, ?_⟩⟩
            rw [Nat.add_zero, hk]
            rcases hv with ⟨ht, x, hx, rfl⟩ | ⟨hf, rfl⟩
            · exact .inl ⟨ht, _, hx, rfl⟩
            · exact .inr ⟨hf, rfl⟩
          | succ j =>
            obtain ⟨en', h5, h6⟩ := h4 j slot' pr' (by simpa using hm)
            refine ⟨en', h5, ?_⟩
            rw [show k + 1 + j = k + (j + 1) by omega] at h6
            rwa [Env.get_put_other (by omega)] at h6
      split at hp
      · cases hp
      · rename_i hf
        rw [hgse] at hf
        exact fin undef hp (by rw [hf]; simp) (.inr ⟨hf, rfl⟩)
      · rename_i ht
        rw [hgse] at ht
        split at hp
        · rename_i x hx
          exact fin x hp (by rw [ht]; simp) (.inl ⟨ht, x, hx, rfl⟩)
        · cases hp
theorem Rel.lets {m : Lmap} {nt : Nat} {h0 : Heap} {w0 : World} {a a' : Act} (hr : Rel m nt h0 w0 pb env h a w) {g : Nat → Option Ex} {s : Sg} {n : Nat} {ls : List Let} {c : List (Nat × Pth)} {e1 : Env}
  (hl : letsOf g s n 0 m = some (ls, c)) (hp : putLets N env h ls env = some e1) (hi : SInv N env h g pb s a') (hn : a'.tmps.size = nt) (hd : a'.defers = a.defers)
  (hini : ∀ t en, s.get t = some en → en.owner = n + t → ∃ (j : Nat) (pr : Bool), m[j]? = some (t, pr) ∧ en.path = [] ∧ en.ex = if pr = true then .pad j else .var j)
  (hnd : (m.map (·.1)).Nodup) : Rel m nt h0 w0 pb e1 h a' w := by
 obtain ⟨h1, _, _, h4⟩ := lets_spec m 0 ls c env e1 hl hp (by rw [hr.elen]; omega) (fun t en he => (hi t en he).1)
 have huniq : ∀ (j j' slot : Nat) (pr pr' : Bool), m[j]? = some (slot, pr) → m[j']? = some (slot, pr') → j = j' ∧ pr = pr' := by
  intro j j' slot pr pr' hj hj'
  have e1 : (m.map (·.1))[j]? = some slot := by simp [hj]
  have e2 : (m.map (·.1))[j']? = some slot := by simp [hj']
  have hjl : j < (m.map (·.1)).length := (List.getElem?_eq_some_iff.1 e1).1
  have := (List.getElem?_inj hjl hnd).1 (e1.trans e2.symm)
  subst this
  rw [hj] at hj'; cases hj'; exact ⟨rfl, rfl⟩
 have hkeep : ∀ (j slot : Nat) (pr : Bool) (en : En), m[j]? = some (slot, pr) → s.get slot = some en → en.owner = n + slot → en.path = [] ∧ en.ex = if pr = true then .pad j else .var j := by
  intro j slot pr en hj hen ho
  obtain ⟨j', pr', h5, h6, h7⟩ := hini slot en hen ho
  obtain ⟨rfl, rfl⟩ := huniq _ _ _ _ _ hj h5
  exact ⟨h6, h7⟩
 have hprom : ∀ i slot, m[i]? = some (slot, true) → e1.get i = env.get i := by
  intro i slot hm
  obtain ⟨en, h5, h6⟩ := h4 i slot true hm
  rcases h6 with ⟨_, h6⟩ | ⟨h6, _⟩
  ·simpa using h6
  ·cases h6
 refine ⟨by rw [h1, hr.elen], ?_, ?_, ?_, hr.pbm, hr.inj, hr.step, hn, by rw [hd, hr.df]⟩
 ·intro i slot hm v hv
  obtain ⟨en, h5, h6⟩ := h4 i slot false hm
  rw [Nat.zero_add] at h6
  rcases h6 with ⟨ho, h6⟩ | ⟨_, h6⟩
  ·obtain ⟨h7, h8⟩ := hkeep i slot false en hm h5 ho
   have := (hi slot en h5).2.1 (by rw [h7]; rfl) (.v v) (by rw [h8]; simp only [Bool.false_eq_true, if_false, ev]; rw [← h6, hv]; rfl)
   exact this
  ·rcases h6 with ⟨ht, x, hx, h6⟩ | ⟨hf, h6⟩
   ·rw [h6] at hv; cases hv
    exact (hi slot en h5).2.1 ht _ hx
   ·rw [h6] at hv; cases hv
    exact (hi slot en h5).2.2 hf
 ·intro i slot hm v hv
  obtain ⟨en, h5, h6⟩ := h4 i slot true hm
  rcases h6 with ⟨ho, h6⟩ | ⟨h6, _⟩
  ·rw [Nat.zero_add] at h6
   obtain ⟨h7, h8⟩ := hkeep i slot true en hm h5 ho
   have := (hi slot en h5).2.1 (by rw [h7]; rfl) (.p i 0) (by rw [h8]; simp only [if_true, ev]; rw [← h6, hv]; rfl)
   exact this
  ·cases h6
 ·intro i b hb
  obtain ⟨c', t, h5, h6, h7⟩ := hr.priv i b hb
  obtain ⟨slot, h8, _⟩ := hr.pbm i b hb
  exact ⟨c', t, by rw [hprom i slot h8]; exact h5, h6, h7⟩
end Go.Cw
namespace Go.Cw
open Go
variable {P : Program} {w : World} {h : Heap} {env : Env} {N : Num} {tk fk : Nat → Option Nat} {pb : Nat → Option Nat} {Γ : Ctx}
theorem idxOf_spec {slot : Nat} : ∀ (m : Lmap) (k i : Nat) (pr : Bool), idxOf slot k m = some (i, pr) → ∃ j, i = k + j ∧ m[j]? = some (slot, pr) := by
 intro m
 induction m with
 | nil => intro k i pr hi; simp [idxOf] at hi
 | cons x m ih =>
  intro k i pr hi
  obtain ⟨s, p⟩ := x
  simp only [idxOf] at hi
  split at hi
  ·rename_i e; subst e; cases hi; exact ⟨0, by simp, by simp⟩
  ·obtain ⟨j, h1, h2⟩ := ih _ _ _ hi
   exact ⟨j + 1, by omega, by simpa using h2⟩
theorem idxOf_none {slot : Nat} : ∀ (m : Lmap) (k : Nat), idxOf slot k m = none → ∀ (j : Nat) (pr : Bool), m[j]? ≠ some (slot, pr) := by
 intro m
 induction m with
 | nil => intro k _ j pr; simp
 | cons x m ih =>
  intro k hi j pr
  obtain ⟨s, p⟩ := x
  simp only [idxOf] at hi
  split at hi
  ·cases hi
  ·rename_i hne
   cases j with
   | zero => intro hj; simp at hj; exact hne hj.1
   | succ j => simpa using ih _ hi j pr
theorem uniq_slot {m : Lmap} (hnd : (m.map (·.1)).Nodup) {j j' slot : Nat} {pr pr' : Bool} (hj : m[j]? = some (slot, pr)) (hj' : m[j']? = some (slot, pr')) : j = j' ∧ pr = pr' := by
 have e1 : (m.map (·.1))[j]? = some slot := by simp [hj]
 have e2 : (m.map (·.1))[j']? = some slot := by simp [hj']
 have hjl : j < (m.map (·.1)).length := (List.getElem?_eq_some_iff.1 e1).1
 have := (List.getElem?_inj hjl hnd).1 (e1.trans e2.symm)
 subst this
 rw [hj] at hj'; cases hj'; exact ⟨rfl, rfl⟩
theorem Priv.step {h' : Heap} {w' : World} (hp : Priv pb env h w) (hst : WStep h h' w w') : Priv pb env h' w' := by
 intro i b hb
 obtain ⟨c, t, h1, h2, h3⟩ := hp i b hb
 obtain ⟨h4, h5⟩ := hst.frame b (Array.getElem?_eq_some_iff.1 h2).1 h3
 exact ⟨c, t, h1, by rw [h5]; exact h2, h4⟩
theorem Rel.put {m : Lmap} {nt : Nat} {h0 : Heap} {w0 : World} {a : Act} (hr : Rel m nt h0 w0 pb env h a w) (hnd : (m.map (·.1)).Nodup) {o : Option Nat} {d : Option Nat} (hd : dstOf m nt o = some d)
  {h' : Heap} {w' : World} (hst : WStep h h' w w') (v : Value) : Rel m nt h0 w0 pb (putD env d v) h' (a.put o v) w' := by
 unfold dstOf at hd
 split at hd
 ·cases hd
  exact ⟨hr.elen, hr.plain, hr.prom, hr.priv.step hst, hr.pbm, hr.inj, hr.step.trans hst, hr.nt, hr.df⟩
 ·rename_i d' 
  split at hd <;> try (cases hd; done)
  rename_i hlt
  have hsz : d' < a.tmps.size := by rw [hr.nt]; exact hlt
  split at hd <;> cases hd
  ·rename_i hi
   have hne : ∀ {i slot : Nat} {pr : Bool}, m[i]? = some (slot, pr) → d' ≠ slot := by
    intro i slot pr hm e; subst e; exact idxOf_none m 0 hi i pr hm
   refine ⟨hr.elen, ?_, ?_, hr.priv.step hst, hr.pbm, hr.inj, hr.step.trans hst, by simp [Act.put, hr.nt], hr.df⟩
   ·intro i slot hm v' hv; rw [getD_put_other (hne hm)]; exact hr.plain i slot hm v' hv
   ·intro i slot hm v' hv; rw [getD_put_other (hne hm)]; exact hr.prom i slot hm v' hv
  ·rename_i i hi
   obtain ⟨j, rfl, hj⟩ := idxOf_spec m 0 _ _ hi
   rw [Nat.zero_add]
   have hjl : j < env.length := by rw [hr.elen]; exact (List.getElem?_eq_some_iff.1 hj).1
   have hpriv : ∀ i b, pb i = some b → i ≠ j := by
    intro i b hb e; subst e
    obtain ⟨slot, h1, _⟩ := hr.pbm i b hb
    rw [hj] at h1; cases h1
   refine ⟨by simp only [putD]; rw [Env.len_put]; exact hr.elen, ?_, ?_, ?_, hr.pbm, hr.inj, hr.step.trans hst, by simp [Act.put, hr.nt], hr.df⟩
   ·intro i slot hm v' hv
    simp only [putD] at hv
    by_cases e : j = i
    ·subst e
     rw [hj] at hm; cases hm
     rw [Env.get_put_same hjl] at hv; cases hv
     exact getD_put_same hsz
    ·rw [Env.get_put_other e] at hv
     have : d' ≠ slot := by intro e'; subst e'; exact e (uniq_slot hnd hj hm).1
     rw [getD_put_other this]; exact hr.plain i slot hm v' hv
   ·intro i slot hm v' hv
    simp only [putD] at hv
    have e : j ≠ i := by intro e; subst e; rw [hj] at hm; cases hm
    rw [Env.get_put_other e] at hv
    have : d' ≠ slot := by intro e'; subst e'; exact e (uniq_slot hnd hj hm).1
    rw [getD_put_other this]; exact hr.prom i slot hm v' hv
   ·intro i b hb
    obtain ⟨c, t, h1, h2, h3⟩ := hr.priv.step hst i b hb
    exact ⟨c, t, by simp only [putD]; rw [Env.get_put_other (Ne.symm (hpriv i b hb))]; exact h1, h2, h3⟩
theorem exList_vals {g : Nat → Option Ex} {s : Sg} {a : Act} (hi : SInv N env h g pb s a) {path : Pth} (hp : evP N env h g path = some true) : ∀ (xs : List Operand) (es : List Ex) (us : List Value),
  exList s path xs = some es → evVals N env h es = some us → xs.map a.eval = us := by
 intro xs
 induction xs with
 | nil => intro es us h1 h2; simp only [exList] at h1; cases h1; simp only [evVals] at h2; cases h2; rfl
 | cons x xs ih =>
  intro es us h1 h2
  simp only [exList] at h1
  split at h1 <;> cases h1
  rename_i e l he hl
  simp only [evVals] at h2
  split at h2 <;> cases h2
  rename_i v vs hv hvs
  have : a.eval x = v := says_of hi hp x e _ he hv
  simp [this, ih l vs hl hvs]
theorem exList_cov {g : Nat → Option Ex} {s : Sg} (hi : SG g s) {path : Pth} : ∀ (xs : List Operand) (es : List Ex), exList s path xs = some es → (∀ e ∈ es, ∃ u, ev N env h e = some u) →
  ∀ k p, (k, p) ∈ ownersOf s path xs → ∃ e u, g k = some e ∧ ev N env h e = some u := by
 intro xs
 induction xs with
 | nil => intro es _ _ k p hk; simp [ownersOf] at hk
 | cons x xs ih =>
  intro es h1 h2 k p hk
  simp only [exList] at h1
  split at h1 <;> cases h1
  rename_i e l he hl
  simp only [ownersOf, List.mem_filterMap, List.mem_cons] at hk
  obtain ⟨y, hy, hk⟩ := hk
  obtain ⟨o, ho, h3⟩ := Option.map_eq_some_iff.1 hk
  cases h3
  rcases hy with rfl | hy
  ·obtain ⟨u, hu⟩ := h2 e (List.mem_cons_self ..)
   exact ⟨e, u, owner_ex' hi ho he, hu⟩
  ·exact ih l hl (fun e he => h2 e (List.mem_cons_of_mem _ he)) _ _ (by simp only [ownersOf, List.mem_filterMap]; exact ⟨y, hy, by rw [ho]; rfl⟩)
theorem evVals_some {es : List Ex} {us : List Value} (hv : evVals N env h es = some us) : ∀ e ∈ es, ∃ u, ev N env h e = some u := by
 induction es generalizing us with
 | nil => intro e he; simp at he
 | cons x es ih =>
  simp only [evVals] at hv
  split at hv <;> cases hv
  rename_i v vs h1 h2
  intro e he
  simp only [List.mem_cons] at he
  rcases he with rfl | he
  ·exact ⟨_, h1⟩
  ·exact ih h2 e he
theorem mkParts_ev {σ : Operand → Option Ex} {size : Nat} : ∀ (parts : List (Nat × Operand)) (b e : Ex) (u : UV), mkParts σ size b parts = some e → ev N env h e = some u → ∃ ub, ev N env h b = some ub := by
 intro parts
 induction parts with
 | nil => intro b e u hm hv; simp only [mkParts] at hm; cases hm; exact ⟨u, hv⟩
 | cons p parts ih =>
  intro b e u hm hv
  obtain ⟨i, x⟩ := p
  simp only [mkParts] at hm
  split at hm <;> try (cases hm; done)
  obtain ⟨ub, h1⟩ := ih _ _ _ hm hv
  obtain ⟨xv, yv, h2, h3, h4⟩ := ev_o2 h1
  exact ⟨_, h2⟩
theorem mkParts_strict {σ : Operand → Option Ex} {size : Nat} : ∀ (parts : List (Nat × Operand)) (b e : Ex) (u : UV), mkParts σ size b parts = some e → ev N env h e = some u →
  ∀ p ∈ parts, ∃ ex, σ p.2 = some ex ∧ ∃ ux, ev N env h ex = some ux := by
 intro parts
 induction parts with
 | nil => intro b e u _ _ p hp; simp at hp
 | cons q parts ih =>
  intro b e u hm hv p hp
  obtain ⟨i, x⟩ := q
  simp only [mkParts] at hm
  split at hm <;> try (cases hm; done)
  rename_i ex' hx'
  obtain ⟨ub, h1⟩ := mkParts_ev _ _ _ _ hm hv
  obtain ⟨xv, yv, h2, h3, h4⟩ := ev_o2 h1
  simp only [List.mem_cons] at hp
  rcases hp with rfl | hp
  ·exact ⟨_, hx', _, h3⟩
  ·exact ih _ _ _ hm hv p hp
theorem mkParts_sound {σ : Operand → Option Ex} {ρ : Operand → Value} {size : Nat} :
  ∀ (parts : List (Nat × Operand)) (b e : Ex) (u : UV) (c : Array Value), (∀ p ∈ parts, Says N env h pb σ ρ p.2) → mkParts σ size b parts = some e → ev N env h e = some u → ev N env h b = some (.v (.agg c)) →
   ∃ c', u = .v (.agg c') ∧ Instr.fill (fun i => some (i * size, size)) c (parts.map fun p => (p.1, ρ p.2)) = some c' := by
 intro parts
 induction parts with
 | nil =>
  intro b e u c _ hm hv hb
  simp only [mkParts] at hm; cases hm
  rw [hb] at hv; cases hv
  exact ⟨c, rfl, rfl⟩
 | cons p parts ih =>
  intro b e u c hs hm hv hb
  obtain ⟨i, x⟩ := p
  simp only [mkParts] at hm
  split at hm <;> try (cases hm; done)
  rename_i ex hx
  obtain ⟨ub, h1⟩ := mkParts_ev _ _ _ _ hm hv
  obtain ⟨xv, yv, h2, h3, h4⟩ := ev_o2 h1
  rw [hb] at h2; cases h2
  obtain ⟨c0, z, e1, e2, h5, h6, e3⟩ := o2_bput h4
  cases e1; subst e2; subst e3
  have hz : ρ x = z := hs (i, x) (by simp) ex _ hx h3
  obtain ⟨c', e4, h7⟩ := ih _ _ _ _ (fun p hp => hs p (by simp [hp])) hm hv h1
  refine ⟨c', e4, ?_⟩
  rw [List.map_cons, hz, fill_ok _ c i (i * size) size z _ rfl h5 h6]
  exact h7
theorem run_buildSlice {t e : TypeId} (hd : P.underlying t = some (.slice e)) {len size : Nat} {z : Array Value} (hz : zerosOf P e len = some z) (hsz : sizeOf' P e = some size)
  {σ : Operand → Option Ex} {ρ : Operand → Value} {parts : Array (Nat × Operand)} (hs : ∀ p ∈ parts.toList, Says N env h pb σ ρ p.2) {ex : Ex} (hm : mkParts σ size (.con (.agg z)) parts.toList = some ex)
  {u : UV} (hv : ev N env h ex = some u) : ∃ c, u = .v (.agg c) ∧
   (Instr.buildSlice t len (parts.map fun p => (p.1, ρ p.2))).run P w = .ok (.slice (some ⟨w.heap.size, 0, none⟩) len len) { w with heap := w.heap.push (.cells c e) } := by
 obtain ⟨c, hu, hf⟩ := mkParts_sound (ρ := ρ) parts.toList _ _ _ z hs hm hv rfl
 refine ⟨c, hu, ?_⟩
 unfold zerosOf at hz
 split at hz <;> try (cases hz; done)
 rename_i i hi
 split at hz <;> try (cases hz; done)
 rename_i zv hzv
 split at hz <;> cases hz
 rename_i hc
 have hi2 : i.size = size := by simp [sizeOf', hi] at hsz; exact hsz
 obtain ⟨hc1, hc2, hc3⟩ := hc
 have hl : (parts.map fun p => (p.1, ρ p.2)).toList = parts.toList.map fun p => (p.1, ρ p.2) := by simp
 rw [hi2] at hc2
 have hz0 := run_zeroValue' (P := P) (w := w) (t := e) (z := zv) (by simp [hi, hzv])
 have hnew : ∀ c : Array Value, (newRow e c).run P w = .ok ⟨w.heap.size, 0, none⟩ { w with heap := w.heap.push (.cells c e) } := fun c => by simp [newRow, newObj, Sem.run]
 have hle : ¬ (len * size > 2 ^ 24) := by omega
 by_cases h0 : len * size = 0
 ·simp only [Instr.buildSlice, Sem.run_bind, run_underlying hd, Result.andThen_ok, run_sizeOf' hsz, hle, if_false, h0, if_true, Sem.run_pure]
  rw [hi2, h0] at hf
  simp only [Array.range, Array.ofFn_zero, Array.map_empty] at hf ⊢
  simp only [hl, hf, Sem.run_bind, hnew, Result.andThen_ok, Sem.run_pure]
  simp [hnew]
 ·simp only [Instr.buildSlice, Sem.run_bind, run_underlying hd, Result.andThen_ok, run_sizeOf' hsz, hle, if_false, h0, hz0, Sem.run_pure]
  rw [hi2] at hf
  simp only [hl, hf, Sem.run_bind, hnew, Result.andThen_ok, Sem.run_pure]
end Go.Cw
namespace Go.Cw
open Go
variable {P : Program} {w : World} {h : Heap} {env : Env} {N : Num} {tk fk : Nat → Option Nat} {pb : Nat → Option Nat} {Γ : Ctx}
theorem prefs_of_some {g : Nat → Option Ex} {path : Pth} {gs : List (Ex × Bool)} (hg : pathEx g path = some gs) {b : Bool} (hb : evGs N env h gs = some b) : Cov N env h g (prefs [] path) := by
 have := evGs_path (N := N) (env := env) (h := h) path gs hg
 exact prefs_cov path [] (by rw [List.nil_append, ← this, hb]; simp)
theorem cov1 {g : Nat → Option Ex} {s : Sg} (hi : SG g s) {path : Pth} {x : Operand} {e : Ex} {u : UV} (hx : sgOp s path x = some e) (hu : ev N env h e = some u) :
  ∀ k p, (k, p) ∈ ownersOf s path [x] → ∃ e u, g k = some e ∧ ev N env h e = some u :=
 exList_cov hi [x] [e] (by simp only [exList, hx]) (by simp [hu])
theorem cov2 {g : Nat → Option Ex} {s : Sg} (hi : SG g s) {path : Pth} {x y : Operand} {e e' : Ex} {u u' : UV} (hx : sgOp s path x = some e) (hu : ev N env h e = some u) (hy : sgOp s path y = some e') (hu' : ev N env h e' = some u') :
  ∀ k p, (k, p) ∈ ownersOf s path [x, y] → ∃ e u, g k = some e ∧ ev N env h e = some u :=
 exList_cov hi [x, y] [e, e'] (by simp only [exList, hx, hy]) (by simp [hu, hu'])
theorem eff_cov {ops : Array Oper} {nt : Nat} {m : Lmap} {g : Nat → Option Ex} {s : Sg} {o : Oper} {ei : EI} {c : List (Nat × Pth)} (he : effOf P tk fk ops nt m g s o = some (ei, c)) (hi : SG g s)
  {env1 : Env} {K : Env → Heap → Prop} (hK : eiW N Γ ei env env1 h K) : Cov N env h g c := by
 have two : ∀ {path : Pth} {gs : List (Ex × Bool)} {xs : List Operand} {es : List Ex} {f : Ef} {d : Option Nat}, pathEx g path = some gs → exList s path xs = some es → eiW N Γ (.ef gs f es d) env env1 h K →
   Cov N env h g (prefs [] path ++ ownersOf s path xs) := by
  intro path gs xs es f d hg hx hK k p hk hp
  simp only [eiW] at hK
  simp only [List.mem_append] at hk
  rcases hK with ⟨h1, us, h2, _⟩ | ⟨h1, _⟩
  ·rcases hk with hk | hk
   ·exact prefs_of_some hg h1 k p hk hp
   ·exact exList_cov hi xs es hx (evVals_some h2) k p hk
  ·rcases hk with hk | hk
   ·exact prefs_of_some hg h1 k p hk hp
   ·simp only [ownersOf, List.mem_filterMap] at hk
    obtain ⟨y, hy, hk⟩ := hk
    obtain ⟨o', ho, h3⟩ := Option.map_eq_some_iff.1 hk
    cases h3
    rw [← evGs_path path gs hg, h1] at hp; cases hp
 unfold effOf at he
 split at he
 ·cases he
 ·rename_i path hpath
  split at he
  ·split at he
   ·unfold effBox at he
    split at he <;> try (cases he; done)
    split at he <;> cases he
    rename_i hx _ _
    simp only [eiW] at hK
    obtain ⟨v, h1, _⟩ := hK
    intro k p hk _
    exact cov1 hi hx h1 k p hk
   ·unfold effAl at he
    split at he <;> try (cases he; done)
    split at he <;> cases he
    intro k p hk _; simp at hk
   ·cases he
  ·split at he
   ·unfold effSt at he
    split at he <;> try (cases he; done)
    rename_i ea ex n hea hx _ _
    split at he
    ·split at he <;> cases he
     simp only [eiW] at hK
     obtain ⟨v, h1, _⟩ := hK
     simp only [ev] at h1
     split at h1
     ·rename_i c' j off y h2 h3 h4
      intro k p hk _
      exact cov2 hi hea h3 hx h4 k p hk
     ·cases h1
    ·split at he <;> cases he
     rename_i hg
     exact two hg (by simp only [exList, hea, hx]) hK
   ·unfold effBsl at he
    split at he <;> try (cases he; done)
    split at he <;> try (cases he; done)
    rename_i z size k gs d hz hsz hk hg hd
    split at he <;> cases he
    rename_i ex hex
    intro k p hk hp
    simp only [eiW] at hK
    simp only [List.mem_append] at hk
    rcases hK with ⟨h1, us, h2, _⟩ | ⟨h1, _⟩
    ·rcases hk with hk | hk
     ·exact prefs_of_some hg h1 k p hk hp
     ·obtain ⟨u, hu⟩ := evVals_some h2 ex (by simp)
      simp only [ownersOf, List.mem_filterMap, List.mem_map] at hk
      obtain ⟨y, ⟨q, hq, rfl⟩, hk⟩ := hk
      obtain ⟨o', ho, h3⟩ := Option.map_eq_some_iff.1 hk
      cases h3
      obtain ⟨ey, h4, uy, h5⟩ := mkParts_strict _ _ _ _ hex hu q hq
      exact ⟨ey, uy, owner_ex' hi ho h4, h5⟩
    ·rcases hk with hk | hk
     ·exact prefs_of_some hg h1 k p hk hp
     ·simp only [ownersOf, List.mem_filterMap] at hk
      obtain ⟨y, hy, hk⟩ := hk
      obtain ⟨o', ho, h3⟩ := Option.map_eq_some_iff.1 hk
      cases h3
      rw [← evGs_path path gs hg, h1] at hp; cases hp
   ·unfold effRes at he
    split at he <;> try (cases he; done)
    split at he <;> cases he
    rename_i es gs d hes hg hd
    exact two hg hes hK
end Go.Cw
namespace Go.Cw
open Go
variable {P : Program} {w : World} {h : Heap} {env : Env} {N : Num} {tk fk : Nat → Option Nat} {pb : Nat → Option Nat} {Γ : Ctx}
def Next (m : Lmap) (nt : Nat) (h0 : Heap) (w0 : World) (K : Env → Heap → Prop) (R : Act → World → Prop) : Prop :=
 ∀ pb env h a w, K env h → Rel m nt h0 w0 pb env h a w → R a w
def EI.prom : EI → Bool
 | .ef _ _ _ _ => false
 | _ => true
def NextP (m : Lmap) (nt : Nat) (h0 : Heap) (w0 : World) (ei : EI) (pb0 : Nat → Option Nat) (env1 : Env) (K : Env → Heap → Prop) (R : Act → World → Prop) : Prop :=
 ∀ pb env h a w, K env h → Rel m nt h0 w0 pb env h a w → (ei.prom = false → pb = pb0 ∧ ∀ (i slot : Nat), m[i]? = some (slot, true) → env.get i = env1.get i) → R a w
theorem putD_prom {m : Lmap} {nt : Nat} {o d : Option Nat} (hd : dstOf m nt o = some d) (env : Env) (v : Value) : ∀ (i slot : Nat), m[i]? = some (slot, true) → (putD env d v).get i = env.get i := by
 intro i slot hm
 unfold dstOf at hd
 split at hd
 ·cases hd; rfl
 ·split at hd <;> try (cases hd; done)
  split at hd <;> cases hd
  ·rfl
  ·rename_i k hk
   obtain ⟨j, rfl, hj⟩ := idxOf_spec m 0 _ _ hk
   have e : 0 + j ≠ i := by intro e; rw [Nat.zero_add] at e; subst e; rw [hm] at hj; cases hj
   exact Env.get_put_other e
theorem wpOp_run {ops : Array Oper} {Q : Exit → Act → World → Prop} {j : Nat} {o : Oper} (ho : ops[j]? = some o) {a : Act} {rest : List Nat} (hw : Region.wanted o (yielded ops a.tmps) = true)
  (h : o.wp P a w (wpOps P ops Q rest) Q) : wpOps P ops Q (j :: rest) a w := by
 simp only [wpOps, ho, hw, if_true]; exact .inl h
theorem wpOp_skip {ops : Array Oper} {Q : Exit → Act → World → Prop} {j : Nat} {o : Oper} (ho : ops[j]? = some o) {a : Act} {rest : List Nat} (hw : Region.wanted o (yielded ops a.tmps) = false)
  (h : wpOps P ops Q rest (a.put o.dst undef) w) : wpOps P ops Q (j :: rest) a w := by
 simp only [wpOps, ho, hw]; exact h
theorem eff_step (htk : ∀ t k, tk t = some k → N.tid k = t) (hfk : ∀ f k, fk f = some k → N.fid k = f) (hΓ : Good P N Γ) {ops : Array Oper} {nt : Nat} {m : Lmap} {g : Nat → Option Ex} {s : Sg} {o : Oper} {ei : EI} {c : List (Nat × Pth)} {j : Nat}
  (ho : ops[j]? = some o) (he : effOf P tk fk ops nt m g s o = some (ei, c)) (hnd : (m.map (·.1)).Nodup) {h0 : Heap} {w0 : World} {a : Act} (hi : SInv N env h g pb s a) {env1 : Env} (hr : Rel m nt h0 w0 pb env1 h a w)
  (hkeep : ∀ i slot, m[i]? = some (slot, true) → env1.get i = env.get i)
  {K : Env → Heap → Prop} (hK : eiW N Γ ei env env1 h K) {Q : Exit → Act → World → Prop} {rest : List Nat} (hn : NextP m nt h0 w0 ei pb env1 K (wpOps P ops Q rest)) : wpOps P ops Q (j :: rest) a w := by
 have hs : h.sub w := hr.step.sub
 unfold effOf at he
 split at he
 ·cases he
 ·rename_i path hpath
  have gen : ∀ {gs : List (Ex × Bool)} {f : Ef} {es : List Ex} {d : Option Nat}, NextP m nt h0 w0 (.ef gs f es d) pb env1 K (wpOps P ops Q rest) → pathEx g path = some gs → dstOf m nt o.dst = some d → eiW N Γ (.ef gs f es d) env env1 h K →
    (∀ us, evP N env h g path = some true → evVals N env h es = some us → efW N Γ f us h (fun r h' => K (putD env1 d r) h') → o.wp P a w (wpOps P ops Q rest) Q) → wpOps P ops Q (j :: rest) a w := by
   intro gs f es d hn hg hd hK hrun
   simp only [eiW] at hK
   have hgs := evGs_path (N := N) (env := env) (h := h) path gs hg
   rcases hK with ⟨h1, us, h2, h3⟩ | ⟨h1, h2⟩
   ·rw [hgs] at h1
    exact wpOp_run ho (wanted_true hi hpath h1) (hrun us h1 h2 h3)
   ·rw [hgs] at h1
    exact wpOp_skip ho (wanted_false hi hpath h1) (hn _ _ _ _ _ h2 (hr.put hnd hd (WStep.refl hs) undef) (fun _ => ⟨rfl, putD_prom hd _ _⟩))
  split at he
  ·rename_i i hslot
   have pn : Next m nt h0 w0 K (wpOps P ops Q rest) → ∀ {d : Nat} {x : Value} {t : TypeId}, o.dst = some d → d < nt → K (env1.put i (.agg x.cells)) h → Region.wanted o (yielded ops a.tmps) = true →
     (execOp a.eval o).run P w = .ok (.value (.pointer (some ⟨w.heap.size, 0, none⟩))) { w with heap := w.heap.push (.cells x.cells t) } → wpOps P ops Q (j :: rest) a w := by
    intro hn' d x t hd hlt hK hw hrun
    rw [hd] at hslot
    simp only [slotOf] at hslot
    obtain ⟨i', rfl, hm⟩ := idxOf_spec m 0 _ _ hslot
    rw [Nat.zero_add] at hK
    have hil : i' < env1.length := by rw [hr.elen]; exact (List.getElem?_eq_some_iff.1 hm).1
    have hsz : d < a.tmps.size := by rw [hr.nt]; exact hlt
    have hold : ∀ k b, pb k = some b → b < w.heap.size := fun k b hb => by
     obtain ⟨c', t', _, h2, _⟩ := hr.priv k b hb
     exact (Array.getElem?_eq_some_iff.1 h2).1
    refine wpOp_run ho hw (wp_value hrun ?_)
    rw [hd]
    refine hn' (fun k => if k = i' then some w.heap.size else pb k) _ _ _ _ hK ?_
    have hst : WStep h h w { w with heap := w.heap.push (.cells x.cells t) } := by
     refine ⟨fun b o' hb => ?_, by simp, rfl, rfl, rfl, fun b hb hn => ⟨hn, by simp [Array.getElem?_push, Nat.ne_of_lt hb]⟩⟩
     have := hs b o' hb
     have hlt' := (Array.getElem?_eq_some_iff.1 this).1
     simp [Array.getElem?_push, Nat.ne_of_lt hlt', this]
    refine ⟨by rw [Env.len_put]; exact hr.elen, ?_, ?_, ?_, ?_, ?_, hr.step.trans hst, by simp [Act.put, hr.nt], hr.df⟩
    ·intro k slot hmk v hv
     have e : i' ≠ k := by intro e; subst e; rw [hm] at hmk; cases hmk
     rw [Env.get_put_other e] at hv
     have : d ≠ slot := by intro e'; subst e'; exact e (uniq_slot hnd hm hmk).1
     rw [getD_put_other this]; exact hr.plain k slot hmk v hv
    ·intro k slot hmk v hv
     by_cases e : k = i'
     ·subst e
      rw [hm] at hmk; cases hmk
      exact ⟨w.heap.size, by simp, getD_put_same hsz⟩
     ·rw [Env.get_put_other (Ne.symm e)] at hv
      have : d ≠ slot := by intro e'; subst e'; exact e (uniq_slot hnd hmk hm).1
      obtain ⟨b, h1, h2⟩ := hr.prom k slot hmk v hv
      exact ⟨b, by simp [e, h1], by rw [getD_put_other this]; exact h2⟩
    ·intro k b hb
     simp only at hb
     split at hb
     ·rename_i e; cases hb; subst e
      exact ⟨x.cells, t, Env.get_put_same hil, by simp, Heap.fresh hs (Nat.le_refl _)⟩
     ·rename_i e
      obtain ⟨c', t', h1, h2, h3⟩ := hr.priv k b hb
      exact ⟨c', t', by rw [Env.get_put_other (Ne.symm e)]; exact h1, by simp [Array.getElem?_push, Nat.ne_of_lt (hold k b hb), h2], h3⟩
    ·intro k b hb
     try simp only at hb
     split at hb
     ·rename_i e; cases hb; subst e; exact ⟨d, hm, hr.step.size⟩
     ·exact hr.pbm k b hb
    ·intro k k' b hb hb'
     try simp only at hb hb'
     split at hb <;> split at hb'
     ·rename_i e1 e2; rw [e1, e2]
     ·cases hb; exact absurd (hold _ _ hb') (Nat.lt_irrefl _)
     ·cases hb'; exact absurd (hold _ _ hb) (Nat.lt_irrefl _)
     ·exact hr.inj k k' b hb hb'
   have hw0 : path = [] → Region.wanted o (yielded ops a.tmps) = true := fun e => wanted_true hi (e ▸ hpath) rfl
   split at he
   ·rename_i t x hop
    unfold effBox at he
    split at he <;> try (cases he; done)
    rename_i e d hx hd
    split at he <;> cases he
    rename_i hlt
    simp only [eiW] at hK
    obtain ⟨v, h1, hK⟩ := hK
    have hxv : a.eval x = v := says_of hi (path := []) rfl x e _ hx h1
    refine pn (fun pb env h a w hk hr => hn pb env h a w hk hr (fun h => by cases h)) hd hlt hK (hw0 rfl) (t := t) ?_
    rw [execOp_of hop]
    simp [execOp, Instr.box, newVar, newRow, newObj, Sem.run, hxv]
   ·rename_i t hop
    unfold effAl at he
    split at he <;> try (cases he; done)
    rename_i z d hz hd
    split at he <;> cases he
    rename_i hlt
    simp only [eiW, ev] at hK
    obtain ⟨v, h1, hK⟩ := hK
    cases h1
    refine pn (fun pb env h a w hk hr => hn pb env h a w hk hr (fun h => by cases h)) hd hlt hK (hw0 rfl) (t := t) ?_
    rw [execOp_of hop]
    simp only [execOp, Instr.alloc, Sem.run_bind, run_zeroValue' hz, Result.andThen_ok]
    simp [newVar, newRow, newObj, Sem.run]
   ·cases he
  ·split at he
   ·
    rename_i t ad x hop
    unfold effSt at he
    split at he <;> try (cases he; done)
    rename_i ea ex n hea hx hsz hdst
    split at he
    ·rename_i i hroot
     split at he <;> cases he
     rename_i hemp
     have hp0 : path = [] := by simpa using hemp
     subst hp0
     simp only [eiW] at hK
     obtain ⟨v, h1, hK⟩ := hK
     simp only [ev] at h1
     split at h1
     ·rename_i c' k off y h2 h3 h4
      split at h1 <;> cases h1
      rename_i hcond
      obtain ⟨rfl, hn1, hn2, hone⟩ := hcond
      have hxv : a.eval x = y := says_of hi (path := []) rfl x ex _ hx h4
      obtain ⟨b, hb, hav⟩ := says_of hi (path := []) rfl ad ea _ hea h3
      obtain ⟨slot, hm, hb0⟩ := hr.pbm k b hb
      obtain ⟨c1, t1, h5, h6, h7⟩ := hr.priv k b hb
      have hc : c1 = c' := by
       rw [hkeep k slot hm] at h5
       obtain ⟨v', h8, h9⟩ := Option.map_eq_some_iff.1 h2
       cases h9
       rw [h8] at h5; cases h5; rfl
      subst hc
      have hkl : k < env1.length := by rw [hr.elen]; exact (List.getElem?_eq_some_iff.1 hm).1
      have hrun := run_storeCells_put (P := P) (off := off) y.cells.toList 0 c1 w h6 (by simp; omega) hone
      have hbl := (Array.getElem?_eq_some_iff.1 h6).1
      refine wpOp_run ho (wanted_true hi hpath rfl) (wp_skip' (w' := { w with heap := w.heap.setIfInBounds b (.cells (putL c1 off y.cells.toList) t1 (0, 0)) }) ?_ ?_)
      ·rw [execOp_of hop]
       simp only [Nat.add_zero] at hrun
       simp [execOp, Instr.storeAt, hav, Instr.sureAddr, storeVar, run_sizeOf' hsz, hxv, hn1, hrun]
      ·rw [hdst]
       refine hn pb _ _ _ _ hK ?_ (fun h => by cases h)
       refine ⟨by rw [Env.len_put]; exact hr.elen, ?_, ?_, ?_, hr.pbm, hr.inj, ?_, hr.nt, hr.df⟩
       ·intro i slot' hm' v hv
        have e : k ≠ i := by intro e; subst e; rw [hm] at hm'; cases hm'
        rw [Env.get_put_other e] at hv
        exact hr.plain i slot' hm' v hv
       ·intro i slot' hm' v hv
        by_cases e : k = i
        ·subst e
         exact hr.prom k slot' hm' _ h5
        ·rw [Env.get_put_other e] at hv
         exact hr.prom i slot' hm' v hv
       ·intro i b' hb'
        by_cases e : k = i
        ·subst e
         rw [hb] at hb'; cases hb'
         exact ⟨_, t1, Env.get_put_same hkl, by simp [hbl], h7⟩
        ·obtain ⟨c2, t2, h8, h9, h10⟩ := hr.priv i b' hb'
         have hne : b ≠ b' := by intro e'; subst e'; exact e (hr.inj _ _ _ hb hb')
         exact ⟨c2, t2, by rw [Env.get_put_other e]; exact h8, by simp [Array.getElem?_setIfInBounds, hne, h9], h10⟩
       ·refine ⟨fun b' o' hb' => ?_, by simpa using hr.step.size, hr.step.os, hr.step.tape, hr.step.output, fun b' hlt hn0 => ?_⟩
        ·have hne : b ≠ b' := by intro e; subst e; rw [h7] at hb'; cases hb'
         simp [Array.getElem?_setIfInBounds, hne, hs b' o' hb']
        ·obtain ⟨h8, h9⟩ := hr.step.frame b' hlt hn0
         have hne : b ≠ b' := by omega
         exact ⟨h8, by simp [Array.getElem?_setIfInBounds, hne, h9]⟩
     ·cases h1
    ·split at he <;> cases he
     rename_i gs hg
     refine gen hn hg (by rw [hdst]; rfl) hK fun us hev hus hef => ?_
     have hmap := exList_vals hi hev [ad, x] [ea, ex] us (by simp only [exList, hea, hx]) hus
     refine ef_sound htk hfk hΓ hs (f := .st n) (xs := [ad, x]) ?_ (by rw [hmap]; exact hef) ?_
     ·rw [hop]; simp [resE, hsz]
     ·intro v h' w' hk hst
      exact hn _ _ _ _ _ hk (hr.put hnd (by rw [hdst]; rfl) hst v) (fun _ => ⟨rfl, fun _ _ _ => rfl⟩)
   ·
    rename_i t len parts hop
    unfold effBsl at he
    split at he <;> try (cases he; done)
    rename_i e hd
    split at he <;> try (cases he; done)
    rename_i z size k gs d hz hsz hk hg hdst
    split at he <;> cases he
    rename_i ex hex
    refine gen hn hg hdst hK fun us hev hus hef => ?_
    obtain ⟨u, hu⟩ := evVals_some hus ex (by simp)
    obtain ⟨c', rfl, hrun⟩ := run_buildSlice (P := P) (w := w) hd hz hsz (fun p _ => says_of hi hev p.2) hex hu
    simp only [evVals, hu] at hus; cases hus
    simp only [efW] at hef
    refine wp_value (v := .slice (some ⟨w.heap.size, 0, none⟩) len len) (w' := { w with heap := w.heap.push (.cells c' e) }) ?_ (hn _ _ _ _ _ (hef _ (Heap.fresh hs (Nat.le_refl _))) (hr.put hnd hdst ?_ _) (fun _ => ⟨rfl, putD_prom hdst _ _⟩))
    ·rw [execOp_of hop]
     simp only [execOp, Sem.run_bind]
     rw [hrun]; rfl
    ·rw [htk _ _ hk]; exact WStep.push hs _
   ·unfold effRes at he
    split at he <;> try (cases he; done)
    rename_i f xs hres
    split at he <;> cases he
    rename_i es gs d hes hg hdst
    refine gen hn hg hdst hK fun us hev hus hef => ?_
    have hmap := exList_vals hi hev xs es us hes hus
    exact ef_sound htk hfk hΓ hs hres (by rw [hmap]; exact hef) fun v h' w' hk hst => hn _ _ _ _ _ hk (hr.put hnd hdst hst v) (fun _ => ⟨rfl, putD_prom hdst _ _⟩)
end Go.Cw
namespace Go.Cw
open Go
variable {P : Program} {w : World} {h : Heap} {env : Env} {N : Num} {tk fk : Nat → Option Nat} {pb : Nat → Option Nat} {Γ : Ctx}
theorem pureL_final {ops : Array Oper} {nt n : Nat} {s0 : Sg} : ∀ (L : List Nat) (s s' : Sg) (rs : List Rec), pureL P tk fk ops nt L s = some (rs, s') → (∀ j ∈ L, j < n) →
  (∀ t en, s.get t = some en → en.owner = n + t → s0.get t = some en) → (∀ t en, s'.get t = some en → en.owner = n + t → s0.get t = some en) := by
 intro L
 induction L with
 | nil => intro s s' rs hp _ hs; simp only [pureL] at hp; cases hp; exact hs
 | cons j L ih =>
  intro s s' rs hp hlt hs
  simp only [pureL] at hp
  split at hp <;> try (cases hp; done)
  split at hp <;> try (cases hp; done)
  split at hp <;> try (cases hp; done)
  split at hp <;> try (cases hp; done)
  split at hp <;> cases hp
  rename_i rs' hp
  refine ih _ _ _ hp (fun k hk => hlt k (List.mem_cons_of_mem _ hk)) ?_
  intro t en he ho
  simp only [Sg.get] at he
  split at he
  ·cases he
   have := hlt j (List.mem_cons_self ..)
   simp only at ho; omega
  ·exact hs t en he ho
theorem stage_core {ops : Array Oper} {nt : Nat} {m : Lmap} (hnd : (m.map (·.1)).Nodup)
  {h0 : Heap} {w0 : World} {a : Act} (hr : Rel m nt h0 w0 pb env h a w) {L : List Nat} {x : Option Nat} {st : Stg} (hst : stage P tk fk ops nt m L x = some st) {K : Env → Heap → Prop} (hK : stgW N Γ st env h K) :
  ∃ (rs : List Rec) (s : Sg) (g : Nat → Option Ex) (env1 : Env), g = gOf rs (sg0 ops.size 0 m) ∧ pureL P tk fk ops nt L (sg0 ops.size 0 m) = some (rs, s) ∧ SInv N env h g pb (sg0 ops.size 0 m) a ∧ (∀ r ∈ rs, g r.idx = some r.ex) ∧
   (∀ r ∈ rs, evP N env h g r.path ≠ none ∧ (evP N env h g r.path = some true → r.move = true ∨ ∃ u, ev N env h r.ex = some u)) ∧
   (∀ a' : Act, SInv N env h g pb s a' → a'.tmps.size = nt → a'.defers = a.defers → Rel m nt h0 w0 pb env1 h a' w) ∧
   (∀ i slot, m[i]? = some (slot, true) → env1.get i = env.get i) ∧
   (match x with
    | none => K env1 h
    | some j => ∃ o ei c, ops[j]? = some o ∧ effOf P tk fk ops nt m g s o = some (ei, c) ∧ st.eff = some ei ∧ eiW N Γ ei env env1 h K) := by
 unfold stage at hst
 split at hst
 ·cases hst
 ·rename_i rs s hp
  simp only at hst
  split at hst <;> try (cases hst; done)
  rename_i hL
  simp only [Bool.and_eq_true, List.all_eq_true, decide_eq_true_eq] at hL
  split at hst
  ·cases hst
  ·rename_i lets c1 hlets
   have hidx := pureL_idx _ _ _ _ hp
   have hndr : (rs.map (·.idx)).Nodup := by rw [hidx]; exact nodupN_iff _ hL.1
   have hlt : ∀ r ∈ rs, r.idx < ops.size := fun r hr' => hL.2 _ (by rw [← hidx]; exact List.mem_map_of_mem hr')
   have hg := gOf_rec (s0 := sg0 ops.size 0 m) hndr
   have hsg := gOf_sg0 (n := ops.size) (m := m) hlt
   obtain ⟨hstrict, hsg'⟩ := pureL_strict (N := N) (env := env) (h := h) _ _ _ _ hp hsg hg
   have hfin : ∀ t en, s.get t = some en → en.owner = ops.size + t → ∃ (j : Nat) (pr : Bool), m[j]? = some (t, pr) ∧ en.path = [] ∧ en.ex = if pr = true then .pad j else .var j := by
    intro t en he ho
    have h1 := pureL_final (n := ops.size) (s0 := sg0 ops.size 0 m) L _ _ _ hp hL.2 (fun t en he _ => he) t en he ho
    obtain ⟨j, pr, h2, h3⟩ := sg0_get m 0 t en h1
    exact ⟨j, pr, h2, by rw [h3], by rw [h3]; simp⟩
   have conds : ∀ {c : List (Nat × Pth)}, okCov rs (cover rs c) = true → Cov N env h (gOf rs (sg0 ops.size 0 m)) c →
     ∀ r ∈ rs, evP N env h (gOf rs (sg0 ops.size 0 m)) r.path ≠ none ∧ (evP N env h (gOf rs (sg0 ops.size 0 m)) r.path = some true → r.move = true ∨ ∃ u, ev N env h r.ex = some u) := by
    intro c hok hcov r hr'
    have hcv := cover_sound rs c hstrict hg hcov
    have := List.all_eq_true.1 hok r hr'
    simp only [Bool.and_eq_true, Bool.or_eq_true, List.all_eq_true, List.contains_iff_mem] at this
    obtain ⟨h1, h2⟩ := this
    refine ⟨?_, fun ht => ?_⟩
    ·have := evP_of_prefs (N := N) (env := env) (h := h) (g := gOf rs (sg0 ops.size 0 m)) r.path [] (by simp [evP]) (fun k q hk hq => hcv k q (h2 (k, q) hk) hq)
     simpa using this
    ·rcases h1 with h1 | h1
     ·exact .inl h1
     ·obtain ⟨e, u, h3, h4⟩ := hcv _ _ h1 ht
      rw [hg r hr'] at h3; cases h3
      exact .inr ⟨u, h4⟩
   obtain ⟨env1, hput, hK⟩ := hK
   have hlets' : st.lets = lets := by
    split at hst
    ·split at hst <;> cases hst; rfl
    ·split at hst
     ·cases hst
     ·split at hst
      ·split at hst <;> cases hst; rfl
      ·cases hst
   rw [hlets'] at hput
   obtain ⟨_, _, hlcov, h4⟩ := lets_spec m 0 lets c1 env env1 hlets hput (by rw [hr.elen]; omega) hsg'
   have hkeep : ∀ i slot, m[i]? = some (slot, true) → env1.get i = env.get i := by
    intro i slot hm
    obtain ⟨en, h5, h6⟩ := h4 i slot true hm
    rcases h6 with ⟨_, h6⟩ | ⟨h6, _⟩
    ·simpa using h6
    ·cases h6
   have hrel : ∀ a' : Act, SInv N env h (gOf rs (sg0 ops.size 0 m)) pb s a' → a'.tmps.size = nt → a'.defers = a.defers → Rel m nt h0 w0 pb env1 h a' w := fun a' h1 h2 h3 => hr.lets hlets hput h1 h2 h3 hfin hnd
   split at hst
   ·split at hst <;> cases hst
    rename_i hok
    exact ⟨rs, s, _, env1, rfl, hp, hr.sinv hlt, hg, conds hok hlcov, hrel, hkeep, hK⟩
   ·rename_i j
    split at hst
    ·cases hst
    ·rename_i o ho
     split at hst
     ·rename_i ei c2 heff
      split at hst <;> cases hst
      rename_i hok
      refine ⟨rs, s, _, env1, rfl, hp, hr.sinv hlt, hg, conds hok ?_, hrel, hkeep, o, ei, c2, ho, heff, rfl, hK⟩
      intro k p hk hp'
      simp only [List.mem_append] at hk
      rcases hk with hk | hk
      ·exact hlcov k p hk hp'
      ·exact eff_cov heff hsg' hK k p hk hp'
     ·cases hst
theorem stage_sound (htk : ∀ t k, tk t = some k → N.tid k = t) (hfk : ∀ f k, fk f = some k → N.fid k = f) (hΓ : Good P N Γ) {ops : Array Oper} {nt : Nat} {m : Lmap} (hnd : (m.map (·.1)).Nodup)
  {h0 : Heap} {w0 : World} {a : Act} (hr : Rel m nt h0 w0 pb env h a w) {L : List Nat} {x : Option Nat} {st : Stg} (hst : stage P tk fk ops nt m L x = some st) {K : Env → Heap → Prop} (hK : stgW N Γ st env h K)
  {Q : Exit → Act → World → Prop} {rest : List Nat} (hn : Next m nt h0 w0 K (wpOps P ops Q rest)) : wpOps P ops Q (L ++ (x.toList ++ rest)) a w := by
 obtain ⟨rs, s, g, env1, _, hp, hi, hg, hc, hrel, hkeep, hx⟩ := stage_core hnd hr hst hK
 refine pureL_sound htk hfk hr.step.sub hr.priv L _ _ _ a hp hi hr.nt hg hc (fun a' h1 h2 h3 => ?_)
 cases x with
 | none =>
  simp only [Option.toList_none, List.nil_append]
  exact hn _ _ _ _ _ hx (hrel a' h1 h2 h3)
 | some j =>
  obtain ⟨o, ei, c, ho, heff, _, hK⟩ := hx
  simp only [Option.toList_some, List.singleton_append]
  exact eff_step htk hfk hΓ ho heff hnd h1 (hrel a' h1 h2 h3) hkeep hK (fun pb env h a w hk hr _ => hn pb env h a w hk hr)
theorem stages_sound (htk : ∀ t k, tk t = some k → N.tid k = t) (hfk : ∀ f k, fk f = some k → N.fid k = f) (hΓ : Good P N Γ) {ops : Array Oper} {nt : Nat} {m : Lmap} (hnd : (m.map (·.1)).Nodup)
  {h0 : Heap} {w0 : World} {Q : Exit → Act → World → Prop} : ∀ (L acc : List Nat) (l : List Stg) (pb : Nat → Option Nat) (env : Env) (h : Heap) (a : Act) (w : World) (K : Env → Heap → Prop),
   stages P tk fk ops nt m acc L = some l → Rel m nt h0 w0 pb env h a w → stgsW N Γ l env h K → Next m nt h0 w0 K (fun a w => Q .normal a w) → wpOps P ops Q (acc.reverse ++ L) a w := by
 intro L
 induction L with
 | nil =>
  intro acc l pb env h a w K hl hr hK hn
  simp only [stages] at hl
  split at hl
  ·rename_i he
   cases hl
   have : acc = [] := by simpa using he
   subst this
   simp only [stgsW] at hK
   exact hn _ _ _ _ _ hK hr
  ·obtain ⟨s, h1, rfl⟩ := Option.map_eq_some_iff.1 hl
   simp only [stgsW] at hK
   have := stage_sound htk hfk hΓ hnd hr h1 hK (rest := []) (Q := Q) (fun pb env h a w hk hr => by simp only [wpOps]; exact hn _ _ _ _ _ hk hr)
   simpa using this
 | cons j L ih =>
  intro acc l pb env h a w K hl hr hK hn
  simp only [stages] at hl
  split at hl
  ·cases hl
  ·split at hl
   ·have := ih (j :: acc) l pb env h a w K hl hr hK hn
    simpa using this
   ·split at hl <;> cases hl
    rename_i s l' h1 h2
    simp only [stgsW] at hK
    have := stage_sound htk hfk hΓ hnd hr h1 hK (rest := L) (Q := Q) (fun pb env h a w hk hr => by
     have := ih [] l' pb env h a w K h2 hr hk hn
     simpa using this)
    simpa using this
end Go.Cw
namespace Go.Cw
open Go
def condEx (m : Lmap) : Operand → Option Ex
 | .tmp t =>
  match idxOf t 0 m with
  | some (i, false) => some (.var i)
  | _ => none
 | .const (.bool b) => some (.con (.bool b))
 | _ => none
def exOf : SE → Exit
 | .normal => .normal
 | .exit id => .exit id
 | .ret => .ret
variable {P : Program} {N : Num} {tk fk : Nat → Option Nat} {Γ : Ctx}
def Lift (m : Lmap) (nt : Nat) (h0 : Heap) (w0 : World) (Q : SE → Env → Heap → Prop) (Q' : Exit → Act → World → Prop) : Prop :=
 ∀ e pb env h a w, Q e env h → Rel m nt h0 w0 pb env h a w → Q' (exOf e) a w
def Sound (P : Program) (N : Num) (Γ : Ctx) (m : Lmap) (nt : Nat) (s : St) (c : Code) : Prop :=
 ∀ (h0 : Heap) (w0 : World) (Q : SE → Env → Heap → Prop) (Q' : Exit → Act → World → Prop) (pb : Nat → Option Nat) (env : Env) (h : Heap) (a : Act) (w : World),
  SW N Γ s Q env h → Rel m nt h0 w0 pb env h a w → Lift m nt h0 w0 Q Q' → c.wp P Q' a w
theorem sound_reg (htk : ∀ t k, tk t = some k → N.tid k = t) (hfk : ∀ f k, fk f = some k → N.fid k = f) (hΓ : Good P N Γ) {m : Lmap} {nt : Nat} (hnd : (m.map (·.1)).Nodup) {id : Nat} {ops : Array Oper} {l : List Stg}
  (hl : stages P tk fk ops nt m [] (List.range ops.size) = some l) : Sound P N Γ m nt (.reg l) (.region id ops false) := by
 intro h0 w0 Q Q' pb env h a w hK hr hQ
 refine wp_region ?_
 have := stages_sound htk hfk hΓ hnd (Q := Q') (h0 := h0) (w0 := w0) (List.range ops.size) [] l pb env h a w (Q .normal) hl hr (by simpa only [SW] using hK) (fun pb env h a w hk hr => hQ .normal pb env h a w hk hr)
 simpa using this
theorem sound_seq {m : Lmap} {nt : Nat} {s t : St} {c d : Code} (hs : Sound P N Γ m nt s c) (ht : Sound P N Γ m nt t d) : Sound P N Γ m nt (.seq s t) (.seq c d) := by
 intro h0 w0 Q Q' pb env h a w hK hr hQ
 simp only [SW] at hK
 refine wp_seq (hs h0 w0 _ _ pb env h a w hK hr ?_)
 intro e pb env h a w hq hr
 cases e with
 | normal => exact ht h0 w0 Q Q' pb env h a w hq hr hQ
 | exit id => exact hQ (.exit id) pb env h a w hq hr
 | ret => exact hQ .ret pb env h a w hq hr
theorem sound_cond {m : Lmap} {nt : Nat} {s t : St} {c d : Code} {x : Operand} {e : Ex} (hx : condEx m x = some e) (hs : Sound P N Γ m nt s c) (ht : Sound P N Γ m nt t d) : Sound P N Γ m nt (.cond e s t) (.cond x c d) := by
 intro h0 w0 Q Q' pb env h a w hK hr hQ
 simp only [SW] at hK
 obtain ⟨b, hb, h1, h2⟩ := hK
 have hev : a.eval x = .bool b := by
  unfold condEx at hx
  split at hx
  ·rename_i t'
   split at hx <;> cases hx
   rename_i i hi
   obtain ⟨j, rfl, hj⟩ := idxOf_spec m 0 _ _ hi
   simp only [ev, Option.map_eq_some_iff] at hb
   obtain ⟨v, h3, h4⟩ := hb
   cases h4
   rw [Nat.zero_add] at h3
   exact hr.plain j t' hj _ h3
  ·cases hx
   simp only [ev] at hb; cases hb; rfl
  ·cases hx
 cases b with
 | true => exact wp_cond_true hev (hs h0 w0 Q Q' pb env h a w (h1 rfl) hr hQ)
 | false => exact wp_cond_false hev (ht h0 w0 Q Q' pb env h a w (h2 rfl) hr hQ)
theorem sound_block {m : Lmap} {nt : Nat} {id : Nat} {s : St} {c : Code} (hs : Sound P N Γ m nt s c) : Sound P N Γ m nt (.block id s) (.block id c) := by
 intro h0 w0 Q Q' pb env h a w hK hr hQ
 simp only [SW] at hK
 refine wp_block (hs h0 w0 _ _ pb env h a w hK hr ?_)
 intro e pb env h a w hq hr
 cases e with
 | normal => exact hQ .normal pb env h a w hq hr
 | exit j =>
  simp only [exOf, Exit.inBlock]
  split
  ·rename_i e; simp only [e, if_true] at hq; exact hQ .normal pb env h a w hq hr
  ·rename_i e; simp only [e, if_false] at hq; exact hQ (.exit j) pb env h a w hq hr
 | ret => exact hQ .ret pb env h a w hq hr
theorem sound_loop {m : Lmap} {nt : Nat} {s : St} {c : Code} (hs : Sound P N Γ m nt s c) : Sound P N Γ m nt (.loop s) (.loop c) := by
 intro h0 w0 Q Q' pb env h a w hK hr hQ
 simp only [SW] at hK
 obtain ⟨I, n, hI, hround⟩ := hK
 refine wp_loop_ghost (fun n a w => ∃ pb env h, I n env h ∧ Rel m nt h0 w0 pb env h a w) n ⟨pb, env, h, hI, hr⟩ ?_
 rintro n a w ⟨pb, env, h, hI, hr⟩
 refine hs h0 w0 _ _ pb env h a w (hround n env h hI) hr ?_
 intro e pb env h a w hq hr
 cases e with
 | normal => obtain ⟨n', hlt, hI'⟩ := hq; exact ⟨n', hlt, pb, env, h, hI', hr⟩
 | exit id => exact hQ (.exit id) pb env h a w hq hr
 | ret => exact hQ .ret pb env h a w hq hr
theorem sound_exit {m : Lmap} {nt : Nat} {id : Nat} : Sound P N Γ m nt (.exit id) (.exit id) := fun _ _ _ _ _ _ _ _ _ hK hr hQ => wp_exit (hQ (.exit id) _ _ _ _ _ hK hr)
theorem sound_ret {m : Lmap} {nt : Nat} : Sound P N Γ m nt .ret .ret := fun _ _ _ _ _ _ _ _ _ hK hr hQ => wp_ret (hQ .ret _ _ _ _ _ hK hr)
theorem sound_skip {m : Lmap} {nt : Nat} : Sound P N Γ m nt .skip .skip := fun _ _ _ _ _ _ _ _ _ hK hr hQ => wp_skip (hQ .normal _ _ _ _ _ hK hr)
structure SFun where
 np : Nat
 nv : Nat
 body : St
 res : List Ex
 deriving Inhabited
def tup : List Value → Value
 | [v] => v
 | vs => .tuple vs.toArray
def env0 (nv : Nat) (args : List Value) : Env := args.map some ++ List.replicate (nv - args.length) none
def SF (N : Num) (Γ : Ctx) (F : SFun) (args : List Value) (h : Heap) (K : Value → Heap → Prop) : Prop :=
 args.length = F.np ∧ SW N Γ F.body (fun e env h' => match e with
  | .exit _ => False
  | _ => ∃ vs, evVals N env h' F.res = some vs ∧ K (tup vs) h') (env0 F.nv args) h
def resEx (P : Program) (m : Lmap) : List ResultVar → Option (List Ex)
 | [] => some []
 | .tmp t :: r =>
  match idxOf t 0 m, resEx P m r with
  | some (i, false), some l => some (.var i :: l)
  | _, _ => none
 | .cell t ty :: r =>
  match idxOf t 0 m, aggOf P ty, sizeOf' P ty, resEx P m r with
  | some (i, true), some false, some 1, some l => some (.o1 .ld (.pad i) :: l)
  | some (i, true), some true, some n, some l => some (.o1 (.ldn n) (.pad i) :: l)
  | _, _, _, _ => none
theorem res_sound {m : Lmap} {nt : Nat} {h0 : Heap} {w0 : World} {pb : Nat → Option Nat} {env : Env} {h : Heap} {a : Act} {w : World} (hr : Rel m nt h0 w0 pb env h a w)
  {f : ResultVar → Sem Value} (hf1 : ∀ t, f (.tmp t) = pure (a.tmps.getD t undef)) (hf2 : ∀ x t, f (.cell x t) = (do loadVar t (← asAddr (a.tmps.getD x undef)))) :
  ∀ (rs : List ResultVar) (es : List Ex) (vs : List Value), resEx P m rs = some es → evVals N env h es = some vs →
   (rs.mapM f).run P w = .ok vs w := by
 intro rs
 induction rs with
 | nil => intro es vs h1 h2; simp only [resEx] at h1; cases h1; simp only [evVals] at h2; cases h2; rfl
 | cons r rs ih =>
  intro es vs h1 h2
  cases r with
  | tmp t =>
   simp only [resEx] at h1
   split at h1 <;> cases h1
   rename_i i l hi hl
   simp only [evVals] at h2
   split at h2 <;> cases h2
   rename_i v vs' hv hvs
   obtain ⟨j, rfl, hj⟩ := idxOf_spec m 0 _ _ hi
   simp only [ev, Option.map_eq_some_iff, Nat.zero_add] at hv
   obtain ⟨v', h3, h4⟩ := hv
   cases h4
   simp only [List.mapM_cons, Sem.run_bind, hf1, Sem.run_pure, Result.andThen_ok, hr.plain j t hj _ h3, ih l vs' hl hvs]
  | cell x t =>
   simp only [resEx] at h1
   split at h1
   ·cases h1
    rename_i i l hi ha hsz hl
    simp only [evVals] at h2
    split at h2 <;> cases h2
    rename_i v vs' hv hvs
    obtain ⟨j, rfl, hj⟩ := idxOf_spec m 0 _ _ hi
    obtain ⟨u, h3, h4⟩ := ev_o1 hv
    simp only [ev, Option.map_eq_some_iff, Nat.zero_add] at h3
    obtain ⟨v', h5, rfl⟩ := h3
    obtain ⟨b, h6, h7⟩ := hr.prom j x hj _ h5
    obtain ⟨c, y, h8, h9, h10⟩ := o1_priv_ld h4
    cases h10
    obtain ⟨c', t', h11, h12, h13⟩ := hr.priv j b h6
    rw [h8] at h11; cases h11
    have hc : w.cell? ⟨b, 0, none⟩ = some v := by simp [World.cell?, h12, h9]
    have hh : (asAddr (a.tmps.getD x undef)).run P w = .ok ⟨b, 0, none⟩ w := by rw [h7]; rfl
    simp only [List.mapM_cons, hf2, Sem.run_bind, hh, Sem.run_pure, Result.andThen_ok, load_one ha hc, ih l vs' hl hvs]
   ·cases h1
    rename_i i n l hi ha hsz hl
    simp only [evVals] at h2
    split at h2 <;> cases h2
    rename_i v vs' hv hvs
    obtain ⟨j, rfl, hj⟩ := idxOf_spec m 0 _ _ hi
    obtain ⟨u, h3, h4⟩ := ev_o1 hv
    simp only [ev, Option.map_eq_some_iff, Nat.zero_add] at h3
    obtain ⟨v', h5, rfl⟩ := h3
    obtain ⟨b, h6, h7⟩ := hr.prom j x hj _ h5
    obtain ⟨c, h8, h9, h10⟩ := o1_priv_ldn h4
    cases h10
    obtain ⟨c', t', h11, h12, h13⟩ := hr.priv j b h6
    rw [h8] at h11; cases h11
    have hc := load_many (P := P) (w := w) ha hsz (run_row (P := P) h12 0 n h9)
    have hh : (asAddr (a.tmps.getD x undef)).run P w = .ok ⟨b, 0, none⟩ w := by rw [h7]; rfl
    simp only [List.mapM_cons, hf2, Sem.run_bind, hh, Sem.run_pure, Result.andThen_ok, hc, ih l vs' hl hvs]
   ·cases h1
theorem fun_sound {f : FuncId} {fn : Func} {c : Code} (hf : P.funcs[f]? = some fn) (hname : (fn.name == "runtime.NumGoroutine") = false) (hb : fn.body = some c) {m : Lmap} {F : SFun} (hc : Sound P N Γ m fn.ntmps F.body c)
  (hres : resEx P m fn.results.toList = some F.res) (hnv : F.nv = m.length) (hm0 : ∀ i, i < F.np → m[i]? = some (i, false)) (hnp : F.np ≤ fn.ntmps) (hle : F.np ≤ F.nv) {args : List Value} {h : Heap} {K : Value → Heap → Prop} (hK : SF N Γ F args h K) :
  FC P f args h K := by
 obtain ⟨hlen, hK⟩ := hK
 refine .inl ⟨⟨fn, hf, hname, by rw [hb]; rfl⟩, fun w hs => ?_⟩
 refine calls_of_wp hf hb ?_
 have hrel : Rel m fn.ntmps h w (fun _ => none) (env0 F.nv args) h { tmps := args.toArray ++ Array.replicate (fn.ntmps - args.toArray.size) undef, defers := [] } w := by
  refine ⟨?_, ?_, ?_, (by intro i b hb; cases hb), (by intro i b hb; cases hb), (by intro i j b hb; cases hb), WStep.refl hs, ?_, rfl⟩
  ·simp [env0, hlen]; omega
  ·intro i slot hm v hv
   by_cases hi : i < args.length
   ·have := hm0 i (by omega)
    rw [this] at hm; cases hm
    simp only [Env.get, env0, List.getElem?_append_left (show i < (args.map some).length by simpa using hi), List.getElem?_map] at hv
    have hg : args[i]? = some v := by
     cases hh : args[i]? with
     | none => rw [hh] at hv; simp at hv
     | some x => rw [hh] at hv; simp at hv; rw [hv]
    rw [Array.getD_eq_getD_getElem?, Array.getElem?_append_left (by simpa using hi)]
    simp [hg]
   ·simp only [Env.get, env0, List.getElem?_append_right (show (args.map some).length ≤ i by simpa using hi), List.getElem?_replicate] at hv
    split at hv <;> simp at hv
  ·intro i slot hm v hv
   by_cases hi : i < args.length
   ·have := hm0 i (by omega)
    rw [this] at hm; cases hm
   ·simp only [Env.get, env0, List.getElem?_append_right (show (args.map some).length ≤ i by simpa using hi), List.getElem?_replicate] at hv
    split at hv <;> simp at hv
  ·simp; omega
 refine hc h w _ _ _ _ _ _ _ hK hrel ?_
 intro e pb env h' a w' hq hr
 have fin : (∃ vs, evVals N env h' F.res = some vs ∧ K (tup vs) h') → ∃ v, (results fn a.tmps).run P w' = .ok v w' ∧ ∃ v_1 h', Ending.returned v = .returned v_1 ∧ K v_1 h' ∧ WStep h h' w w' := by
  rintro ⟨vs, h1, h2⟩
  refine ⟨tup vs, ?_, tup vs, h', rfl, h2, hr.step⟩
  unfold results
  rw [Array.mapM_eq_mapM_toList]
  simp only [Sem.run_bind, Sem.run_map]
  rw [res_sound (N := N) (P := P) hr (fun _ => rfl) (fun _ _ => rfl) fn.results.toList F.res vs hres h1]
  simp only [Result.andThen_ok, Sem.run_pure]
  match vs with
  | [] => rfl
  | [v] => rfl
  | v :: u :: r => simp [tup]
 cases e with
 | normal => exact ⟨hr.df, fin hq⟩
 | exit id => exact hq.elim
 | ret => exact ⟨hr.df, fin hq⟩
end Go.Cw
