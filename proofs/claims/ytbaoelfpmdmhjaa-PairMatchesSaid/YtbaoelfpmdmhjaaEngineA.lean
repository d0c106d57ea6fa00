/- An executor of the model: its definition, and the relation between its memory and the model. No condition. -/
import GoSem.Step
import Derived.AtR
import Derived.Below
import Derived.Laws.Cells
import Derived.Laws.Entries
import Derived.Laws.EntriesVeiled
import Derived.WideLaws
import Derived.Laws.StructEq
import Derived.Laws.Strings
import Derived.StringKeys
import Derived.Laws.Tables
import Derived.ChangeKeysEq
import Derived.MapKept
import Derived.Laws.MakeOwn
import Derived.Laws.BitsLemmas
import Derived.WalkSmall
import Derived.Laws.IdiomStrings
import Derived.Laws.Runes
import Derived.Lib.Builder
namespace Go.Ai
abbrev R (α : Type) := Option α
def ok {α : Type} (a : α) : R α := some a
def er {α : Type} (_ : String) : R α := none
noncomputable def bnd {α β : Type} (x : R α) (f : α → R β) : R β := Option.rec (motive := fun _ => R β) none f x
def tagE {α : Type} (x : R α) (_ : String) : R α := x
def tops (v : R Value) (r : List Nat) : List Nat := match v with
  | some (.pointer (some a)) => a.block :: r
  | some (.slice (some a) _ _) => a.block :: r
  | some (.map (some m)) => m :: r
  | _ => r
def getO {α : Type} (o : Option α) (_ : String) : R α := o
noncomputable def need {α : Type} (b : Bool) (why : String) (k : R α) : R α := Bool.rec (motive := fun _ => R α) (er why) k b
inductive T (α : Type) where
  | e : T α
  | n (v : Option α) (l r : T α) : T α
namespace T
variable {α : Type}
noncomputable def get (t : T α) : Nat → Option α :=
  T.rec (motive := fun _ => Nat → Option α) (fun _ => none) (fun v _ _ gl gr k => Nat.rec (motive := fun _ => Option α) v (fun k _ => Bool.rec (motive := fun _ => Option α) (gr (k / 2)) (gl (k / 2)) (Nat.beq (k % 2) 0)) k) t
noncomputable def set (t : T α) : Nat → Option α → T α :=
  T.rec (motive := fun _ => Nat → Option α → T α) (fun _ _ => .e) (fun v l r sl sr k x => Nat.rec (motive := fun _ => T α) (.n x l r) (fun k _ => Bool.rec (motive := fun _ => T α) (.n v l (sr (k / 2) x)) (.n v (sl (k / 2) x) r) (Nat.beq (k % 2) 0)) k) t
end T
namespace T
variable {α : Type}
/-- a tree of some depth without anything in it -/
noncomputable def mk : Nat → T α
  | 0 => .e
  | d + 1 => match mk d with | t => .n none t t
end T

inductive Blk where
  | cells (cs : List Value) (elem : TypeId) (fam fz : Nat)
  | bytes (bs : List UInt8) (elem : TypeId) (fam fz : Nat)
  | map (es : List MapEntry) (clock : Nat)
  | iter (s : ByteArray) (pos : Nat)
  | mapIter (m : Option Nat) (since : Nat) (seen : List Nat) (stepped : Nat)
  | loop (st : LoopState) (pending : Option Code) (tm : T Value) (ps : List Nat) (assign body : Code) (dfs : Nat)
  | defd (opn : Bool)

structure H where
  bl : T Blk
  ctr : Nat
  low : Nat

structure TI where
  desc : TypeDesc
  size : Nat
  bytes : Nat
  zero : List Value
  agg : Bool
  places : List (Nat × Nat)
  peq : Bool

inductive FE where
  | body (ntmps : Nat) (res : List ResultVar) (c : Code)
  | count | indexByte | noEscape | mapsClone
  | hook (g : List Value → H → R (Value × H))

structure Ctx where
  tt : T TI
  ft : T FE
  ng : Nat

noncomputable def undef : Value := .tuple #[]
noncomputable def bigLow : Nat := 1000000000000
/-- what a slice's third number says here: 2 * k + 1: its capacity is k; 2 * s: it is not known, an element has s cells -/
noncomputable def kcap (k : Nat) : Nat := 2 * k + 1
noncomputable def ucap (s : Nat) : Nat := 2 * s
noncomputable def isK (c : Nat) : Bool := Nat.beq (c % 2) 1

/-- a value that leads nowhere -/
noncomputable def flat : Nat → Value → Bool
  | 0, _ => false
  | d + 1, v => match v with
    | .bool _ => true
    | .int _ _ => true
    | .float _ _ => true
    | .complex _ _ _ => true
    | .string _ => true
    | .pointer none => true
    | .slice none 0 0 => true
    | .map none => true
    | .chan none => true
    | .nilFunc => true
    | .nilIface => true
    | .iface _ v => flat d v
    | .agg vs => vs.toList.all (flat d)
    | .tuple vs => vs.toList.all (flat d)
    | _ => false
noncomputable def oneC : Value → Bool
  | .agg _ => false
  | .tuple _ => false
  | _ => true

noncomputable def ev (ng : Nat) (tm : T Value) : Operand → R Value
  | .tmp t => getO (tm.get t) "tmp"
  | .const v => need (flat 9 v) "const" (ok v)
  | .global g => need (Nat.blt g ng) "global" (ok (.pointer (some ⟨g, 0, none⟩)))
  | .func f => ok (.func (.func f) #[] #[])
noncomputable def evs (ng : Nat) (tm : T Value) : List Operand → R (List Value)
  | [] => ok []
  | x :: xs => bnd (ev ng tm x) fun v => bnd (evs ng tm xs) fun vs => ok (v :: vs)

noncomputable def tinfo (C : Ctx) (t : TypeId) : R TI := getO (C.tt.get t) "type"

noncomputable def pureOf (s : Sem Value) : R Value := match s with | .pure v => ok v | _ => er "not pure"

noncomputable def newB (h : H) (b : Blk) : H := { bl := h.bl.set h.ctr (some b), ctr := h.ctr + 1, low := h.low }
noncomputable def atNew (h : H) : Addr := ⟨h.ctr, 0, none⟩
noncomputable def newCells (h : H) (cs : List Value) (e : TypeId) : H := newB h (.cells cs e h.ctr 0)
noncomputable def newBytes (h : H) (bs : List UInt8) (e : TypeId) : H := newB h (.bytes bs e h.ctr 0)

noncomputable def byteV (b : UInt8) : Value := .int .u8 b.toNat
noncomputable def bytesOfCells : List Value → R (List UInt8)
  | [] => ok []
  | v :: r => match v with
    | .int .u8 (.ofNat n) => need (Nat.blt n 256) "byte" (bnd (bytesOfCells r) fun l => ok (UInt8.ofNat n :: l))
    | _ => er "bytes expected"

/-- frozen cells: twice the place ahead of which they all lie; one more: and what stands behind the row, too -/
noncomputable def fzle (fz o : Nat) : Bool := Nat.ble fz (2 * o + 1)
noncomputable def fzcut (fz o : Nat) : Nat := 2 * (fz / 2 - o) + fz % 2
noncomputable def cut {α : Type} (l : List α) (off n : Nat) : List α := (l.drop off).take n
noncomputable def splice {α : Type} (cs : List α) (off : Nat) (vs : List α) : List α := cs.take off ++ (vs ++ cs.drop (off + vs.length))

noncomputable def loadC (h : H) (a : Addr) (n : Nat) : R (List Value) :=
  match h.bl.get a.block with
  | some (.cells cs _ _ _) => need (Nat.ble (a.off + n) cs.length) "load out of block" (ok (cut cs a.off n))
  | some (.bytes bs _ _ _) => need (Nat.ble (a.off + n) bs.length) "load out of block" (ok ((cut bs a.off n).map byteV))
  | _ => er "no live cells"
noncomputable def loadB (h : H) (a : Addr) (n : Nat) : R (List UInt8) :=
  match h.bl.get a.block with
  | some (.cells cs _ _ _) => need (Nat.ble (a.off + n) cs.length) "load out of block" (bytesOfCells (cut cs a.off n))
  | some (.bytes bs _ _ _) => need (Nat.ble (a.off + n) bs.length) "load out of block" (ok (cut bs a.off n))
  | _ => er "no live cells"
noncomputable def put (h : H) (b : Nat) (x : Blk) (fam : Nat) : H := { bl := h.bl.set b (some x), ctr := h.ctr, low := Nat.min h.low fam }
noncomputable def storeC (h : H) (a : Addr) (vs : List Value) : R H :=
  match h.bl.get a.block with
  | some (.cells cs e fam fz) => need (Nat.ble (a.off + vs.length) cs.length && (fzle fz a.off && vs.all oneC)) "store out of block, or to frozen cells"
      (ok (put h a.block (.cells (splice cs a.off vs) e fam fz) fam))
  | some (.bytes bs e fam fz) => bnd (bytesOfCells vs) fun ws => need (Nat.ble (a.off + ws.length) bs.length && fzle fz a.off) "store out of block, or to frozen cells"
      (ok (put h a.block (.bytes (splice bs a.off ws) e fam fz) fam))
  | _ => er "no live cells"
noncomputable def storeB (h : H) (a : Addr) (ws : List UInt8) : R H :=
  match h.bl.get a.block with
  | some (.cells cs e fam fz) => need (Nat.ble (a.off + ws.length) cs.length && fzle fz a.off) "store out of block, or to frozen cells"
      (ok (put h a.block (.cells (splice cs a.off (ws.map byteV)) e fam fz) fam))
  | some (.bytes bs e fam fz) => need (Nat.ble (a.off + ws.length) bs.length && fzle fz a.off) "store out of block, or to frozen cells"
      (ok (put h a.block (.bytes (splice bs a.off ws) e fam fz) fam))
  | _ => er "no live cells"

noncomputable def ofCells (ti : TI) (cs : List Value) : R Value :=
  match ti.agg with
  | true => ok (.agg cs.toArray)
  | false => match cs with | [v] => ok v | _ => er "not one cell"
noncomputable def vcells : Value → List Value
  | .agg cs => cs.toList
  | v => [v]
noncomputable def addrOf : Value → R Addr
  | .pointer (some a) => ok a
  | _ => er "address expected"
noncomputable def intOf : Value → R Int
  | .int _ n => ok n
  | _ => er "int expected"
noncomputable def boolOf : Value → R Bool
  | .bool b => ok b
  | _ => er "bool expected"

noncomputable def fillC (cs : List Value) : List (Nat × List Value) → List Value
  | [] => cs
  | (off, vs) :: r => fillC (splice cs off vs) r

noncomputable def fieldAt (C : Ctx) (t : TypeId) (i : Nat) : R Field :=
  bnd (tinfo C t) fun ti => match ti.desc with
  | .struct fs => getO (fs.toList[i]?) "no such field"
  | _ => er "struct expected"

/-- where a part of a struct, an array, a slice's literal lies, and of which type it is -/
noncomputable def place (C : Ctx) (ti : TI) (i : Nat) : R (Nat × Nat) :=
  match ti.desc with
  | .struct _ => getO (ti.places[i]?) "no such field"
  | .array _ e => bnd (tinfo C e) fun fi => ok (i * fi.size, fi.size)
  | .slice e => bnd (tinfo C e) fun fi => ok (i * fi.size, fi.size)
  | _ => er "build: type"
noncomputable def buildParts (C : Ctx) (ti : TI) (tm : T Value) (N : Nat) : List (Nat × Operand) → R (List (Nat × List Value))
  | [] => ok []
  | (i, x) :: r => bnd (ev C.ng tm x) fun v => bnd (place C ti i) fun p => need (Nat.beq p.2 (vcells v).length && Nat.ble (p.1 + p.2) N) "build: size"
      (bnd (buildParts C ti tm N r) fun rest => ok ((p.1, vcells v) :: rest))

noncomputable def repeatL {α : Type} (n : Nat) (l : List α) : List α := match n with | 0 => [] | n + 1 => l ++ repeatL n l

noncomputable def partOf (C : Ctx) (t : TypeId) (cs : List Value) (off : Nat) : R Value :=
  bnd (tinfo C t) fun ti => need (Nat.ble (off + ti.size) cs.length) "part" (ofCells ti (cut cs off ti.size))

/-- equality of plain values that are no structs and no arrays -/
noncomputable def aeq1 : TypeDesc → Value → Value → R Bool
  | .bool, .bool a, .bool b => ok (a == b)
  | .int _, .int j a, .int k b => need (decide (j = k)) "aeq: int kinds" (ok (a == b))
  | .string, .string a, .string b => ok (a.toList == b.toList)
  | .pointer _, .pointer none, .pointer b => ok b.isNone
  | .pointer _, .pointer (some _), .pointer none => ok false
  | .slice _, .slice none _ _, .slice b _ _ => ok b.isNone
  | .slice _, .slice (some _) _ _, .slice none _ _ => ok false
  | .map _ _, .map none, .map b => ok b.isNone
  | .map _ _, .map (some _), .map none => ok false
  | .func _ _ _, .nilFunc, .nilFunc => ok true
  | .func _ _ _, .nilFunc, .func _ _ _ => ok false
  | .func _ _ _, .func _ _ _, .nilFunc => ok false
  | .interface _, .nilIface, .iface _ _ => ok false
  | .interface _, .iface _ _, .nilIface => ok false
  | .interface _, .nilIface, .nilIface => ok true
  | _, _, _ => er "aeq: kinds"
inductive Eqs where
  | val (t : TypeId) (x y : Value)
  | fields (fs : List Field) (xs ys : List Value)
  | elems (e : TypeId) (n off : Nat) (xs ys : List Value)
noncomputable def aeq (C : Ctx) : Nat → Eqs → R Bool
  | 0, _ => er "aeq: depth"
  | d + 1, q => match q with
    | .val t x y => bnd (tinfo C t) fun ti => match ti.desc, x, y with
      | .struct fs, .agg xs, .agg ys => need ti.peq "aeq: struct" (aeq C d (.fields fs.toList xs.toList ys.toList))
      | .array n e, .agg xs, .agg ys => need ti.peq "aeq: array" (aeq C d (.elems e n 0 xs.toList ys.toList))
      | .pointer e, .pointer (some a), .pointer (some b) => bnd (tinfo C e) fun ei => need (Nat.blt 0 ei.size && Nat.beq a.block b.block) "aeq: two blocks" (ok (Nat.beq a.off b.off))
      | k, x, y => aeq1 k x y
    | .fields [] _ _ => ok true
    | .fields (f :: fs) xs ys => bnd (partOf C f.type xs f.offset) fun x => bnd (partOf C f.type ys f.offset) fun y =>
      bnd (aeq C d (.val f.type x y)) fun b => match b with
      | true => aeq C d (.fields fs xs ys)
      | false => ok false
    | .elems e 0 _ _ _ => bnd (tinfo C e) fun _ => ok true
    | .elems e (n + 1) off xs ys => bnd (tinfo C e) fun ti => bnd (partOf C e xs off) fun x => bnd (partOf C e ys off) fun y =>
      bnd (aeq C d (.val e x y)) fun b => match b with
      | true => aeq C d (.elems e n (off + ti.size) xs ys)
      | false => ok false

noncomputable def isConst : Operand → Bool
  | .const _ => true
  | _ => false
noncomputable def nilGuard (ox oy : Operand) : Value → Value → Bool
  | .nilIface, .nilIface => isConst ox || isConst oy
  | _, _ => true

noncomputable def plain (r : R Value) : R Value := bnd r fun v => need (flat 1 v) "plain" (ok v)
noncomputable def aBin (C : Ctx) (op : BinOp) (t : TypeId) (ox oy : Operand) (x y : Value) : R Value :=
  match x, y with
  | .int _ _, .int _ _ => plain (pureOf (binOp op t x y))
  | .string _, .string _ => plain (pureOf (binOp op t x y))
  | x, y => match op with
    | .eql => need (nilGuard ox oy x y) "eq of two nil interfaces" (bnd (aeq C 90 (.val t x y)) fun b => ok (.bool b))
    | .neq => need (nilGuard ox oy x y) "eq of two nil interfaces" (bnd (aeq C 90 (.val t x y)) fun b => ok (.bool !b))
    | _ => er "aBin"

noncomputable def aConv (C : Ctx) (src dst : TypeId) (x : Value) (h : H) : R (Value × H) :=
  bnd (tinfo C src) fun s => bnd (tinfo C dst) fun d => match s.desc, d.desc, x with
  | .int _, .int k, .int _ n => ok (.int k (k.wrap n), h)
  | .int _, .string, .int _ n => ok (.string (Utf8.encode n), h)
  | .string, .string, .string s => ok (.string s, h)
  | .string, .slice e, .string s => bnd (tinfo C e) fun ei => match ei.desc with
    | .int .u8 => ok (.slice (some (atNew h)) s.size (ucap 1), newB h (.bytes s.data.toList e h.ctr 1))
    | .int .i32 => match Conv.runesFrom s s.size 0 #[] with | rs => need (Nat.ble rs.size 70368744177664 && rs.toList.all (flat 1)) "runes" (ok (.slice (some (atNew h)) rs.size (ucap 1), newCells h rs.toList e))
    | _ => er "conv"
  | .slice e, .string, .slice none _ _ => bnd (tinfo C e) fun ei => match ei.desc with
    | .int .u8 => ok (.string .empty, h)
    | _ => er "conv2"
  | .slice e, .string, .slice (some a) len _ => bnd (tinfo C e) fun ei => match ei.desc with
    | .int .u8 => match len with
      | 0 => ok (.string .empty, h)
      | len => bnd (loadB h a len) fun bs => ok (.string ⟨bs.toArray⟩, h)
    | _ => er "conv2"
  | .pointer t, .unsafePointer, .pointer (some a) => bnd (loadC h a 1) fun _ => bnd (tinfo C t) fun ti => need (Nat.blt 0 ti.size) "raw.Pointer" (ok (x, h))
  | .unsafePointer, .pointer u, .pointer (some a) => match h.bl.get a.block with
    | some (.cells cs e fam _) => bnd (tinfo C u) fun ui =>
      need (Nat.beq fam a.block && Nat.beq e u && Nat.beq a.off 0 && Nat.blt 0 ui.size && Nat.ble ui.size cs.length) "raw.Pointer" (ok (x, h))
    | _ => er "raw.Pointer"
  | _, _, _ => er "conv3"

noncomputable def bound (x : Value) (y : Nat) : R Nat :=
  bnd (intOf x) fun i => match i with
  | .ofNat n => need (Nat.ble n y) "slice bound" (ok n)
  | .negSucc _ => er "slice bound"
noncomputable def boundO (x : Option Value) (d y : Nat) : R Nat := match x with | some v => bound v y | none => ok d

noncomputable def isSome' : Option Value → Bool | some _ => true | none => false
noncomputable def sliceU (a : Addr) (len c sz : Nat) (lo hi mx : Option Value) : R Value :=
  need (Nat.beq c (ucap sz)) "slice: size" (bnd (boundO mx len len) fun m => bnd (boundO hi len m) fun h => bnd (boundO lo 0 h) fun l =>
    match mx with
    | none => ok (.slice (some (a.add (l * sz))) (h - l) c)
    | some _ => need (isSome' hi) "max without high" (ok (.slice (some (a.add (l * sz))) (h - l) (kcap (m - l)))))
noncomputable def sliceK (a : Addr) (len cap sz : Nat) (lo hi mx : Option Value) : R Value :=
  bnd (boundO mx cap cap) fun m => bnd (match hi with | some v => bound v m | none => need mx.isNone "max without high" (ok len)) fun h => bnd (boundO lo 0 h) fun l =>
    ok (.slice (some (a.add (l * sz))) (h - l) (kcap (m - l)))
noncomputable def aSlice (C : Ctx) (t : TypeId) (x : Value) (lo hi mx : Option Value) : R Value :=
  bnd (tinfo C t) fun ti => match ti.desc, x with
  | .string, .string s => need mx.isNone "slice3 of a string" (bnd (boundO hi s.size s.size) fun h => bnd (boundO lo 0 h) fun l => ok (.string (s.extract l h)))
  | .slice e, .slice a len c => bnd (tinfo C e) fun ei => match a with
    | none => bnd (boundO mx 0 0) fun m => bnd (boundO hi 0 m) fun h => bnd (boundO lo 0 h) fun _ => need (isSome' hi || mx.isNone) "max without high" (ok (.slice none 0 0))
    | some a => match isK c with
      | true => sliceK a len (c / 2) ei.size lo hi mx
      | false => sliceU a len c ei.size lo hi mx
  | .array n e, .pointer (some a) => bnd (tinfo C e) fun ei => sliceK a n n ei.size lo hi mx
  | _, _ => er "slice"

noncomputable def sameKey : Value → Value → R Bool
  | .int j a, .int k b => need (decide (j = k)) "key kinds" (ok (a == b))
  | .string a, .string b => ok (a == b)
  | .bool a, .bool b => ok (a == b)
  | _, _ => er "key"
noncomputable def findK (k : Value) : List MapEntry → Nat → R (Option (Nat × Value))
  | [], _ => ok none
  | e :: es, i => bnd (sameKey k e.key) fun b => match b with
    | true => ok (some (i, e.val))
    | false => findK k es (i + 1)
noncomputable def plainKey : TypeDesc → Value → Bool
  | .int j, .int k _ => decide (k = j)
  | .string, .string _ => true
  | .bool, .bool _ => true
  | _, _ => false
noncomputable def mapAt (h : H) (r : Nat) : R (List MapEntry × Nat) :=
  match h.bl.get r with
  | some (.map es c) => ok (es, c)
  | _ => er "no map"
noncomputable def keyDesc (C : Ctx) (t : TypeId) : R (TypeDesc × TypeId) :=
  bnd (tinfo C t) fun ti => match ti.desc with
  | .map k e => bnd (tinfo C k) fun ki => ok (ki.desc, e)
  | _ => er "map type"
noncomputable def zeroOf (C : Ctx) (t : TypeId) : R Value := bnd (tinfo C t) fun ti => ofCells ti ti.zero

noncomputable def aUpdate (C : Ctx) (t : TypeId) (k v : Value) (m : Nat) (h : H) : R H :=
  bnd (keyDesc C t) fun kd => need (plainKey kd.1 k) "key" (bnd (mapAt h m) fun ec => bnd (findK k ec.1 0) fun f => match f with
    | some (i, _) => ok (put h m (.map (ec.1.modify i fun e => { e with key := k, val := v }) ec.2) m)
    | none => ok (put h m (.map (ec.1 ++ [{ key := k, val := v, born := ec.2 }]) (ec.2 + 1)) m))

/-- what is read of what is appended: how many elements, and their cells -/
noncomputable def srcCells (h : H) (size : Nat) : Value → R (Nat × List Value)
  | .slice none _ _ => ok (0, [])
  | .slice (some a) n _ => match n with
    | 0 => ok (0, [])
    | n => bnd (loadC h a (n * size)) fun cs => ok (n, cs)
  | _ => er "append: what"
noncomputable def srcBytes (h : H) : Value → R (List UInt8)
  | .slice none _ _ => ok []
  | .slice (some a) n _ => match n with
    | 0 => ok []
    | n => loadB h a n
  | .string s => ok s.data.toList
  | _ => er "append: what"
noncomputable def isU8 : TypeDesc → Bool
  | .int .u8 => true
  | _ => false
noncomputable def zeroU8 : List Value → Bool
  | [.int .u8 (.ofNat n)] => Nat.beq n 0
  | _ => false
noncomputable def isSrc : TypeDesc → Bool
  | .slice _ => true
  | .string => true
  | _ => false
noncomputable def u8T (ti : TI) : Bool := isU8 ti.desc && Nat.beq ti.size 1

noncomputable def small (n bytes : Nat) : Bool := Nat.ble (n * (bytes + 1)) 1099511627776

/-- a slice whose capacity is not known, appended to: the old block is given up, a new one stands for it, or for a new one -/
noncomputable def moveTo (h : H) (old : Nat) (x : Blk) (fam : Nat) : H := { bl := (h.bl.set old none).set h.ctr (some x), ctr := h.ctr + 1, low := Nat.min h.low fam }
noncomputable def appendB (h : H) (e : TypeId) (base : Option Addr) (len c : Nat) (new : List UInt8) : R (Value × H) :=
  match base with
  | none => match new with
    | [] => ok (.slice none 0 0, h)
    | new => ok (.slice (some (atNew h)) new.length (ucap 1), newBytes h new e)
  | some a => match new with
    | [] => ok (.slice (some a) len c, h)
    | new => match isK c with
      | false => match h.bl.get a.block with
        | some (.bytes bs e' fam fz) => need (Nat.beq c (ucap 1) && (Nat.beq e e' && (Nat.ble (a.off + len) bs.length && fzle fz (a.off + len)))) "append: block"
          (ok (.slice (some (atNew h)) (len + new.length) c, moveTo h a.block (.bytes (cut bs a.off len ++ new) e fam (fzcut fz a.off)) fam))
        | _ => er "append: dead"
      | true => match Nat.ble (len + new.length) (c / 2) with
        | true => bnd (storeB h (a.add len) new) fun h => ok (.slice (some a) (len + new.length) c, h)
        | false => bnd (match len with | 0 => ok [] | len => loadB h a len) fun old => ok (.slice (some (atNew h)) (len + new.length) (ucap 1), newBytes h (old ++ new) e)
noncomputable def appendC (h : H) (e : TypeId) (sz : Nat) (base : Option Addr) (len c n : Nat) (new : List Value) : R (Value × H) :=
  match base with
  | none => match n with
    | 0 => ok (.slice none 0 0, h)
    | n => ok (.slice (some (atNew h)) n (ucap sz), newCells h new e)
  | some a => match n with
    | 0 => ok (.slice (some a) len c, h)
    | n => match isK c with
      | false => match h.bl.get a.block with
        | some (.cells cs e' fam fz) => need (Nat.beq c (ucap sz) && (Nat.beq e e' && (Nat.ble (a.off + len * sz) cs.length && fzle fz (a.off + len * sz)))) "append: block"
          (ok (.slice (some (atNew h)) (len + n) c, moveTo h a.block (.cells (cut cs a.off (len * sz) ++ new) e fam (fzcut fz a.off)) fam))
        | _ => er "append: dead"
      | true => match Nat.ble (len + n) (c / 2) with
        | true => bnd (storeC h (a.add (len * sz)) new) fun h => ok (.slice (some a) (len + n) c, h)
        | false => bnd (match len with | 0 => ok [] | len => loadC h a (len * sz)) fun old => ok (.slice (some (atNew h)) (len + n) (ucap sz), newCells h (old ++ new) e)
noncomputable def aAppend (C : Ctx) (t xt : TypeId) (s x : Value) (h : H) : R (Value × H) :=
  bnd (tinfo C t) fun ti => bnd (tinfo C xt) fun xi => need (isSrc xi.desc) "append of make" (match ti.desc, s with
  | .slice e, .slice base len c => bnd (tinfo C e) fun ei => match u8T ei with
    | true => bnd (srcBytes h x) fun new => need (small (len + new.length) ei.bytes) "append: size" (appendB h e base len c new)
    | false => bnd (srcCells h ei.size x) fun nc => need (small (len + nc.1) ei.bytes && nc.2.all oneC) "append: size" (appendC h e ei.size base len c nc.1 nc.2)
  | _, _ => er "append")

noncomputable def aCopy (C : Ctx) (t : TypeId) (d x : Value) (h : H) : R (Value × H) :=
  bnd (tinfo C t) fun ti => match ti.desc, d with
  | .slice e, .slice base dlen _ => bnd (tinfo C e) fun ei => bnd (match x with | .slice _ n _ => ok n | .string s => ok s.size | _ => er "copy") fun slen =>
    match Nat.min slen dlen with
    | 0 => ok (.int .i64 0, h)
    | n => bnd (match x with
        | .slice (some a) _ _ => loadC h a (n * ei.size)
        | .string s => need (Nat.beq ei.size 1) "copy" (ok ((s.data.toList.take n).map byteV))
        | _ => er "copy") fun cs => match base with
      | some a => bnd (storeC h a cs) fun h => ok (.int .i64 n, h)
      | none => er "copy"
  | _, _ => er "copy"

inductive Nx where
  | val (v : Value) (h : H)
  | call (f : Nat) (args : List Value) (h : H)
  | yield (l : Nat) (args : List Value) (h : H)
  | defer (d : Deferred) (h : H)
  | panic (v : Value) (h : H)
  | recover (h : H)

noncomputable def aLen (C : Ctx) (t : TypeId) (x : Value) (h : H) : R Value :=
  bnd (tinfo C t) fun ti => match ti.desc, x with
    | .string, .string s => ok (.int .i64 s.size)
    | .slice _, .slice _ n _ => ok (.int .i64 n)
    | .array n _, _ => ok (.int .i64 n)
    | .map _ _, .map none => ok (.int .i64 0)
    | .map _ _, .map (some r) => bnd (mapAt h r) fun ec => ok (.int .i64 ec.1.length)
    | .pointer arr, _ => bnd (tinfo C arr) fun ai => match ai.desc with
      | .array n _ => ok (.int .i64 n)
      | _ => er "len"
    | _, _ => er "len"
noncomputable def aCap (C : Ctx) (t : TypeId) (x : Value) : R Value :=
  bnd (tinfo C t) fun ti => match ti.desc, x with
    | .slice _, .slice none _ _ => ok (.int .i64 0)
    | .slice _, .slice (some _) _ c => need (isK c) "cap: not known" (ok (.int .i64 (c / 2 : Nat)))
    | _, _ => er "cap"
noncomputable def aDelete (C : Ctx) (t : TypeId) (m k : Value) (h : H) : R H :=
  bnd (keyDesc C t) fun kd => need (plainKey kd.1 k) "key" (match m with
    | .map none => ok h
    | .map (some r) => bnd (mapAt h r) fun ec => bnd (findK k ec.1 0) fun f => match f with
      | some (i, _) => ok (put h r (.map (ec.1.eraseIdx i) ec.2) r)
      | none => ok (put h r (.map ec.1 ec.2) r)
    | _ => er "delete")
noncomputable def aUnsafeString (C : Ctx) (pt : TypeId) (p : Option Addr) (n : Nat) (h : H) : R (Value × H) :=
  match p, n with
  | _, 0 => ok (.string .empty, h)
  | none, _ => er "raw.String"
  | some a, n => bnd (tinfo C pt) fun pi => match pi.desc with
    | .pointer pe => bnd (tinfo C pe) fun ei => need (u8T ei && Nat.ble n 9223372036854775807) "raw.String: bytes" (match h.bl.get a.block with
      | some (.bytes bs e fam fz) => need (Nat.beq (fz % 2) 0 && (Nat.beq e pe && Nat.ble (a.off + n) bs.length)) "raw.String"
        (ok (.string ⟨(cut bs a.off n).toArray⟩, put h a.block (.bytes bs e fam (2 * Nat.max (fz / 2) (a.off + n))) fam))
      | some (.cells cs e fam fz) => need (Nat.beq (fz % 2) 0 && (Nat.beq e pe && Nat.ble (a.off + n) cs.length)) "raw.String"
        (bnd (bytesOfCells (cut cs a.off n)) fun bs => ok (.string ⟨bs.toArray⟩, put h a.block (.cells cs e fam (2 * Nat.max (fz / 2) (a.off + n))) fam))
      | _ => er "raw.String")
    | _ => er "raw.String"

noncomputable def val (h : H) (v : Value) : R Nx := ok (.val v h)
noncomputable def valH (p : Value × H) : R Nx := ok (.val p.1 p.2)

noncomputable def aBuiltin (C : Ctx) (b : Builtin) (ats : List TypeId) (args : List Value) (h : H) : R Nx :=
  match b with
  | .len => match ats, args with | t :: _, [x] => bnd (aLen C t x h) (val h) | _, _ => er "len"
  | .cap => match ats, args with | t :: _, [x] => bnd (aCap C t x) (val h) | _, _ => er "cap"
  | .append => match ats, args with | [t, xt], [s, x] => bnd (aAppend C t xt s x h) valH | _, _ => er "append"
  | .copy => match ats, args with | t :: _, [d, x] => bnd (aCopy C t d x h) valH | _, _ => er "copy"
  | .min => match args with | x :: r => need (args.all (flat 1)) "min" <| bnd (plain (pureOf (r.foldlM Builtin.min2 x))) (val h) | _ => er "min"
  | .max => match args with | x :: r => need (args.all (flat 1)) "max" <| bnd (plain (pureOf (r.foldlM Builtin.max2 x))) (val h) | _ => er "max"
  | .recover => ok (.recover h)
  | .delete => match ats, args with | t :: _, [m, k] => bnd (aDelete C t m k h) fun h => ok (.val undef h) | _, _ => er "delete"
  | .unsafeSliceData => match args with
    | [.slice none _ _] => ok (.val (.pointer none) h)
    | [.slice (some a) n _] => match n with | 0 => er "SliceData: empty" | _ => ok (.val (.pointer (some a)) h)
    | _ => er "SliceData"
  | .unsafeString => match ats, args with
    | pt :: _, [.pointer p, .int _ (.ofNat n)] => bnd (aUnsafeString C pt p n h) valH
    | _, _ => er "raw.String"
  | _ => er "builtin"

noncomputable def evO (ng : Nat) (tm : T Value) : Option Operand → R (Option Value)
  | none => ok none
  | some x => bnd (ev ng tm x) fun v => ok (some v)

noncomputable def aFn (f : Value) (args : List Value) (h : H) : R Nx :=
  match f with
  | .func (.func g) first captured => ok (.call g (first.toList ++ (args ++ captured.toList)) h)
  | .func (.yield l) first _ => ok (.yield l (first.toList ++ args) h)
  | _ => er "call: what function"

noncomputable def aIndexAddr (C : Ctx) (t : TypeId) (x i : Value) : R Value :=
  bnd (intOf i) fun i => bnd (tinfo C t) fun ti => match ti.desc, x, i with
    | .array n e, .pointer (some a), .ofNat i => bnd (tinfo C e) fun ei => need (Nat.blt i n) "index" (ok (.pointer (some (a.add (i * ei.size)))))
    | .slice e, .slice (some a) n _, .ofNat i => bnd (tinfo C e) fun ei => need (Nat.blt i n) "index" (ok (.pointer (some (a.add (i * ei.size)))))
    | _, _, _ => er "index"
noncomputable def aIndex (C : Ctx) (t : TypeId) (x i : Value) : R Value :=
  bnd (intOf i) fun i => bnd (tinfo C t) fun ti => match ti.desc, x, i with
    | .string, .string s, .ofNat i => bnd (getO (s.data.toList[i]?) "index") fun b => ok (.int .u8 b.toNat)
    | .array n e, .agg cs, .ofNat i => bnd (tinfo C e) fun ei => need (Nat.blt i n) "index" (partOf C e cs.toList (i * ei.size))
    | _, _, _ => er "index"
noncomputable def aLookup (C : Ctx) (t : TypeId) (m k : Value) (comma : Bool) (h : H) : R Value :=
  bnd (keyDesc C t) fun kd => need (plainKey kd.1 k) "key" (bnd (match m with
      | .map none => ok ([], 0)
      | .map (some r) => mapAt h r
      | _ => er "lookup") fun ec => bnd (findK k ec.1 0) fun f => bnd (match f with
      | some (_, v) => ok (v, true)
      | none => bnd (zeroOf C kd.2) fun z => ok (z, false)) fun vb => ok (match comma with | true => .tuple #[vb.1, .bool vb.2] | false => vb.1))
noncomputable def aRange (C : Ctx) (t : TypeId) (x : Value) (h : H) : R Blk :=
  bnd (tinfo C t) fun ti => match ti.desc, x with
    | .string, .string s => ok (.iter s 0)
    | .map _ _, .map none => ok (.mapIter none 0 [] 0)
    | .map _ _, .map (some m) => bnd (mapAt h m) fun ec => ok (.mapIter (some m) ec.2 [] ec.2)
    | _, _ => er "range"
noncomputable def aNext (it : Value) (isStr : Bool) (h : H) : R Nx :=
  match it with
  | .pointer (some ⟨r, 0, none⟩) => match h.bl.get r with
    | some (.iter s pos) => match isStr with
      | false => er "next"
      | true => match Nat.blt pos s.size with
        | true => ok (.val (.tuple #[.bool true, .int .i64 pos, .int .i32 (Utf8.decode s pos).1]) (put h r (.iter s (pos + (Utf8.decode s pos).2)) r))
        | false => ok (.val (.tuple #[.bool false]) h)
    | some (.mapIter m since seen last) => match isStr, m with
      | true, _ => er "next"
      | false, none => ok (.val (.tuple #[.bool false]) h)
      | false, some m => bnd (mapAt h m) fun ec => need (seen.isEmpty || ec.1.isEmpty || !ec.1.all (fun e => decide (e.born ≥ last))) "next: all gone"
        (need ((ec.1.filter fun e => !seen.contains e.born).all fun e => decide (e.born < since)) "next: new entries" (match ec.1.filter fun e => !seen.contains e.born with
          | [] => ok (.val (.tuple #[.bool false]) h)
          | [e] => ok (.val (.tuple #[.bool true, e.key, e.val]) (put h r (.mapIter (some m) since (seen ++ [e.born]) ec.2) r))
          | _ => er "next: an order is open"))
    | _ => er "next"
  | _ => er "next"
noncomputable def aEntry (it : Value) (h : H) : R Value :=
  match it with
  | .pointer (some ⟨r, 0, none⟩) => match h.bl.get r with
    | some (.mapIter (some m) _ seen stepped) => bnd (mapAt h m) fun ec => need (Nat.beq ec.2 stepped) "entry" (bnd (getO seen.getLast? "entry") fun st =>
        bnd (getO (ec.1.find? (·.born == st)) "entry") fun e => ok (.tuple #[e.key, e.val]))
    | _ => er "entry"
  | _ => er "entry"
noncomputable def isIface : TypeDesc → Bool
  | .interface _ => true
  | _ => false
noncomputable def aAssert (C : Ctx) (asserted : TypeId) (x : Value) (comma : Bool) : R Value :=
  bnd (tinfo C asserted) fun ti => need (!isIface ti.desc) "typeAssert: interface" (match x, comma with
    | .nilIface, true => bnd (zeroOf C asserted) fun z => ok (.tuple #[z, .bool false])
    | .iface t v, comma => match Nat.beq t asserted, comma with
      | true, true => ok (.tuple #[v, .bool true])
      | true, false => ok v
      | false, true => bnd (zeroOf C asserted) fun z => ok (.tuple #[z, .bool false])
      | false, false => er "typeAssert"
    | _, _ => er "typeAssert")
noncomputable def aMakeSlice (C : Ctx) (t : TypeId) (l c : Value) (h : H) : R (Value × H) :=
  bnd (tinfo C t) fun ti => match ti.desc, l, c with
    | .slice e, .int .i64 (.ofNat l), .int .i64 (.ofNat c) => bnd (tinfo C e) fun ei => need (Nat.ble l c && small c ei.bytes) "makeslice" (match isU8 ei.desc && zeroU8 ei.zero with
      | true => ok (.slice (some (atNew h)) l (kcap c), newBytes h (List.replicate c 0) e)
      | false => ok (.slice (some (atNew h)) l (kcap c), newCells h (repeatL c ei.zero) e))
    | _, _, _ => er "makeslice"
noncomputable def aNilCheck : Value → R Value
  | .pointer (some a) => ok (.pointer (some a))
  | .func (.func f) x y => ok (.func (.func f) x y)
  | .func (.yield f) x y => ok (.func (.yield f) x y)
  | .map (some m) => ok (.map (some m))
  | _ => er "nilCheck"

noncomputable def okBuild (C : Ctx) : TypeDesc → Bool
  | .struct _ => true
  | .array _ e => match C.tt.get e with | some _ => true | none => false
  | _ => false
noncomputable def opMove (x : Operand) (C : Ctx) (tm : T Value) (h : H) : R Nx := bnd (ev C.ng tm x) (val h)
noncomputable def opPick (c a b : Operand) (C : Ctx) (tm : T Value) (h : H) : R Nx := bnd (ev C.ng tm c) fun c => bnd (boolOf c) fun c => match c with
    | true => bnd (ev C.ng tm a) (val h)
    | false => bnd (ev C.ng tm b) (val h)
noncomputable def opAlloc (e : TypeId) (C : Ctx) (_ : T Value) (h : H) : R Nx := bnd (tinfo C e) fun ti => ok (.val (.pointer (some (atNew h))) (newCells h ti.zero e))
noncomputable def opBox (e : TypeId) (x : Operand) (C : Ctx) (tm : T Value) (h : H) : R Nx := bnd (ev C.ng tm x) fun v => ok (.val (.pointer (some (atNew h))) (newCells h (vcells v) e))
noncomputable def opBuild (t : TypeId) (parts : Array (Nat × Operand)) (C : Ctx) (tm : T Value) (h : H) : R Nx :=
  bnd (tinfo C t) fun ti => need (okBuild C ti.desc) "build" (bnd (buildParts C ti tm ti.size parts.toList) fun ps => ok (.val (.agg (fillC ti.zero ps).toArray) h))
noncomputable def opBuildSlice (t : TypeId) (len : Nat) (parts : Array (Nat × Operand)) (C : Ctx) (tm : T Value) (h : H) : R Nx := bnd (tinfo C t) fun ti => match ti.desc with
    | .slice e => bnd (tinfo C e) fun ei => bnd (buildParts C ti tm (len * ei.size) parts.toList) fun ps => need (Nat.ble (len * ei.size) 16777216) "buildSlice: size"
        (ok (.val (.slice (some (atNew h)) len (kcap len)) (newCells h (fillC (repeatL len ei.zero) ps) e)))
    | _ => er "buildSlice"
noncomputable def opLoad (t : TypeId) (a : Operand) (C : Ctx) (tm : T Value) (h : H) : R Nx := bnd (ev C.ng tm a) fun a => bnd (addrOf a) fun a => bnd (tinfo C t) fun ti => bnd (loadC h a ti.size) fun cs => bnd (ofCells ti cs) (val h)
noncomputable def opStore (t : TypeId) (a x : Operand) (C : Ctx) (tm : T Value) (h : H) : R Nx :=
  bnd (ev C.ng tm a) fun a => bnd (addrOf a) fun a => bnd (ev C.ng tm x) fun x => bnd (tinfo C t) fun ti => need (Nat.beq (vcells x).length ti.size) "store: size"
      (bnd (storeC h a (vcells x)) fun h => ok (.val undef h))
noncomputable def opNilCheck (x : Operand) (C : Ctx) (tm : T Value) (h : H) : R Nx := bnd (ev C.ng tm x) fun v => bnd (aNilCheck v) (val h)
noncomputable def opBin (op : BinOp) (t : TypeId) (x y : Operand) (C : Ctx) (tm : T Value) (h : H) : R Nx := bnd (ev C.ng tm x) fun a => bnd (ev C.ng tm y) fun b => bnd (aBin C op t x y a b) (val h)
noncomputable def aUn (op : UnOp) (v : Value) : R Value := match v with
  | .int _ _ => pureOf (Op.unary op v)
  | .bool _ => pureOf (Op.unary op v)
  | _ => er "unary"
noncomputable def opUn (op : UnOp) (x : Operand) (C : Ctx) (tm : T Value) (h : H) : R Nx := bnd (ev C.ng tm x) fun v => bnd (aUn op v) (val h)
noncomputable def opConv (s d : TypeId) (x : Operand) (C : Ctx) (tm : T Value) (h : H) : R Nx := bnd (ev C.ng tm x) fun v => bnd (aConv C s d v h) valH
noncomputable def opIface (t : TypeId) (x : Operand) (C : Ctx) (tm : T Value) (h : H) : R Nx :=
  bnd (ev C.ng tm x) fun v => bnd (tinfo C t) fun ti => need (!isIface ti.desc) "makeInterface" (ok (.val (.iface t v) h))
noncomputable def opFunc (fn : Fn) (first captured : Array Operand) (C : Ctx) (tm : T Value) (h : H) : R Nx :=
  bnd (evs C.ng tm first.toList) fun f => bnd (evs C.ng tm captured.toList) fun c => match fn with
    | .func g => ok (.val (.func (.func g) f.toArray c.toArray) h)
    | _ => er "makeFunc"
noncomputable def opMap (t : TypeId) (r : Option Operand) (C : Ctx) (tm : T Value) (h : H) : R Nx := match r with
  | none => ok (.val (.map (some h.ctr)) (newB h (.map [] 0)))
  | some x => bnd (ev C.ng tm x) fun v => bnd (intOf v) fun _ => bnd (keyDesc C t) fun _ => ok (.val (.map (some h.ctr)) (newB h (.map [] 0)))
noncomputable def opMakeSlice (t : TypeId) (l c : Operand) (C : Ctx) (tm : T Value) (h : H) : R Nx := bnd (ev C.ng tm l) fun l => bnd (ev C.ng tm c) fun c => bnd (aMakeSlice C t l c h) valH
noncomputable def opSlice (t : TypeId) (x : Operand) (lo hi mx : Option Operand) (C : Ctx) (tm : T Value) (h : H) : R Nx :=
  bnd (ev C.ng tm x) fun x => bnd (evO C.ng tm lo) fun lo => bnd (evO C.ng tm hi) fun hi => bnd (evO C.ng tm mx) fun mx => bnd (aSlice C t x lo hi mx) (val h)
noncomputable def opFieldAddr (t : TypeId) (x : Operand) (f : Nat) (C : Ctx) (tm : T Value) (h : H) : R Nx :=
  bnd (ev C.ng tm x) fun x => bnd (addrOf x) fun a => bnd (fieldAt C t f) fun fd => bnd (tinfo C fd.type) fun fi => need (Nat.blt 0 fi.size) "field of no cell"
      (ok (.val (.pointer (some (a.add fd.offset))) h))
noncomputable def opField (t : TypeId) (x : Operand) (f : Nat) (C : Ctx) (tm : T Value) (h : H) : R Nx := bnd (ev C.ng tm x) fun x => match x with
    | .agg cs => bnd (fieldAt C t f) fun fd => bnd (partOf C fd.type cs.toList fd.offset) (val h)
    | _ => er "field"
noncomputable def opIndexAddr (t : TypeId) (x i : Operand) (C : Ctx) (tm : T Value) (h : H) : R Nx := bnd (ev C.ng tm x) fun x => bnd (ev C.ng tm i) fun i => bnd (aIndexAddr C t x i) (val h)
noncomputable def opIndex (t : TypeId) (x i : Operand) (C : Ctx) (tm : T Value) (h : H) : R Nx := bnd (ev C.ng tm x) fun x => bnd (ev C.ng tm i) fun i => bnd (aIndex C t x i) (val h)
noncomputable def opLookup (t : TypeId) (m k : Operand) (comma : Bool) (C : Ctx) (tm : T Value) (h : H) : R Nx := bnd (ev C.ng tm m) fun m => bnd (ev C.ng tm k) fun k => bnd (aLookup C t m k comma h) (val h)
noncomputable def opUpdate (t : TypeId) (m k x : Operand) (C : Ctx) (tm : T Value) (h : H) : R Nx := bnd (ev C.ng tm m) fun m => bnd (ev C.ng tm k) fun k => bnd (ev C.ng tm x) fun x => match m with
    | .map (some r) => bnd (aUpdate C t k x r h) fun h => ok (.val undef h)
    | _ => er "mapUpdate"
noncomputable def opRange (t : TypeId) (x : Operand) (C : Ctx) (tm : T Value) (h : H) : R Nx := bnd (ev C.ng tm x) fun x => bnd (aRange C t x h) fun b => ok (.val (.pointer (some (atNew h))) (newB h b))
noncomputable def opNext (it : Operand) (isStr : Bool) (C : Ctx) (tm : T Value) (h : H) : R Nx := bnd (ev C.ng tm it) fun it => aNext it isStr h
noncomputable def opEntry (it : Operand) (C : Ctx) (tm : T Value) (h : H) : R Nx := bnd (ev C.ng tm it) fun it => bnd (aEntry it h) (val h)
noncomputable def opAssert (x : Operand) (asserted : TypeId) (comma : Bool) (C : Ctx) (tm : T Value) (h : H) : R Nx := bnd (ev C.ng tm x) fun x => bnd (aAssert C asserted x comma) (val h)
noncomputable def opExtract (x : Operand) (i : Nat) (C : Ctx) (tm : T Value) (h : H) : R Nx := bnd (ev C.ng tm x) fun x => match x with
    | .tuple vs => bnd (getO (vs.toList[i]?) "extract") (val h)
    | _ => er "extract"
noncomputable def opCall (c : Call) (C : Ctx) (tm : T Value) (h : H) : R Nx := bnd (evs C.ng tm c.args.toList) fun args => match c.callee with
    | .builtin b => aBuiltin C b c.argTypes.toList args h
    | .value f => bnd (ev C.ng tm f) fun f => aFn f args h
    | .invoke _ _ => er "invoke"
noncomputable def opDefer (c : Call) (C : Ctx) (tm : T Value) (h : H) : R Nx := bnd (evs C.ng tm c.args.toList) fun args => match c.callee with
    | .value f => bnd (ev C.ng tm f) fun f => match f with
      | .func (.func g) first captured => ok (.defer { target := .fn (.func g) captured, args := (first.toList ++ args).toArray } h)
      | _ => er "defer"
    | _ => er "defer"
noncomputable def opPanic (x : Operand) (C : Ctx) (tm : T Value) (h : H) : R Nx := bnd (ev C.ng tm x) fun x => match x with
    | .iface _ _ => ok (.panic x h)
    | _ => er "panic"
noncomputable def opNone (_ : Ctx) (_ : T Value) (_ : H) : R Nx := er "op"

noncomputable def aOp (o : Op) : Ctx → T Value → H → R Nx :=
  match o with
  | .move x => opMove x
  | .assign x => opMove x
  | .pick c a b => opPick c a b
  | .alloc e => opAlloc e
  | .box e x => opBox e x
  | .build t parts => opBuild t parts
  | .buildSlice t len parts => opBuildSlice t len parts
  | .load t a => opLoad t a
  | .store t a x => opStore t a x
  | .nilCheck x => opNilCheck x
  | .binOp op t x y _ => opBin op t x y
  | .unOp op _ x => opUn op x
  | .convert s d x => opConv s d x
  | .makeInterface t x => opIface t x
  | .makeFunc fn first captured => opFunc fn first captured
  | .makeMap t r => opMap t r
  | .makeSlice t l c => opMakeSlice t l c
  | .slice t x lo hi mx => opSlice t x lo hi mx
  | .fieldAddr t x f => opFieldAddr t x f
  | .field t x f => opField t x f
  | .indexAddr t x i => opIndexAddr t x i
  | .index t x i => opIndex t x i
  | .lookup t m k comma => opLookup t m k comma
  | .mapUpdate t m k x => opUpdate t m k x
  | .insert t m k x => opUpdate t m k x
  | .range t x => opRange t x
  | .next it isStr => opNext it isStr
  | .entry it => opEntry it
  | .typeAssert x _ asserted comma => opAssert x asserted comma
  | .extract x i => opExtract x i
  | .call c => opCall c
  | .defer c => opDefer c
  | .panic x => opPanic x
  | _ => opNone

structure St where
  tm : T Value
  df : List Deferred
  up : Option FrameMode
  hp : H

inductive Ex where
  | normal
  | exit (id : Nat)
  | ret
  | panic (chain : List PanicEntry)

noncomputable def putT (tm : T Value) (d : Option Nat) (v : Value) : T Value := match d with | some d => tm.set d (some v) | none => tm

noncomputable def wantedA (ops : List Oper) (o : Oper) (tm : T Value) : R Bool :=
  match o.guard with
  | none => ok true
  | some (j, want) => bnd (getO (ops[j]?) "guard") fun g => bnd (getO g.dst "guard") fun d => bnd (getO (tm.get d) "guard") fun v => match v with
    | .bool b => ok (b == want)
    | _ => ok false

noncomputable def putArgs : List Value → Nat → T Value → T Value
  | [], _, t => t
  | v :: vs, i, t => putArgs vs (i + 1) (t.set i (some v))
noncomputable def initT (n : Nat) (args : List Value) : T Value := putArgs args 0 (T.mk (n.log2 + 2))
noncomputable def setP : List Nat → List Value → T Value → T Value
  | p :: ps, v :: vs, t => setP ps vs (t.set p (some v))
  | _, _, t => t

noncomputable def resultsOf (C : Ctx) (tm : T Value) (h : H) : List ResultVar → R (List Value)
  | [] => ok []
  | .tmp t :: r => bnd (getO (tm.get t) "result") fun v => bnd (resultsOf C tm h r) fun vs => ok (v :: vs)
  | .cell a t :: r => bnd (getO (tm.get a) "result") fun a => bnd (addrOf a) fun a => bnd (tinfo C t) fun ti => bnd (loadC h a ti.size) fun cs => bnd (ofCells ti cs) fun v =>
      bnd (resultsOf C tm h r) fun vs => ok (v :: vs)
noncomputable def tupled : List Value → Value
  | [v] => v
  | vs => .tuple vs.toArray

/-- what an operation does to memory, for the look at a region that draws its order: nothing; it reads some blocks; it reads, and lays; it writes; what has no place there -/
inductive Kl where | none | pass | lays | dirty | bad
noncomputable def kindOf : Op → Kl
  | .move _ => .none | .assign _ => .none | .pick .. => .none | .build .. => .none | .binOp .. => .none | .unOp .. => .none | .index .. => .none | .field .. => .none
  | .extract .. => .none | .slice .. => .none | .nilCheck _ => .none | .fieldAddr .. => .none | .indexAddr .. => .none | .makeInterface .. => .none | .makeFunc .. => .none | .typeAssert .. => .none
  | .load .. => .pass | .lookup .. => .pass
  | .convert .. => .lays
  | .alloc _ => .lays | .box .. => .lays | .buildSlice .. => .lays | .makeSlice .. => .lays | .makeMap .. => .lays | .range .. => .lays
  | .store .. => .dirty | .mapUpdate .. => .dirty | .insert .. => .dirty
  | .call c => match c.callee with
    | .builtin .len => .pass
    | .builtin .min => .none | .builtin .max => .none | .builtin .cap => .none | .builtin .unsafeSliceData => .none
    | .builtin .recover => .bad
    | .builtin _ => .dirty
    | _ => .lays
  | _ => .bad

/-- the blocks at which an operation looks, or which it changes; none: any -/
noncomputable def topBlock (tm : T Value) (x : Operand) (r : List Nat) : List Nat := tops (ev bigLow tm x) r
noncomputable def touchOf (tm : T Value) : Op → Option (List Nat)
  | .load _ a => some (topBlock tm a [])
  | .store _ a _ => some (topBlock tm a [])
  | .lookup _ m _ _ => some (topBlock tm m [])
  | .mapUpdate _ m _ _ => some (topBlock tm m [])
  | .insert _ m _ _ => some (topBlock tm m [])
  | .call c => match c.callee with
    | .builtin _ => some (c.args.toList.foldr (topBlock tm) [])
    | _ => none
  | _ => none

/-- an operation that has touched memory: its place; 0: it reads some blocks, 1: it lays, 2: it writes; the blocks -/
structure Ent where
  i : Nat
  kl : Nat
  fp : Option (List Nat)

noncomputable def bindsAny (e : Edge) : Bool := match e.ground with | .textOnly _ => false | .gcOnly _ => false | _ => true
noncomputable def reachOf (reach : List Nat) (o : Oper) : Nat :=
  o.after.toList.foldr (fun e m => match bindsAny e with | true => m ||| ((1 <<< e.on) ||| (reach.getD e.on 0)) | false => m) 0
noncomputable def edgesOk (i : Nat) (o : Oper) : Bool := o.after.toList.all fun e => match bindsAny e with | true => Nat.blt e.on i | false => true

noncomputable def apart : Option (List Nat) → Option (List Nat) → Bool
  | some a, some b => a.all fun x => b.all fun y => !Nat.beq x y
  | _, _ => false
/-- may two operations change places? x stands behind y; rx: what must be done ahead of x -/
noncomputable def pairOk (rx : Nat) (x y : Ent) : Bool :=
  match rx.testBit y.i with
  | true => true
  | false => match x.kl, y.kl with
    | 2, 0 => apart x.fp y.fp
    | 0, 2 => apart x.fp y.fp
    | 2, _ => false
    | _, 2 => false
    | _, _ => true
/-- the entries come last first -/
noncomputable def lookOk (reach : List Nat) : List Ent → Bool
  | [] => true
  | x :: r => (r.all fun y => pairOk (reach.getD x.i 0) x y) && lookOk reach r


/-! what is looked at once, of each function's code -/
noncomputable def dstIs (t : Nat) (o : Oper) : Bool := match o.dst with | some d => Nat.beq d t | none => false
noncomputable def readsT (all : List Oper) (t : Nat) (o : Oper) : Bool :=
  (o.op.operands.toList.any fun x => match x with | .tmp u => Nat.beq u t | _ => false) ||
  (match o.guard with
   | none => false
   | some (j, _) => match all[j]? with | some g => dstIs t g | none => false)
/-- may x, which stands behind y, not be done ahead of it? -/
noncomputable def confl (all : List Oper) (x y : Oper) : Bool :=
  (match y.dst with | some d => readsT all d x || dstIs d x | none => false) || (match x.dst with | some d => readsT all d y | none => false)
noncomputable def depsOk (all : List Oper) (i rx : Nat) (x : Oper) : List Oper → Nat → Bool
  | [], _ => true
  | y :: r, j => (match Nat.blt j i with | true => !confl all x y || rx.testBit j | false => true) && depsOk all i rx x r (j + 1)
noncomputable def drawOk (all : List Oper) : List Oper → Nat → List Nat → Bool
  | [], _, _ => true
  | o :: r, i, reach => edgesOk i o && (depsOk all i (reachOf reach o) o all 0 && drawOk all r (i + 1) (reach ++ [reachOf reach o]))
noncomputable def allIn (n : Nat) (l : List Nat) : Bool := (List.range n).all fun i => l.contains i
noncomputable def orderOk (ops : Array Oper) : Bool := allIn ops.size (Region.linearise .text ops 0) && (allIn ops.size (Region.linearise .gc ops 0) && allIn ops.size (Region.linearise .any ops 0))
noncomputable def dstOk (n : Nat) (o : Oper) : Bool := match o.dst with | some d => Nat.blt d n | none => true
noncomputable def codeOk (n : Nat) : Code → Bool
  | .region _ ops draw => ops.toList.all (dstOk n) && (match draw with | true => drawOk ops.toList ops.toList 0 [] && orderOk ops | false => true)
  | .seq a b => codeOk n a && codeOk n b
  | .cond _ a b => codeOk n a && codeOk n b
  | .block _ b => codeOk n b
  | .loop b => codeOk n b
  | .rangeFunc _ ps assign body => ps.toList.all (fun p => Nat.blt p n) && (codeOk n assign && codeOk n body)
  | _ => true
noncomputable def jumpOk : Option Code → Bool
  | none => true
  | some (.exit _) => true
  | some .ret => true
  | _ => false

/-- how a deferred call that has returned leaves its caller's way out -/
noncomputable def settled : FrameMode → FrameMode
  | .panicking ({ recovered := true, .. } :: older) => match older.dropWhile (!·.goexit) with | [] => .returning | rest => .panicking rest
  | m => m

noncomputable def notRun : FrameMode → Bool
  | .run => false
  | _ => true

inductive Task where
  | ex (rd : Option Nat) (c : Code) (s : St)
  | ops (rd : Option Nat) (all l : List Oper) (s : St)
  | draw (rd : Option Nat) (all l : List Oper) (i : Nat) (s : St) (reach : List Nat) (es : List Ent)
  | one (rd : Option Nat) (o : Oper) (s : St)
  | round (l : Nat) (args : List Value) (h : H)
  | call (g : Nat) (args : List Value) (h : H)
  | leave (res : List ResultVar) (tm : T Value) (ds : List Deferred) (m : FrameMode) (h : H)
inductive Out where
  | ex (e : Ex) (s : St)
  | ret (v : Value) (h : H)
  | pan (chain : List PanicEntry) (h : H)

structure Lp where
  st : LoopState
  pending : Option Code
  tm : T Value
  ps : List Nat
  assign : Code
  body : Code
  dfs : Nat
noncomputable def Lp.blk (x : Lp) : Blk := .loop x.st x.pending x.tm x.ps x.assign x.body x.dfs
noncomputable def loopAt (h : H) (l : Nat) : R Lp :=
  match h.bl.get l with
  | some (.loop a b c d e f g) => ok ⟨a, b, c, d, e, f, g⟩
  | _ => er "no loop"
noncomputable def jumpOf : Ex → R (Option Code)
  | .normal => ok none
  | .exit i => ok (some (.exit i))
  | .ret => ok (some .ret)
  | .panic _ => er "a panic in a round"
noncomputable def popUp (up : Option FrameMode) : Option (Value × FrameMode) :=
  match up with
  | some (.panicking ({ v, recovered := false, goexit := false } :: older)) => some (v, .panicking ({ v, recovered := true } :: older))
  | _ => none

abbrev Rec := Task → R Out
noncomputable def St.with (s : St) (tm : T Value) (h : H) : St := ⟨tm, s.df, s.up, h⟩
noncomputable def St.heap (s : St) (h : H) : St := ⟨s.tm, s.df, s.up, h⟩
noncomputable def H.low0 (h : H) (l : Nat) : H := ⟨h.bl, h.ctr, l⟩

noncomputable def exSkip (_ : Rec) (_ : Option Nat) (s : St) : R Out := ok (.ex .normal s)
noncomputable def exRegion (ops : Array Oper) (draw : Bool) (rec : Rec) (rd : Option Nat) (s : St) : R Out := match draw with
    | false => rec (.ops rd ops.toList ops.toList s)
    | true => rec (.draw rd ops.toList ops.toList 0 s [] [])
noncomputable def exSeq (a b : Code) (rec : Rec) (rd : Option Nat) (s : St) : R Out := bnd (rec (.ex rd a s)) fun r => match r with
    | .ex .normal s => rec (.ex rd b s)
    | r => ok r
noncomputable def exCond (c : Operand) (a b : Code) (rec : Rec) (rd : Option Nat) (s : St) : R Out := bnd (ev 0 s.tm c) fun v => bnd (boolOf v) fun t => match t with
    | true => rec (.ex rd a s)
    | false => rec (.ex rd b s)
noncomputable def exBlock (id : Nat) (b : Code) (rec : Rec) (rd : Option Nat) (s : St) : R Out := bnd (rec (.ex rd b s)) fun r => match r with
    | .ex (.exit i) s => match Nat.beq i id with
      | true => ok (.ex .normal s)
      | false => ok (.ex (.exit i) s)
    | r => ok r
noncomputable def exLoop (b : Code) (rec : Rec) (rd : Option Nat) (s : St) : R Out := bnd (rec (.ex rd b s)) fun r => match r with
    | .ex .normal s => rec (.ex rd (.loop b) s)
    | r => ok r
noncomputable def exLeave (e : Ex) (_ : Rec) (_ : Option Nat) (s : St) : R Out := ok (.ex e s)
noncomputable def rangeD (rd : Option Nat) (s : St) : R (Nat × H × List Deferred) := match rd with
      | none => ok (s.hp.ctr, newB s.hp (.defd true), ({ target := .collected s.hp.ctr, args := #[] } : Deferred) :: s.df)
      | some l => bnd (loopAt s.hp l) fun x => ok (x.dfs, s.hp, s.df)
noncomputable def endLoop (rec : Rec) (rd : Option Nat) (s : St) (l : Nat) (h : H) (df : List Deferred) : R Out :=
  bnd (loopAt h l) fun x => match x.st with
        | .busy => er "busy"
        | _ => match x.pending with
          | none => ok (.ex .normal ⟨s.tm, df, s.up, put h l { x with st := .exhausted }.blk l⟩)
          | some c => rec (.ex rd c ⟨s.tm, df, s.up, put h l { x with st := .exhausted }.blk l⟩)
noncomputable def exRange (g : Operand) (ps : Array Tmp) (assign body : Code) (rec : Rec) (rd : Option Nat) (s : St) : R Out :=
  bnd (ev 0 s.tm g) fun fv => bnd (rangeD rd s) fun d =>
    bnd (aFn fv [.func (.yield d.2.1.ctr) #[] #[]] (newB d.2.1 (Lp.blk ⟨.ready, none, s.tm, ps.toList, assign, body, d.1⟩))) fun n => match n with
    | .call g args h => bnd (rec (.call g args h)) fun r => match r with
      | .ret _ h => endLoop rec rd s d.2.1.ctr h d.2.2
      | .pan ch h => ok (.ex (.panic ch) ⟨s.tm, d.2.2, s.up, h⟩)
      | _ => er "range"
    | _ => er "range"
noncomputable def exNone (_ : Rec) (_ : Option Nat) (_ : St) : R Out := er "code"

noncomputable def goEx (c : Code) : Rec → Option Nat → St → R Out := match c with
  | .skip => exSkip
  | .label _ => exSkip
  | .region _ ops draw => exRegion ops draw
  | .seq a b => exSeq a b
  | .cond c a b => exCond c a b
  | .block id b => exBlock id b
  | .loop b => exLoop b
  | .exit id => exLeave (.exit id)
  | .ret => exLeave .ret
  | .rangeFunc g ps assign body => exRange g ps assign body
  | _ => exNone

noncomputable def nxVal (v : Value) (h : H) (_ : Rec) (_ dst : Option Nat) (s : St) : R Out := ok (.ex .normal (s.with (putT s.tm dst v) h))
noncomputable def nxDefer (d : Deferred) (h : H) (_ : Rec) (rd dst : Option Nat) (s : St) : R Out := match rd with
    | none => ok (.ex .normal ⟨putT s.tm dst undef, d :: s.df, s.up, h⟩)
    | some _ => er "defer in a round"
noncomputable def nxPanic (v : Value) (h : H) (_ : Rec) (_ _ : Option Nat) (s : St) : R Out := ok (.ex (.panic [{ v, recovered := false }]) (s.heap h))
noncomputable def nxRecover (h : H) (_ : Rec) (rd dst : Option Nat) (s : St) : R Out := match rd with
  | some _ => er "recover in a round"
  | none => match popUp s.up with
    | some vm => ok (.ex .normal ⟨putT s.tm dst vm.1, s.df, some vm.2, h⟩)
    | none => ok (.ex .normal (s.with (putT s.tm dst .nilIface) h))
noncomputable def nxCall (g : Nat) (args : List Value) (h : H) (rec : Rec) (_ dst : Option Nat) (s : St) : R Out := bnd (rec (.call g args h)) fun r => match r with
    | .ret v h => ok (.ex .normal (s.with (putT s.tm dst v) h))
    | .pan ch h => ok (.ex (.panic ch) (s.heap h))
    | _ => er "call"
noncomputable def nxYield (l : Nat) (args : List Value) (h : H) (rec : Rec) (_ dst : Option Nat) (s : St) : R Out := bnd (rec (.round l args h)) fun r => match r with
    | .ret v h => ok (.ex .normal (s.with (putT s.tm dst v) h))
    | _ => er "round"
noncomputable def goNx (n : Nx) : Rec → Option Nat → Option Nat → St → R Out := match n with
  | .val v h => nxVal v h
  | .defer d h => nxDefer d h
  | .panic v h => nxPanic v h
  | .recover h => nxRecover h
  | .call g args h => nxCall g args h
  | .yield l args h => nxYield l args h

noncomputable def stOf (j : Option Code) : LoopState := match j with | none => .ready | some _ => .done
noncomputable def goRound (rec : Rec) (l : Nat) (args : List Value) (h : H) : R Out :=
  bnd (loopAt h l) fun x => need (Nat.beq args.length x.ps.length) "yield: arity"
    (bnd (rec (.ex (some l) x.assign ⟨setP x.ps args x.tm, [], none, h⟩)) fun r => match r with
      | .ex .normal s => bnd (loopAt s.hp l) fun y => match y.st with
        | .ready => bnd (rec (.ex (some l) x.body (s.heap (put s.hp l { y with st := .busy }.blk l)))) fun r => match r with
          | .ex e s => bnd (jumpOf e) fun j => bnd (loopAt s.hp l) fun z =>
              ok (.ret (.bool j.isNone) (put s.hp l { z with st := stOf j, pending := j }.blk l))
          | _ => er "round"
        | _ => er "round: not ready"
      | _ => er "round: assign")

noncomputable def cBody (n : Nat) (res : List ResultVar) (c : Code) (rec : Rec) (args : List Value) (h : H) : R Out :=
  bnd (rec (.ex none c ⟨initT n args, [], none, h⟩)) fun r => match r with
    | .ex .normal s => rec (.leave res s.tm s.df .returning s.hp)
    | .ex .ret s => rec (.leave res s.tm s.df .returning s.hp)
    | .ex (.panic ch) s => rec (.leave res s.tm s.df (.panicking ch) s.hp)
    | _ => er "exit"
noncomputable def cCount (_ : Rec) (args : List Value) (h : H) : R Out := match args with
    | [.string s, .int .u8 c] => ok (.ret (.int .i64 (s.data.toList.foldl (fun n x => if x == UInt8.ofNat c.toNat then n + 1 else n) (0 : Nat))) h)
    | _ => er "count"
noncomputable def cIndexByte (_ : Rec) (args : List Value) (h : H) : R Out := match args with
    | [.string s, .int .u8 c] => ok (.ret (.int .i64 (match s.data.toList.findIdx? (· == UInt8.ofNat c.toNat) with | some i => (i : Int) | none => -1)) h)
    | _ => er "indexByte"
noncomputable def cSame (_ : Rec) (args : List Value) (h : H) : R Out := match args with
    | [x] => ok (.ret x h)
    | _ => er "noEscape"
noncomputable def cClone (_ : Rec) (args : List Value) (h : H) : R Out := match args with
    | [.iface t (.map (some r))] => bnd (mapAt h r) fun ec => ok (.ret (.iface t (.map (some h.ctr))) (newB h (.map ec.1 ec.2)))
    | _ => er "maps.clone"
noncomputable def cHook (g : List Value → H → R (Value × H)) (_ : Rec) (args : List Value) (h : H) : R Out := bnd (g args h) fun p => ok (.ret p.1 p.2)
noncomputable def goFE (fe : FE) : Rec → List Value → H → R Out := match fe with
  | .body n res c => cBody n res c
  | .count => cCount
  | .indexByte => cIndexByte
  | .noEscape => cSame
  | .mapsClone => cClone
  | .hook g => cHook g

noncomputable def leaveD (rec : Rec) (C : Ctx) (res : List ResultVar) (tm : T Value) (m : FrameMode) (h : H) (ds : List Deferred) (g : Nat) (args : List Value) : R Out :=
  bnd (getO (C.ft.get g) "function") fun fe => match fe with
      | .body n [] c => bnd (rec (.ex none c ⟨initT n args, [], some m, h⟩)) fun r => match r with
        | .ex .normal s => match s.df, s.up with
          | [], some m => need (notRun m) "deferred: mode" (rec (.leave res tm ds (settled m) s.hp))
          | _, _ => er "deferred"
        | .ex .ret s => match s.df, s.up with
          | [], some m => need (notRun m) "deferred: mode" (rec (.leave res tm ds (settled m) s.hp))
          | _, _ => er "deferred"
        | _ => er "deferred: panic"
      | _ => er "deferred: no body"
noncomputable def goLeave (rec : Rec) (C : Ctx) (res : List ResultVar) (tm : T Value) (m : FrameMode) (h : H) : List Deferred → R Out
  | [] => match m with
    | .returning => bnd (resultsOf C tm h res) fun vs => ok (.ret (tupled vs) h)
    | .panicking ch => ok (.pan ch h)
    | .run => er "leave"
  | d :: ds => match d.target with
    | .collected r => match h.bl.get r with
      | some (.defd true) => rec (.leave res tm ds m (put h r (.defd false) r))
      | _ => er "collected"
    | .fn (.func g) captured => leaveD rec C res tm m h ds g (d.args.toList ++ captured.toList)
    | _ => er "deferred"

noncomputable def goOps (rec : Rec) (rd : Option Nat) (all : List Oper) (s : St) : List Oper → R Out
  | [] => ok (.ex .normal s)
  | o :: r => bnd (wantedA all o s.tm) fun w => match w with
    | false => rec (.ops rd all r (s.with (putT s.tm o.dst undef) s.hp))
    | true => bnd (tagE (rec (.one rd o s)) o.pos) fun x => match x with
      | .ex .normal s => rec (.ops rd all r s)
      | x => ok x

noncomputable def entOf (i : Nat) (o : Op) (tm : T Value) (es : List Ent) (low ctr : Nat) : R (List Ent) := match kindOf o with
  | .none => ok es
  | .pass => ok (⟨i, 0, touchOf tm o⟩ :: es)
  | .lays => ok (⟨i, (match Nat.blt low ctr with | true => 2 | false => 1), none⟩ :: es)
  | .dirty => ok (⟨i, 2, touchOf tm o⟩ :: es)
  | .bad => er "an operation that has no place in a region that draws"
noncomputable def goDraw (rec : Rec) (rd : Option Nat) (all : List Oper) (i : Nat) (s : St) (reach : List Nat) (es : List Ent) : List Oper → R Out
  | [] => need (lookOk reach es) "draw: not one order" (ok (.ex .normal s))
  | o :: r => need (edgesOk i o) "draw: edges" (bnd (wantedA all o s.tm) fun w => match w with
    | false => rec (.draw rd all r (i + 1) (s.with (putT s.tm o.dst undef) s.hp) (reach ++ [reachOf reach o]) es)
    | true => bnd (tagE (rec (.one (some 0) o (s.heap (s.hp.low0 bigLow)))) o.pos) fun x => match x with
      | .ex .normal s1 => bnd (entOf i o.op s.tm es s1.hp.low s.hp.ctr) fun es => tagE (rec (.draw rd all r (i + 1) (s1.heap (s1.hp.low0 (Nat.min s.hp.low s1.hp.low))) (reach ++ [reachOf reach o]) es)) o.pos
      | _ => er "a panic in a region that draws")

noncomputable def tEx (rd : Option Nat) (c : Code) (s : St) (_ : Ctx) (rec : Rec) : R Out := goEx c rec rd s
noncomputable def tOps (rd : Option Nat) (all l : List Oper) (s : St) (_ : Ctx) (rec : Rec) : R Out := goOps rec rd all s l
noncomputable def tDraw (rd : Option Nat) (all l : List Oper) (i : Nat) (s : St) (reach : List Nat) (es : List Ent) (_ : Ctx) (rec : Rec) : R Out := goDraw rec rd all i s reach es l
noncomputable def tOne (rd : Option Nat) (o : Oper) (s : St) (C : Ctx) (rec : Rec) : R Out := bnd (aOp o.op C s.tm s.hp) fun n => goNx n rec rd o.dst s
noncomputable def tRound (l : Nat) (args : List Value) (h : H) (_ : Ctx) (rec : Rec) : R Out := goRound rec l args h
noncomputable def tCall (g : Nat) (args : List Value) (h : H) (C : Ctx) (rec : Rec) : R Out := bnd (getO (C.ft.get g) "function") fun fe => goFE fe rec args h
noncomputable def tLeave (res : List ResultVar) (tm : T Value) (ds : List Deferred) (m : FrameMode) (h : H) (C : Ctx) (rec : Rec) : R Out := goLeave rec C res tm m h ds
noncomputable def goStep (t : Task) : Ctx → Rec → R Out := match t with
  | .ex rd c s => tEx rd c s
  | .ops rd all l s => tOps rd all l s
  | .draw rd all l i s reach es => tDraw rd all l i s reach es
  | .one rd o s => tOne rd o s
  | .round l args h => tRound l args h
  | .call g args h => tCall g args h
  | .leave res tm ds m h => tLeave res tm ds m h

noncomputable def go (C : Ctx) : Nat → Rec
  | 0 => fun _ => er "fuel"
  | n + 1 => fun t => goStep t C (go C n)

end Go.Ai
namespace Go.Ai
open Go.RowKit (Below)

/-! ### the tree, 'bnd', 'need' -/
@[simp] theorem bnd_some {α β : Type} {x : R α} {f : α → R β} {y : β} : bnd x f = some y ↔ ∃ a, x = some a ∧ f a = some y := by
  cases x <;> simp [bnd]
@[simp] theorem need_some {α : Type} {b : Bool} {why : String} {k : R α} {y : α} : need b why k = some y ↔ b = true ∧ k = some y := by
  cases b <;> simp [need, er]
@[simp] theorem ok_some {α : Type} {a y : α} : (ok a : R α) = some y ↔ a = y := by simp [ok]
@[simp] theorem er_some {α : Type} {m : String} {y : α} : (er m : R α) = some y ↔ False := by simp [er]
@[simp] theorem getO_eq {α : Type} {o : Option α} {m : String} : getO o m = o := rfl
@[simp] theorem tagE_eq {α : Type} {x : R α} {m : String} : tagE x m = x := rfl

namespace T
variable {α : Type}
@[simp] theorem get_e (k : Nat) : (T.e : T α).get k = none := rfl
@[simp] theorem get_zero (v : Option α) (l r : T α) : (T.n v l r).get 0 = v := rfl
theorem get_succ (v : Option α) (l r : T α) (k : Nat) : (T.n v l r).get (k + 1) = if k % 2 = 0 then l.get (k / 2) else r.get (k / 2) := by
  show Bool.rec (motive := fun _ => Option α) (r.get (k / 2)) (l.get (k / 2)) (Nat.beq (k % 2) 0) = _
  cases h : Nat.beq (k % 2) 0
  · rw [if_neg (by intro e; rw [e] at h; cases h)]
  · rw [if_pos (Nat.eq_of_beq_eq_true h)]
@[simp] theorem set_e (k : Nat) (x : Option α) : (T.e : T α).set k x = .e := rfl
@[simp] theorem set_zero (v : Option α) (l r : T α) (x : Option α) : (T.n v l r).set 0 x = .n x l r := rfl
theorem set_succ (v : Option α) (l r : T α) (k : Nat) (x : Option α) : (T.n v l r).set (k + 1) x = if k % 2 = 0 then .n v (l.set (k / 2) x) r else .n v l (r.set (k / 2) x) := by
  show Bool.rec (motive := fun _ => T α) (.n v l (r.set (k / 2) x)) (.n v (l.set (k / 2) x) r) (Nat.beq (k % 2) 0) = _
  cases h : Nat.beq (k % 2) 0
  · rw [if_neg (by intro e; rw [e] at h; cases h)]
  · rw [if_pos (Nat.eq_of_beq_eq_true h)]
/-- what is found behind a store: what was stored, or what was there -/
theorem get_set (t : T α) : ∀ (k j : Nat) (x : Option α) (y : α), (t.set k x).get j = some y → (j = k ∧ x = some y) ∨ (j ≠ k ∧ t.get j = some y) := by
  induction t with
  | e => intro k j x y h; simp at h
  | n v l r ihl ihr =>
    intro k j x y h
    cases k with
    | zero =>
      cases j with
      | zero => exact .inl ⟨rfl, by simpa using h⟩
      | succ j => refine .inr ⟨by omega, ?_⟩; rw [set_zero, get_succ] at h; rw [get_succ]; exact h
    | succ k =>
      rw [set_succ] at h
      cases j with
      | zero => refine .inr ⟨by omega, ?_⟩; split at h <;> simpa using h
      | succ j =>
        by_cases hk : k % 2 = 0
        · rw [if_pos hk, get_succ] at h
          rw [get_succ]
          by_cases hj : j % 2 = 0
          · rw [if_pos hj] at h ⊢
            rcases ihl _ _ _ _ h with ⟨e, hx⟩ | ⟨e, hx⟩
            · exact .inl ⟨by omega, hx⟩
            · exact .inr ⟨fun e' => e (by omega), hx⟩
          · rw [if_neg hj] at h ⊢
            exact .inr ⟨by omega, h⟩
        · rw [if_neg hk, get_succ] at h
          rw [get_succ]
          by_cases hj : j % 2 = 0
          · rw [if_pos hj] at h ⊢
            exact .inr ⟨by omega, h⟩
          · rw [if_neg hj] at h ⊢
            rcases ihr _ _ _ _ h with ⟨e, hx⟩ | ⟨e, hx⟩
            · exact .inl ⟨by omega, hx⟩
            · exact .inr ⟨fun e' => e (by omega), hx⟩
theorem get_set_ne (t : T α) {k j : Nat} (x : Option α) (h : j ≠ k) : (t.set k x).get j = t.get j := by
  induction t generalizing k j with
  | e => simp
  | n v l r ihl ihr =>
    cases k with
    | zero => cases j with
      | zero => exact absurd rfl h
      | succ j => rw [set_zero, get_succ, get_succ]
    | succ k =>
      rw [set_succ]
      cases j with
      | zero => split <;> simp
      | succ j =>
        by_cases hk : k % 2 = 0
        · rw [if_pos hk, get_succ, get_succ]
          by_cases hj : j % 2 = 0
          · rw [if_pos hj, if_pos hj, ihl (by omega)]
          · rw [if_neg hj, if_neg hj]
        · rw [if_neg hk, get_succ, get_succ]
          by_cases hj : j % 2 = 0
          · rw [if_pos hj, if_pos hj]
          · rw [if_neg hj, if_neg hj, ihr (by omega)]
end T

/-! ### places, values -/
structure Pl where
  blk : Nat
  off : Nat
  n : Nat
abbrev Mp := Nat → Option Pl
def Mp.le (ρ ρ' : Mp) : Prop := ∀ b p, ρ b = some p → ρ' b = some p
theorem Mp.le_refl (ρ : Mp) : ρ.le ρ := fun _ _ h => h
theorem Mp.le_trans {a b c : Mp} (h : a.le b) (k : b.le c) : a.le c := fun x p hx => k x p (h x p hx)

def CapOk (p : Pl) (o c cap : Nat) : Prop := c = kcap cap ∨ ∃ sz, c = ucap sz ∧ p.off + o + cap * sz ≤ p.n

mutual
inductive VR (ρ : Mp) : Value → Value → Prop
  | bool (b : Bool) : VR ρ (.bool b) (.bool b)
  | int (k : IntKind) (n : Int) : VR ρ (.int k n) (.int k n)
  | float (k : FloatKind) (n : Nat) : VR ρ (.float k n) (.float k n)
  | complex (k : FloatKind) (a b : Nat) : VR ρ (.complex k a b) (.complex k a b)
  | string (s : ByteArray) : VR ρ (.string s) (.string s)
  | nilPtr : VR ρ (.pointer none) (.pointer none)
  | ptr {b o : Nat} {p : Pl} (h : ρ b = some p) : VR ρ (.pointer (some ⟨b, o, none⟩)) (.pointer (some ⟨p.blk, p.off + o, none⟩))
  | nilSl : VR ρ (.slice none 0 0) (.slice none 0 0)
  | sl {b o len c cap : Nat} {a : Addr} {p : Pl} (h : ρ b = some p) (hl : len ≤ cap) (hc : CapOk p o c cap) (ha : cap = 0 ∨ a = ⟨p.blk, p.off + o, none⟩) : VR ρ (.slice (some ⟨b, o, none⟩) len c) (.slice (some a) len cap)
  | nilMap : VR ρ (.map none) (.map none)
  | map {r : Nat} {p : Pl} (h : ρ r = some p) : VR ρ (.map (some r)) (.map (some p.blk))
  | nilChan : VR ρ (.chan none) (.chan none)
  | func (f : FuncId) {xs ys xs' ys' : List Value} (hx : VRs ρ xs xs') (hy : VRs ρ ys ys') : VR ρ (.func (.func f) ⟨xs⟩ ⟨ys⟩) (.func (.func f) ⟨xs'⟩ ⟨ys'⟩)
  | yield {l : Nat} {p : Pl} (h : ρ l = some p) : VR ρ (.func (.yield l) ⟨[]⟩ ⟨[]⟩) (.func (.yield p.blk) ⟨[]⟩ ⟨[]⟩)
  | nilFunc : VR ρ .nilFunc .nilFunc
  | nilIface : VR ρ .nilIface .nilIface
  | iface (t : TypeId) {v v' : Value} (h : VR ρ v v') : VR ρ (.iface t v) (.iface t v')
  | agg {xs xs' : List Value} (h : VRs ρ xs xs') : VR ρ (.agg ⟨xs⟩) (.agg ⟨xs'⟩)
  | tuple {xs xs' : List Value} (h : VRs ρ xs xs') : VR ρ (.tuple ⟨xs⟩) (.tuple ⟨xs'⟩)
inductive VRs (ρ : Mp) : List Value → List Value → Prop
  | nil : VRs ρ [] []
  | cons {v v' : Value} {xs xs' : List Value} (h : VR ρ v v') (hs : VRs ρ xs xs') : VRs ρ (v :: xs) (v' :: xs')
end

mutual
theorem VR.mono {ρ ρ' : Mp} (hle : ρ.le ρ') : ∀ {v v' : Value}, VR ρ v v' → VR ρ' v v'
  | _, _, .bool b => .bool b
  | _, _, .int k n => .int k n
  | _, _, .float k n => .float k n
  | _, _, .complex k a b => .complex k a b
  | _, _, .string s => .string s
  | _, _, .nilPtr => .nilPtr
  | _, _, .ptr h => .ptr (hle _ _ h)
  | _, _, .nilSl => .nilSl
  | _, _, .sl h hl hc ha => .sl (hle _ _ h) hl hc ha
  | _, _, .nilMap => .nilMap
  | _, _, .map h => .map (hle _ _ h)
  | _, _, .nilChan => .nilChan
  | _, _, .func f hx hy => .func f (VRs.mono hle hx) (VRs.mono hle hy)
  | _, _, .yield h => .yield (hle _ _ h)
  | _, _, .nilFunc => .nilFunc
  | _, _, .nilIface => .nilIface
  | _, _, .iface t h => .iface t (VR.mono hle h)
  | _, _, .agg h => .agg (VRs.mono hle h)
  | _, _, .tuple h => .tuple (VRs.mono hle h)
theorem VRs.mono {ρ ρ' : Mp} (hle : ρ.le ρ') : ∀ {xs xs' : List Value}, VRs ρ xs xs' → VRs ρ' xs xs'
  | _, _, .nil => .nil
  | _, _, .cons h hs => .cons (VR.mono hle h) (VRs.mono hle hs)
end

namespace VRs
variable {ρ : Mp}
theorem length {xs ys : List Value} (h : VRs ρ xs ys) : xs.length = ys.length := by
  induction xs generalizing ys with
  | nil => cases h; rfl
  | cons x xs ih => cases h with | cons h hs => simp [ih hs]
theorem get {xs ys : List Value} (h : VRs ρ xs ys) : ∀ {j : Nat} {v : Value}, xs[j]? = some v → ∃ v', ys[j]? = some v' ∧ VR ρ v v' := by
  induction xs generalizing ys with
  | nil => intro j v hv; simp at hv
  | cons x xs ih =>
    cases h with
    | cons h hs =>
      intro j v hv
      cases j with
      | zero => simp at hv; subst hv; exact ⟨_, rfl, h⟩
      | succ j => simp at hv; obtain ⟨v', h1, h2⟩ := ih hs hv; exact ⟨v', by simpa using h1, h2⟩
theorem append {xs ys xs' ys' : List Value} (h : VRs ρ xs ys) (h' : VRs ρ xs' ys') : VRs ρ (xs ++ xs') (ys ++ ys') := by
  induction xs generalizing ys with
  | nil => cases h; exact h'
  | cons x xs ih => cases h with | cons h hs => exact .cons h (ih hs)
theorem take {xs ys : List Value} (h : VRs ρ xs ys) : ∀ n, VRs ρ (xs.take n) (ys.take n) := by
  induction xs generalizing ys with
  | nil => cases h; intro n; simp; exact .nil
  | cons x xs ih => cases h with
    | cons h hs => intro n; cases n with
      | zero => exact .nil
      | succ n => exact .cons h (ih hs n)
theorem drop {xs ys : List Value} (h : VRs ρ xs ys) : ∀ n, VRs ρ (xs.drop n) (ys.drop n) := by
  induction xs generalizing ys with
  | nil => cases h; intro n; simp; exact .nil
  | cons x xs ih => cases h with
    | cons h hs => intro n; cases n with
      | zero => exact .cons h hs
      | succ n => exact ih hs n
theorem cut {xs ys : List Value} (h : VRs ρ xs ys) (off n : Nat) : VRs ρ (Ai.cut xs off n) (Ai.cut ys off n) := (h.drop off).take n
/-- from the elements -/
theorem of_get {xs ys : List Value} (hl : xs.length = ys.length) (h : ∀ (j : Nat) (v : Value), xs[j]? = some v → ∃ v', ys[j]? = some v' ∧ VR ρ v v') : VRs ρ xs ys := by
  induction xs generalizing ys with
  | nil => cases ys with | nil => exact .nil | cons => simp at hl
  | cons x xs ih => cases ys with
    | nil => simp at hl
    | cons y ys =>
      obtain ⟨v', h1, h2⟩ := h 0 x rfl
      simp at h1; subst h1
      exact .cons h2 (ih (by simpa using hl) fun j v hv => by simpa using h (j + 1) v (by simpa using hv))
end VRs

theorem VR.vcells {ρ : Mp} {v v' : Value} (h : VR ρ v v') : VRs ρ (vcells v) v'.cells.toList := by
  cases h with
  | agg h => exact h
  | bool b => exact .cons (.bool b) .nil
  | int k n => exact .cons (.int k n) .nil
  | float k n => exact .cons (.float k n) .nil
  | complex k a b => exact .cons (.complex k a b) .nil
  | string s => exact .cons (.string s) .nil
  | nilPtr => exact .cons .nilPtr .nil
  | ptr h => exact .cons (.ptr h) .nil
  | nilSl => exact .cons .nilSl .nil
  | sl h hl hc ha => exact .cons (.sl h hl hc ha) .nil
  | nilMap => exact .cons .nilMap .nil
  | map h => exact .cons (.map h) .nil
  | nilChan => exact .cons .nilChan .nil
  | func f hx hy => exact .cons (.func f hx hy) .nil
  | yield h => exact .cons (.yield h) .nil
  | nilFunc => exact .cons .nilFunc .nil
  | nilIface => exact .cons .nilIface .nil
  | iface t h => exact .cons (.iface t h) .nil
  | tuple h => exact .cons (.tuple h) .nil

theorem VR.oneC {ρ : Mp} {v v' : Value} (h : VR ρ v v') (h1 : oneC v = true) : v'.oneCell' = true := by
  cases h <;> first | rfl | (simp [Ai.oneC] at h1)

section inv
variable {ρ : Mp} {y : Value}
theorem VR.int_inv {k : IntKind} {n : Int} (h : VR ρ (.int k n) y) : y = .int k n := by cases h; rfl
theorem VR.bool_inv {b : Bool} (h : VR ρ (.bool b) y) : y = .bool b := by cases h; rfl
theorem VR.string_inv {s : ByteArray} (h : VR ρ (.string s) y) : y = .string s := by cases h; rfl
theorem VR.nilPtr_inv (h : VR ρ (.pointer none) y) : y = .pointer none := by cases h; rfl
theorem VR.ptr_inv {a : Addr} (h : VR ρ (.pointer (some a)) y) : ∃ b o p, a = ⟨b, o, none⟩ ∧ ρ b = some p ∧ y = .pointer (some ⟨p.blk, p.off + o, none⟩) := by
  cases h with | ptr h => exact ⟨_, _, _, rfl, h, rfl⟩
theorem VR.nilSl_inv {n c : Nat} (h : VR ρ (.slice none n c) y) : n = 0 ∧ c = 0 ∧ y = .slice none 0 0 := by cases h; exact ⟨rfl, rfl, rfl⟩
theorem VR.sl_inv {a : Addr} {n c : Nat} (h : VR ρ (.slice (some a) n c) y) : ∃ b o p a' cap, a = ⟨b, o, none⟩ ∧ ρ b = some p ∧ y = .slice (some a') n cap ∧ n ≤ cap ∧ CapOk p o c cap ∧ (cap = 0 ∨ a' = ⟨p.blk, p.off + o, none⟩) := by
  cases h with | sl h hl hc ha => exact ⟨_, _, _, _, _, rfl, h, rfl, hl, hc, ha⟩
theorem VR.nilMap_inv (h : VR ρ (.map none) y) : y = .map none := by cases h; rfl
theorem VR.map_inv {r : Nat} (h : VR ρ (.map (some r)) y) : ∃ p, ρ r = some p ∧ y = .map (some p.blk) := by cases h with | map h => exact ⟨_, h, rfl⟩
theorem VR.nilFunc_inv (h : VR ρ .nilFunc y) : y = .nilFunc := by cases h; rfl
theorem VR.nilIface_inv (h : VR ρ .nilIface y) : y = .nilIface := by cases h; rfl
theorem VR.iface_inv {t : TypeId} {v : Value} (h : VR ρ (.iface t v) y) : ∃ v', y = .iface t v' ∧ VR ρ v v' := by cases h with | iface _ h => exact ⟨_, rfl, h⟩
theorem VR.agg_inv {cs : Array Value} (h : VR ρ (.agg cs) y) : ∃ cs' : Array Value, y = .agg cs' ∧ VRs ρ cs.toList cs'.toList := by cases h with | agg h => exact ⟨_, rfl, h⟩
theorem VR.tuple_inv {cs : Array Value} (h : VR ρ (.tuple cs) y) : ∃ cs' : Array Value, y = .tuple cs' ∧ VRs ρ cs.toList cs'.toList := by cases h with | tuple h => exact ⟨_, rfl, h⟩
theorem VR.func_inv {f : FuncId} {xs ys : Array Value} (h : VR ρ (.func (.func f) xs ys) y) : ∃ xs' ys' : Array Value, y = .func (.func f) xs' ys' ∧ VRs ρ xs.toList xs'.toList ∧ VRs ρ ys.toList ys'.toList := by
  cases h with | func _ hx hy => exact ⟨_, _, rfl, hx, hy⟩
theorem VR.yield_inv {l : Nat} {xs ys : Array Value} (h : VR ρ (.func (.yield l) xs ys) y) : ∃ p, ρ l = some p ∧ xs = #[] ∧ y = .func (.yield p.blk) #[] #[] := by
  cases h with | yield h => exact ⟨_, h, rfl, rfl⟩
end inv

/-- a flat value is related with itself -/
theorem flat_VR (ρ : Mp) : ∀ (d : Nat) (v : Value), flat d v = true → VR ρ v v := by
  intro d
  induction d with
  | zero => intro v h; simp [flat] at h
  | succ d ih =>
    have all : ∀ vs : List Value, vs.all (flat d) = true → VRs ρ vs vs := by
      intro vs
      induction vs with
      | nil => intro _; exact .nil
      | cons x xs ihx => intro h; simp at h; exact .cons (ih _ h.1) (ihx (by simpa using h.2))
    intro v h
    unfold flat at h
    split at h <;> first
      | exact .bool _ | exact .int _ _ | exact .float _ _ | exact .complex _ _ _ | exact .string _ | exact .nilPtr | exact .nilSl | exact .nilMap | exact .nilChan | exact .nilFunc | exact .nilIface
      | exact .iface _ (ih _ h)
      | exact .agg (all _ h)
      | exact .tuple (all _ h)
      | cases h

/-! ### memory -/
inductive OptR (ρ : Mp) : Option Nat → Option Nat → Prop
  | none : OptR ρ none none
  | some {m : Nat} {p : Pl} (h : ρ m = some p) : OptR ρ (some m) (some p.blk)
theorem OptR.mono {ρ ρ' : Mp} (hle : ρ.le ρ') {a b : Option Nat} (h : OptR ρ a b) : OptR ρ' a b := by
  cases h with
  | none => exact .none
  | some h => exact .some (hle _ _ h)

inductive EnsR (ρ : Mp) : List MapEntry → List MapEntry → Prop
  | nil : EnsR ρ [] []
  | cons {k v v' : Value} {n : Nat} {es es' : List MapEntry} (h : VR ρ v v') (hk : VR ρ k k) (hs : EnsR ρ es es') : EnsR ρ ({ key := k, val := v, born := n } :: es) ({ key := k, val := v', born := n } :: es')
theorem EnsR.mono {ρ ρ' : Mp} (hle : ρ.le ρ') {a b : List MapEntry} (h : EnsR ρ a b) : EnsR ρ' a b := by
  induction h with
  | nil => exact .nil
  | cons h hk _ ih => exact .cons (h.mono hle) (hk.mono hle) ih

def TmR (ρ : Mp) (tm : T Value) (tmps : Array Value) : Prop := ∀ i v, tm.get i = some v → ∃ v', tmps[i]? = some v' ∧ VR ρ v v'
theorem TmR.mono {ρ ρ' : Mp} (hle : ρ.le ρ') {tm : T Value} {tmps : Array Value} (h : TmR ρ tm tmps) : TmR ρ' tm tmps :=
  fun i v hv => let ⟨v', h1, h2⟩ := h i v hv; ⟨v', h1, h2.mono hle⟩

def FrOk (p : Pl) (fz : Nat) (fr : Nat × Nat) : Prop := fr.2 ≤ p.off + fz / 2 ∨ (fz % 2 = 1 ∧ p.n ≤ fr.1)
inductive BR (ρ : Mp) (w : World) (p : Pl) : Blk → Prop
  | cells {cs : List Value} {e : TypeId} {fam fz : Nat} {arr : Array Value} {fr : Nat × Nat} (hw : w.heap[p.blk]? = some (.cells arr e fr)) (hn : arr.size = p.n) (hl : p.off + cs.length ≤ p.n)
      (hc : ∀ j v, cs[j]? = some v → ∃ v', arr[p.off + j]? = some v' ∧ VR ρ v v') (hf : FrOk p fz fr) : BR ρ w p (.cells cs e fam fz)
  | bytes {bs : List UInt8} {e : TypeId} {fam fz : Nat} {arr : Array Value} {fr : Nat × Nat} (hw : w.heap[p.blk]? = some (.cells arr e fr)) (hn : arr.size = p.n) (hl : p.off + bs.length ≤ p.n)
      (hc : ∀ j b, bs[j]? = some b → arr[p.off + j]? = some (byteV b)) (hf : FrOk p fz fr) : BR ρ w p (.bytes bs e fam fz)
  | map {es es' : List MapEntry} {clock : Nat} (hw : w.heap[p.blk]? = some (.map ⟨es'⟩ clock)) (he : EnsR ρ es es') : BR ρ w p (.map es clock)
  | iter {s : ByteArray} {pos : Nat} (hw : w.heap[p.blk]? = some (.stringIter s pos)) (ho : p.off = 0) : BR ρ w p (.iter s pos)
  | mapIter {m m' : Option Nat} {since stepped : Nat} {seen : List Nat} (hw : w.heap[p.blk]? = some (.mapIter m' since ⟨seen⟩ stepped)) (ho : p.off = 0) (hm : OptR ρ m m') : BR ρ w p (.mapIter m since seen stepped)
  | loop {st : LoopState} {pending : Option Code} {tm : T Value} {ps : List Nat} {assign body : Code} {dfs : Nat} {fn : FuncId} {tmps : Array Value} {pd : Pl}
      (hw : w.heap[p.blk]? = some (.loop { state := st, pending, fn, tmps, params := ⟨ps⟩, assign, body, defers := pd.blk })) (ht : TmR ρ tm tmps) (hd : ρ dfs = some pd)
      (hk : jumpOk pending = true ∧ (∀ q ∈ ps, q < tmps.size) ∧ codeOk tmps.size assign = true ∧ codeOk tmps.size body = true) : BR ρ w p (.loop st pending tm ps assign body dfs)
  | defd {opn : Bool} (hw : w.heap[p.blk]? = some (.deferred (if opn then some [] else none))) : BR ρ w p (.defd opn)

theorem BR.mono {ρ ρ' : Mp} (hle : ρ.le ρ') {w w' : World} {p : Pl} {x : Blk} (h : BR ρ w p x) (hw' : w'.heap[p.blk]? = w.heap[p.blk]?) : BR ρ' w' p x := by
  cases h with
  | cells hw hn hl hc hf => exact .cells (hw'.trans hw) hn hl (fun j v hv => let ⟨v', h1, h2⟩ := hc j v hv; ⟨v', h1, h2.mono hle⟩) hf
  | bytes hw hn hl hc hf => exact .bytes (hw'.trans hw) hn hl hc hf
  | map hw he => exact .map (hw'.trans hw) (he.mono hle)
  | iter hw ho => exact .iter (hw'.trans hw) ho
  | mapIter hw ho hm => exact .mapIter (hw'.trans hw) ho (hm.mono hle)
  | loop hw ht hd hk => exact .loop (hw'.trans hw) (ht.mono hle) (hle _ _ hd) hk
  | defd hw => exact .defd (hw'.trans hw)
theorem BR.lt {ρ : Mp} {w : World} {p : Pl} {x : Blk} (h : BR ρ w p x) : p.blk < w.heap.size := by
  have : ∃ o, w.heap[p.blk]? = some o := by cases h <;> exact ⟨_, by assumption⟩
  obtain ⟨o, ho⟩ := this
  exact (Array.getElem?_eq_some_iff.1 ho).1

def famOf (b : Nat) : Blk → Nat
  | .cells _ _ fam _ => fam
  | .bytes _ _ fam _ => fam
  | _ => b

structure HR (ρ : Mp) (h : H) (w : World) : Prop where
  dom : ∀ b p, ρ b = some p → b < h.ctr ∧ p.blk < w.heap.size
  big : ∀ b x, h.bl.get b = some x → b < h.ctr
  con : ∀ b x p, h.bl.get b = some x → ρ b = some p → BR ρ w p x
  inj : ∀ b b' x x' p p', h.bl.get b = some x → h.bl.get b' = some x' → ρ b = some p → ρ b' = some p' → p.blk = p'.blk → b = b'
  fam : ∀ b x, h.bl.get b = some x → famOf b x ≤ b
  own : ∀ b x p, h.bl.get b = some x → ρ b = some p → famOf b x = b → p.off = 0

/-- from one state of memory to a later one -/
structure Ext (ρ : Mp) (h : H) (w : World) (ρ' : Mp) (h' : H) (w' : World) : Prop where
  le : ρ.le ρ'
  ctr : h.ctr ≤ h'.ctr
  low : h'.low ≤ h.low
  os : w'.os = w.os
  tape : w'.tape = w.tape
  output : w'.output = w.output
  size : w.heap.size ≤ w'.heap.size
  new : ∀ b p, ρ' b = some p → ρ b = some p ∨ h.ctr ≤ b
  keep : ∀ k, k < w.heap.size → (∀ b x p, h.bl.get b = some x → ρ b = some p → p.blk = k → famOf b x < h'.low) → w'.heap[k]? = w.heap[k]?
  back : ∀ b' x' p', h'.bl.get b' = some x' → ρ' b' = some p' → p'.blk < w.heap.size → ∃ b x p, h.bl.get b = some x ∧ ρ b = some p ∧ p.blk = p'.blk ∧ famOf b x = famOf b' x'
  abs : ∀ b, b < h.ctr → (∀ x, h.bl.get b = some x → famOf b x < h'.low) → h'.bl.get b = h.bl.get b
  full : ∀ b x, h'.bl.get b = some x → h.ctr ≤ b → b < h'.ctr → ∃ p, ρ' b = some p

theorem Ext.refl (ρ : Mp) (h : H) (w : World) : Ext ρ h w ρ h w :=
  ⟨Mp.le_refl _, Nat.le_refl _, Nat.le_refl _, rfl, rfl, rfl, Nat.le_refl _, fun _ _ h => .inl h, fun _ _ _ => rfl, fun b x p h1 h2 _ => ⟨b, x, p, h1, h2, rfl, rfl⟩, fun _ _ _ => rfl, fun _ _ _ h1 h2 => absurd h2 (Nat.not_lt.2 h1)⟩

theorem Ext.trans {ρ ρ1 ρ2 : Mp} {h h1 h2 : H} {w w1 w2 : World} (a : Ext ρ h w ρ1 h1 w1) (b : Ext ρ1 h1 w1 ρ2 h2 w2) : Ext ρ h w ρ2 h2 w2 where
  le := Mp.le_trans a.le b.le
  ctr := Nat.le_trans a.ctr b.ctr
  low := Nat.le_trans b.low a.low
  os := b.os.trans a.os
  tape := b.tape.trans a.tape
  output := b.output.trans a.output
  size := Nat.le_trans a.size b.size
  new := fun x p hx => (b.new x p hx).elim (fun hx => (a.new x p hx).elim .inl .inr) (fun hx => .inr (Nat.le_trans a.ctr hx))
  keep := fun k hk hf => by
    rw [b.keep k (Nat.lt_of_lt_of_le hk a.size) ?_, a.keep k hk fun b' x p h1 h2 h3 => Nat.lt_of_lt_of_le (hf b' x p h1 h2 h3) b.low]
    intro b' x' p' h1 h2 h3
    obtain ⟨b0, x0, p0, g1, g2, g3, g4⟩ := a.back b' x' p' h1 h2 (h3 ▸ hk)
    rw [← g4]
    exact hf b0 x0 p0 g1 g2 (g3.trans h3)
  back := fun b' x' p' h1 h2 h3 => by
    obtain ⟨b1, x1, p1, g1, g2, g3, g4⟩ := b.back b' x' p' h1 h2 (Nat.lt_of_lt_of_le h3 a.size)
    obtain ⟨b0, x0, p0, k1, k2, k3, k4⟩ := a.back b1 x1 p1 g1 g2 (g3 ▸ h3)
    exact ⟨b0, x0, p0, k1, k2, k3.trans g3, k4.trans g4⟩
  abs := fun c hc hf => by
    have e1 := a.abs c hc fun x hx => Nat.lt_of_lt_of_le (hf x hx) b.low
    rw [b.abs c (Nat.lt_of_lt_of_le hc a.ctr) fun x hx => hf x (e1 ▸ hx), e1]
  full := fun c x hx h1c h2c => by
    by_cases hlt : c < h1.ctr
    · cases hg : h1.bl.get c with
      | some y => obtain ⟨p, hp⟩ := a.full c y hg h1c hlt; exact ⟨p, b.le _ _ hp⟩
      | none =>
        have := b.abs c hlt fun x hx => by rw [hg] at hx; cases hx
        rw [this, hg] at hx; cases hx
    · exact b.full c x hx (Nat.le_of_not_lt hlt) h2c

/-- nothing was there: all that was in the world lies as it lay -/
theorem Ext.below {ρ : Mp} {h : H} {w : World} {ρ' : Mp} {h' : H} {w' : World} (e : Ext ρ h w ρ' h' w') (hn : ∀ b x p, h.bl.get b = some x → ρ b = some p → famOf b x < h'.low) : Below w.heap.size w w' :=
  ⟨e.os, e.tape, e.output, e.size, fun k hk => e.keep k hk fun b x p h1 h2 _ => hn b x p h1 h2⟩

/-- only what no memory is -/
theorem HR.world {ρ : Mp} {h : H} {w w' : World} (r : HR ρ h w) (hh : w'.heap = w.heap) : HR ρ h w' :=
  ⟨fun b p hb => by rw [hh]; exact r.dom b p hb, r.big, fun b x p h1 h2 => (r.con b x p h1 h2).mono (Mp.le_refl _) (by rw [hh]), r.inj, r.fam, r.own⟩
theorem Ext.world {ρ : Mp} {h : H} {w w' : World} (hh : w'.heap = w.heap) (ho : w'.os = w.os) (ht : w'.tape = w.tape) (hu : w'.output = w.output) : Ext ρ h w ρ h w' :=
  ⟨Mp.le_refl _, Nat.le_refl _, Nat.le_refl _, ho, ht, hu, by rw [hh]; exact Nat.le_refl _, fun _ _ h => .inl h, fun _ _ _ => by rw [hh], fun b x p h1 h2 _ => ⟨b, x, p, h1, h2, rfl, rfl⟩, fun _ _ _ => rfl, fun _ _ _ h1 h2 => absurd h2 (Nat.not_lt.2 h1)⟩

/-! ### a new block -/
def Mp.put (ρ : Mp) (b : Nat) (p : Pl) : Mp := fun x => if x = b then some p else ρ x
theorem Mp.le_put {ρ : Mp} {b : Nat} {p : Pl} (h : ρ b = none) : ρ.le (ρ.put b p) := fun x q hx => by
  unfold Mp.put; split
  · rename_i e; rw [e, h] at hx; cases hx
  · exact hx
theorem HR.none_ctr {ρ : Mp} {h : H} {w : World} (r : HR ρ h w) : ρ h.ctr = none := by
  cases hc : ρ h.ctr with
  | none => rfl
  | some p => exact absurd (r.dom _ _ hc).1 (Nat.lt_irrefl _)

theorem newB_ok {ρ : Mp} {h : H} {w : World} (r : HR ρ h w) (x : Blk) (o : Obj) (n : Nat) (hx : famOf h.ctr x ≤ h.ctr)
    (hb : BR (ρ.put h.ctr ⟨w.heap.size, 0, n⟩) (w.alloc o) ⟨w.heap.size, 0, n⟩ x) :
    HR (ρ.put h.ctr ⟨w.heap.size, 0, n⟩) (newB h x) (w.alloc o) ∧ Ext ρ h w (ρ.put h.ctr ⟨w.heap.size, 0, n⟩) (newB h x) (w.alloc o) := by
  have hle := Mp.le_put (p := ⟨w.heap.size, 0, n⟩) r.none_ctr
  have hg : ∀ b y, (newB h x).bl.get b = some y → (b = h.ctr ∧ x = y) ∨ (b ≠ h.ctr ∧ h.bl.get b = some y) := by
    intro b y hy
    rcases T.get_set _ _ _ _ _ hy with ⟨e, e'⟩ | ⟨e, e'⟩
    · exact .inl ⟨e, by cases e'; rfl⟩
    · exact .inr ⟨e, e'⟩
  have hp : ∀ b p, ρ.put h.ctr ⟨w.heap.size, 0, n⟩ b = some p → (b = h.ctr ∧ p = ⟨w.heap.size, 0, n⟩) ∨ (b ≠ h.ctr ∧ ρ b = some p) := by
    intro b p hb
    unfold Mp.put at hb
    split at hb
    · rename_i e; cases hb; exact .inl ⟨e, rfl⟩
    · rename_i e; exact .inr ⟨e, hb⟩
  have hold : ∀ k, k < w.heap.size → (w.alloc o).heap[k]? = w.heap[k]? := by
    intro k hk; exact Below.heap_alloc w o k hk
  have hsz : (w.alloc o).heap.size = w.heap.size + 1 := by simp
  refine ⟨⟨?_, ?_, ?_, ?_, ?_, ?_⟩, ⟨hle, ?_, Nat.le_refl _, rfl, rfl, rfl, ?_, ?_, ?_, ?_, ?_, ?_⟩⟩
  · intro b p hb'
    rcases hp b p hb' with ⟨rfl, rfl⟩ | ⟨_, h1⟩
    · exact ⟨Nat.lt_succ_self _, by rw [hsz]; exact Nat.lt_succ_self _⟩
    · have := r.dom _ _ h1; exact ⟨Nat.lt_succ_of_lt this.1, by rw [hsz]; omega⟩
  · intro b y hy
    rcases hg b y hy with ⟨rfl, rfl⟩ | ⟨_, h1⟩
    · exact Nat.lt_succ_self _
    · exact Nat.lt_succ_of_lt (r.big _ _ h1)
  · intro b y p hy hb'
    rcases hg b y hy with ⟨rfl, rfl⟩ | ⟨hne, h1⟩
    · rcases hp _ p hb' with ⟨_, rfl⟩ | ⟨h2, _⟩
      · exact hb
      · exact absurd rfl h2
    · rcases hp _ p hb' with ⟨h2, _⟩ | ⟨_, h2⟩
      · exact absurd h2 hne
      · exact (r.con _ _ _ h1 h2).mono hle (hold _ (r.dom _ _ h2).2)
  · intro b b' y y' p p' hy hy' hb1 hb2 he
    rcases hp b p hb1 with ⟨rfl, rfl⟩ | ⟨n1, h1⟩ <;> rcases hp b' p' hb2 with ⟨rfl, rfl⟩ | ⟨n2, h2⟩
    · rfl
    · have := (r.dom _ _ h2).2; simp at he; omega
    · have := (r.dom _ _ h1).2; simp at he; omega
    · rcases hg b y hy with ⟨e, _⟩ | ⟨_, g1⟩
      · exact absurd e n1
      · rcases hg b' y' hy' with ⟨e, _⟩ | ⟨_, g2⟩
        · exact absurd e n2
        · exact r.inj _ _ _ _ _ _ g1 g2 h1 h2 he
  · intro b y hy
    rcases hg b y hy with ⟨rfl, rfl⟩ | ⟨_, h1⟩
    · exact hx
    · exact r.fam _ _ h1
  · intro b y p hy hb' hfa
    rcases hg b y hy with ⟨rfl, rfl⟩ | ⟨hne, h1⟩
    · rcases hp _ p hb' with ⟨_, rfl⟩ | ⟨h2, _⟩
      · rfl
      · exact absurd rfl h2
    · rcases hp _ p hb' with ⟨h2, _⟩ | ⟨_, h2⟩
      · exact absurd h2 hne
      · exact r.own _ _ _ h1 h2 hfa
  · exact Nat.le_succ _
  · rw [hsz]; omega
  · intro b p hb'
    rcases hp b p hb' with ⟨rfl, _⟩ | ⟨_, h1⟩
    · exact .inr (Nat.le_refl _)
    · exact .inl h1
  · intro k hk _; exact hold k hk
  · intro b y p hy hb' hlt
    rcases hp b p hb' with ⟨rfl, rfl⟩ | ⟨n1, h1⟩
    · simp at hlt
    · rcases hg b y hy with ⟨e, _⟩ | ⟨_, g1⟩
      · exact absurd e n1
      · exact ⟨b, y, p, g1, h1, rfl, rfl⟩
  · intro b hb _
    exact T.get_set_ne _ _ (Nat.ne_of_lt hb)
  · intro b _ _ h1 h2
    have : b = h.ctr := Nat.le_antisymm (Nat.le_of_lt_succ h2) h1
    subst this
    exact ⟨_, by unfold Mp.put; rw [if_pos rfl]⟩

/-! ### a block that is written -/
/-- The world w' is w but for block k. -/
structure Turn (k : Nat) (w w' : World) : Prop where
  os : w'.os = w.os
  tape : w'.tape = w.tape
  output : w'.output = w.output
  size : w'.heap.size = w.heap.size
  other : ∀ j, j ≠ k → w'.heap[j]? = w.heap[j]?

theorem put_ok {ρ : Mp} {h : H} {w w' : World} (r : HR ρ h w) {b : Nat} {x y : Blk} {p : Pl} (hb : h.bl.get b = some x) (hp : ρ b = some p) (hf : famOf b y = famOf b x)
    (ht : Turn p.blk w w') (hy : BR ρ w' p y) : HR ρ (put h b y (famOf b x)) w' ∧ Ext ρ h w ρ (put h b y (famOf b x)) w' := by
  have hg : ∀ c z, (put h b y (famOf b x)).bl.get c = some z → (c = b ∧ y = z) ∨ (c ≠ b ∧ h.bl.get c = some z) := by
    intro c z hz
    rcases T.get_set _ _ _ _ _ hz with ⟨e, e'⟩ | ⟨e, e'⟩
    · exact .inl ⟨e, by cases e'; rfl⟩
    · exact .inr ⟨e, e'⟩
  have hlive : ∀ c z, (put h b y (famOf b x)).bl.get c = some z → ∃ z0, h.bl.get c = some z0 ∧ famOf c z0 = famOf c z := by
    intro c z hz
    rcases hg c z hz with ⟨rfl, rfl⟩ | ⟨_, h1⟩
    · exact ⟨x, hb, hf.symm⟩
    · exact ⟨z, h1, rfl⟩
  refine ⟨⟨?_, ?_, ?_, ?_, ?_, ?_⟩, ⟨Mp.le_refl _, Nat.le_refl _, Nat.min_le_left _ _, ht.os, ht.tape, ht.output, by rw [ht.size]; exact Nat.le_refl _, fun _ _ h => .inl h, ?_, ?_, ?_, fun _ _ _ h1 h2 => absurd h2 (Nat.not_lt.2 h1)⟩⟩
  · intro c q hq; rw [ht.size]; exact r.dom c q hq
  · intro c z hz; obtain ⟨z0, h0, _⟩ := hlive c z hz; exact r.big c z0 h0
  · intro c z q hz hq
    rcases hg c z hz with ⟨rfl, rfl⟩ | ⟨hne, h1⟩
    · rw [hp] at hq; cases hq; exact hy
    · refine (r.con c z q h1 hq).mono (Mp.le_refl _) (ht.other _ fun e => hne (r.inj _ _ _ _ _ _ h1 hb hq hp e))
  · intro c c' z z' q q' hz hz' hq hq' he
    obtain ⟨z0, h0, _⟩ := hlive c z hz
    obtain ⟨z0', h0', _⟩ := hlive c' z' hz'
    exact r.inj c c' z0 z0' q q' h0 h0' hq hq' he
  · intro c z hz; obtain ⟨z0, h0, e⟩ := hlive c z hz; rw [← e]; exact r.fam c z0 h0
  · intro c z q hz hq hfa; obtain ⟨z0, h0, e⟩ := hlive c z hz; exact r.own c z0 q h0 hq (e.trans hfa)
  · intro k hk hall
    refine ht.other k fun e => ?_
    have := hall b x p hb hp e.symm
    exact absurd (Nat.lt_of_lt_of_le this (Nat.min_le_right _ _)) (Nat.lt_irrefl _)
  · intro c z q hz hq _
    obtain ⟨z0, h0, e⟩ := hlive c z hz
    exact ⟨c, z0, q, h0, hq, rfl, e⟩
  · intro c _ hall
    refine T.get_set_ne _ _ fun e => ?_
    subst e
    exact absurd (Nat.lt_of_lt_of_le (hall x hb) (Nat.min_le_right _ _)) (Nat.lt_irrefl _)
end Go.Ai
namespace Go.Ai
open Go.RowKit (Below)

theorem addr_add (b o n : Nat) : (⟨b, o, none⟩ : Addr).add n = ⟨b, o + n, none⟩ := by
  unfold Addr.add
  by_cases h : n = 0
  · subst h; simp
  · simp [h]
theorem cell_of {w : World} {k : Nat} {arr : Array Value} {e : TypeId} {fr : Nat × Nat} (hw : w.heap[k]? = some (.cells arr e fr)) (i : Nat) : w.cell? ⟨k, i, none⟩ = arr[i]? := by
  simp [World.cell?, hw]
theorem frozen_of {w : World} {k : Nat} {arr : Array Value} {e : TypeId} {fr : Nat × Nat} (hw : w.heap[k]? = some (.cells arr e fr)) (i : Nat) : w.frozen? ⟨k, i, none⟩ = (decide (fr.1 ≤ i) && decide (i < fr.2)) := by
  simp [World.frozen?, hw]

/-! ### types -/
structure TIok (P : Program) (t : TypeId) (ti : TI) : Prop where
  und : P.underlying t = some ti.desc
  inf : ∃ i z, P.info? t = some i ∧ i.size = ti.size ∧ i.bytes = ti.bytes ∧ i.zero = some z ∧ ofCells ti ti.zero = some z
  agg : ti.agg = (match ti.desc with | .struct _ => true | .array _ _ => true | _ => false)
  flat : ti.zero.all (flat 9) = true
  one : ti.zero.all oneC = true
  len : ti.zero.length = ti.size
  places : ∀ fs, ti.desc = .struct fs → fs.toList.mapM (fun f => (P.info? f.type).map fun i => (f.offset, i.size)) = some ti.places
  peq : ti.peq = true → P.stoodInHeld t = false ∧ P.eqGuardType P.depth t = false ∧ ∀ fs, ti.desc = .struct fs → ∀ f ∈ fs.toList, f.name ≠ "_"

theorem ofCells_cells {ti : TI} {cs : List Value} {v : Value} (h : ofCells ti cs = some v) (h1 : cs.all oneC = true) : vcells v = cs := by
  unfold ofCells at h
  split at h
  · simp at h; subst h; rfl
  · split at h
    · simp at h; subst h
      rename_i v'
      simp at h1
      cases v' <;> first | rfl | (simp [oneC] at h1)
    · simp at h

section
variable {P : Program} {t : TypeId} {ti : TI} (H : TIok P t ti) (w : World)
include H
theorem TIok.run_und : (underlying t).run P w = .ok ti.desc w := run_underlying H.und w
theorem TIok.run_size : (sizeOf t).run P w = .ok ti.size w := by
  obtain ⟨i, z, h1, h2, _⟩ := H.inf
  simp [sizeOf, typeInfo, h1, h2]
theorem TIok.run_isAgg : (isAgg t).run P w = .ok ti.agg w := by
  unfold isAgg
  rw [H.agg]
  simp only [Sem.run_bind, H.run_und w, Result.andThen_ok]
  cases ti.desc <;> rfl
theorem TIok.run_zero : ∃ z, (zeroValue t).run P w = .ok z w ∧ ofCells ti ti.zero = some z := by
  obtain ⟨i, z, h1, _, _, h4, h5⟩ := H.inf
  exact ⟨z, by simp [zeroValue, typeInfo, h1, h4], h5⟩
theorem TIok.zero_VR (ρ : Mp) : VRs ρ ti.zero ti.zero := by
  have h := H.flat
  revert h
  generalize ti.zero = l
  intro h
  induction l with
  | nil => exact .nil
  | cons x xs ih => simp at h; exact .cons (flat_VR ρ 9 x h.1) (ih (by simpa using h.2))
end

/-! ### reading -/
def HAt (ρ : Mp) (h : H) (w : World) (b : Nat) : Prop := ∀ x p, h.bl.get b = some x → ρ b = some p → BR ρ w p x
theorem HR.at' {ρ : Mp} {h : H} {w : World} (r : HR ρ h w) (b : Nat) : HAt ρ h w b := fun x p => r.con b x p

theorem cut_length {α : Type} (l : List α) (off n : Nat) (h : off + n ≤ l.length) : (cut l off n).length = n := by
  simp [cut]; omega
theorem cut_get {α : Type} (l : List α) (off n j : Nat) (x : α) (h : (cut l off n)[j]? = some x) : l[off + j]? = some x ∧ j < n := by
  simp only [cut, List.getElem?_take, List.getElem?_drop] at h
  split at h
  · exact ⟨h, by assumption⟩
  · cases h

/-- what is read of a block: related cells in the world -/
theorem loadC_ok {ρ : Mp} {h : H} {w : World} {b o n : Nat} {p : Pl} {vs : List Value} (r : HAt ρ h w b) (hp : ρ b = some p) (hl : loadC h ⟨b, o, none⟩ n = some vs) :
    ∃ vs', VRs ρ vs vs' ∧ vs'.length = n ∧ ∀ j v, vs'[j]? = some v → w.cell? ⟨p.blk, p.off + o + j, none⟩ = some v := by
  unfold loadC at hl
  simp only at hl
  split at hl
  · rename_i cs e fam fz hg
    simp only [need_some, ok_some] at hl
    obtain ⟨hb, rfl⟩ := hl
    have hb := Nat.le_of_ble_eq_true hb
    cases r _ _ hg hp with
    | @cells _ _ _ _ arr fr hw hn hl hc hf =>
      have key : ∀ j, j < n → ∃ v v', cs[o + j]? = some v ∧ arr[p.off + o + j]? = some v' ∧ VR ρ v v' := by
        intro j hj
        obtain ⟨v, hv⟩ : ∃ v, cs[o + j]? = some v := ⟨_, List.getElem?_eq_getElem (by omega)⟩
        obtain ⟨v', h1, h2⟩ := hc _ _ hv
        exact ⟨v, v', hv, by rw [Nat.add_assoc]; exact h1, h2⟩
      refine ⟨cut arr.toList (p.off + o) n, ?_, ?_, ?_⟩
      · refine VRs.of_get ?_ ?_
        · rw [cut_length _ _ _ hb, cut_length]
          simp; omega
        · intro j v hv
          obtain ⟨h1, hj⟩ := cut_get _ _ _ _ _ hv
          obtain ⟨u, v', g1, g2, g3⟩ := key j hj
          rw [g1] at h1; cases h1
          refine ⟨v', ?_, g3⟩
          simp only [cut, List.getElem?_take, List.getElem?_drop, if_pos hj]
          simpa using g2
      · rw [cut_length]; simp; omega
      · intro j v hv
        obtain ⟨h1, hj⟩ := cut_get _ _ _ _ _ hv
        rw [cell_of hw]
        simpa using h1
  · rename_i bs e fam fz hg
    simp only [need_some, ok_some] at hl
    obtain ⟨hb, rfl⟩ := hl
    have hb := Nat.le_of_ble_eq_true hb
    cases r _ _ hg hp with
    | @bytes _ _ _ _ arr fr hw hn hl hc hf =>
      refine ⟨(cut bs o n).map byteV, ?_, ?_, ?_⟩
      · generalize cut bs o n = l
        induction l with
        | nil => exact .nil
        | cons x xs ih => exact .cons (.int _ _) ih
      · rw [List.length_map, cut_length _ _ _ hb]
      · intro j v hv
        rw [List.getElem?_map] at hv
        cases hj : (cut bs o n)[j]? with
        | none => rw [hj] at hv; cases hv
        | some x =>
          rw [hj] at hv
          simp at hv; subst hv
          obtain ⟨h1, _⟩ := cut_get _ _ _ _ _ hj
          rw [cell_of hw, Nat.add_assoc]
          exact hc _ _ h1
  · simp at hl

/-- the same of bytes: the very bytes -/
theorem bytesOfCells_ok {ρ : Mp} : ∀ {vs vs' : List Value} {bs : List UInt8}, VRs ρ vs vs' → bytesOfCells vs = some bs → vs' = bs.map byteV := by
  intro vs
  induction vs with
  | nil => intro vs' bs h hb; cases h; simp [bytesOfCells] at hb; subst hb; rfl
  | cons x xs ih =>
    intro vs' bs h hb
    cases h with
    | cons hx hs =>
      unfold bytesOfCells at hb
      split at hb
      · rename_i n
        simp only [need_some, bnd_some, ok_some] at hb
        obtain ⟨hn, l, hl, rfl⟩ := hb
        cases hx
        rw [ih hs hl]
        have hn : n < 256 := Nat.le_of_ble_eq_true hn
        simp only [List.map_cons, byteV, List.cons.injEq, and_true, Value.int.injEq, true_and]
        have : (UInt8.ofNat n).toNat = n := by simp [Nat.mod_eq_of_lt hn]
        rw [this]; rfl
      · simp at hb
theorem bytes_VRs (ρ : Mp) (bs : List UInt8) : VRs ρ (bs.map byteV) (bs.map byteV) := by
  induction bs with
  | nil => exact .nil
  | cons x xs ih => exact .cons (.int _ _) ih

/-! ### writing -/
/-- storeCells in a block of cells -/
theorem run_storeCells_row {P : Program} {k : Nat} {e : TypeId} {fr : Nat × Nat} : ∀ (vs : List Value) (o i : Nat) (arr : Array Value) (w : World), w.heap[k]? = some (.cells arr e fr) → o + i + vs.length ≤ arr.size →
    (∀ x, fr.1 ≤ x → x < fr.2 → x < arr.size → x < o + i) → (∀ v ∈ vs, v.oneCell' = true) →
    ∃ w' arr', (storeCells ⟨k, o, none⟩ vs i).run P w = .ok () w' ∧ Turn k w w' ∧ w'.heap[k]? = some (.cells arr' e fr) ∧ arr'.size = arr.size ∧
      ∀ j, arr'[j]? = if o + i ≤ j ∧ j < o + i + vs.length then vs[j - (o + i)]? else arr[j]?
  | [], o, i, arr, w, hw, _, _, _ => ⟨w, arr, rfl, ⟨rfl, rfl, rfl, rfl, fun _ _ => rfl⟩, hw, rfl, fun j => by rw [if_neg]; simp⟩
  | v :: vs, o, i, arr, w, hw, hl, hf, h1 => by
    simp only [List.length_cons] at hl
    have hlt : o + i < arr.size := by omega
    have hst : (store ((⟨k, o, none⟩ : Addr).add i) v).run P w = .ok () (w.setCell ⟨k, o + i, none⟩ v) := by
      rw [addr_add, run_store P w _ v _ (h1 v (by simp)), cell_of hw, frozen_of hw]
      rw [Array.getElem?_eq_getElem hlt]
      have : (decide (fr.1 ≤ o + i) && decide (o + i < fr.2)) = false := by
        cases hd : (decide (fr.1 ≤ o + i) && decide (o + i < fr.2)) with
        | false => rfl
        | true =>
          simp at hd
          have := hf (o + i) hd.1 hd.2 hlt
          omega
      simp [this]
    have hw' : (w.setCell ⟨k, o + i, none⟩ v).heap[k]? = some (.cells (arr.setIfInBounds (o + i) v) e fr) := by
      simp [World.setCell, Array.getElem?_modify, hw]
    obtain ⟨w2, arr2, g1, g2, g3, g4, g5⟩ := run_storeCells_row (P := P) vs o (i + 1) (arr.setIfInBounds (o + i) v) (w.setCell ⟨k, o + i, none⟩ v) hw' (by simp; omega) (by
      intro x hx1 hx2 hx3; simp at hx3; have := hf x hx1 hx2 hx3; omega) (fun u hu => h1 u (by simp [hu]))
    refine ⟨w2, arr2, ?_, ?_, g3, by rw [g4]; simp, ?_⟩
    · simp only [storeCells, Sem.run_bind, hst, Result.andThen_ok]; exact g1
    · refine ⟨g2.os, g2.tape, g2.output, by rw [g2.size]; simp [World.setCell], fun j hj => ?_⟩
      rw [g2.other j hj]
      exact Below.heap_setCell w _ _ _ hj
    · intro j
      rw [g5 j]
      simp only [List.length_cons]
      by_cases hj : j = o + i
      · subst hj
        rw [if_neg (by omega), if_pos (by omega)]
        simp [hlt]
      · by_cases hr : o + (i + 1) ≤ j ∧ j < o + (i + 1) + vs.length
        · rw [if_pos hr, if_pos (by omega), show j - (o + i) = (j - (o + (i + 1))) + 1 by omega]
          simp
        · rw [if_neg hr, if_neg (by omega)]
          simp [Array.getElem?_setIfInBounds_ne (show o + i ≠ j from fun e => hj e.symm)]

theorem splice_get {α : Type} (cs vs : List α) (off : Nat) (h : off + vs.length ≤ cs.length) (j : Nat) : (splice cs off vs)[j]? = if off ≤ j ∧ j < off + vs.length then vs[j - off]? else cs[j]? := by
  unfold splice
  by_cases h1 : j < off
  · rw [if_neg (by omega), List.getElem?_append_left (by simp; omega), List.getElem?_take_of_lt h1]
  · rw [List.getElem?_append_right (by simp; omega)]
    simp only [List.length_take, Nat.min_eq_left (show off ≤ cs.length by omega)]
    by_cases h2 : j < off + vs.length
    · rw [if_pos (by omega), List.getElem?_append_left (by omega)]
    · rw [if_neg (by omega), List.getElem?_append_right (by omega), List.getElem?_drop]
      congr 1
      omega
theorem splice_length {α : Type} (cs vs : List α) (off : Nat) (h : off + vs.length ≤ cs.length) : (splice cs off vs).length = cs.length := by
  simp [splice]; omega

/-- cells put into a block: the world behind it -/
theorem storeC_ok {P : Program} {ρ : Mp} {h h' : H} {w : World} (r : HR ρ h w) {b o : Nat} {p : Pl} {vs vs' : List Value} (hp : ρ b = some p) (hv : VRs ρ vs vs') (hs : storeC h ⟨b, o, none⟩ vs = some h') :
    ∃ w', (storeCells ⟨p.blk, p.off + o, none⟩ vs').run P w = .ok () w' ∧ HR ρ h' w' ∧ Ext ρ h w ρ h' w' := by
  unfold storeC at hs
  simp only at hs
  split at hs
  · rename_i cs e fam fz hg
    simp only [need_some, ok_some, Bool.and_eq_true] at hs
    obtain ⟨⟨hb, hz, h1⟩, rfl⟩ := hs
    have hb := Nat.le_of_ble_eq_true hb
    have hz := Nat.le_of_ble_eq_true hz
    have hlen := hv.length
    cases hB : r.con _ _ _ hg hp with
    | @cells _ _ _ _ arr fr hw hn hl hc hf =>
      have hone : ∀ v ∈ vs', v.oneCell' = true := by
        intro v hm
        obtain ⟨j, hj⟩ := List.getElem?_of_mem hm
        have hjl : j < vs.length := by rw [hlen]; exact (List.getElem?_eq_some_iff.1 hj).1
        obtain ⟨v', g1, g2⟩ := hv.get (List.getElem?_eq_getElem hjl)
        rw [hj] at g1; cases g1
        exact g2.oneC (by simpa using (List.all_eq_true.1 h1) vs[j] (List.getElem_mem hjl))
      obtain ⟨w', arr', k1, k2, k3, k4, k5⟩ := run_storeCells_row (P := P) vs' (p.off + o) 0 arr w hw (by omega) (by
        intro x hx1 hx2 hx3; rcases hf with hh | ⟨_, hh⟩ <;> omega) hone
      have := put_ok r (y := .cells (splice cs o vs) e fam fz) hg hp rfl k2 (.cells k3 (by omega) (by rw [splice_length _ _ _ hb]; exact hl) (by
        intro j v hj
        rw [splice_get _ _ _ hb] at hj
        rw [k5]
        by_cases hr : o ≤ j ∧ j < o + vs.length
        · rw [if_pos hr] at hj
          rw [if_pos (by omega)]
          obtain ⟨v', g1, g2⟩ := hv.get hj
          exact ⟨v', by rw [show p.off + j - (p.off + o + 0) = j - o by omega]; exact g1, g2⟩
        · rw [if_neg hr] at hj
          rw [if_neg (by omega)]
          exact hc _ _ hj) hf)
      exact ⟨w', k1, this.1, this.2⟩
  · rename_i bs e fam fz hg
    simp only [bnd_some, need_some, ok_some, Bool.and_eq_true] at hs
    obtain ⟨ws, hws, ⟨hb, hz⟩, rfl⟩ := hs
    have hb := Nat.le_of_ble_eq_true hb
    have hz := Nat.le_of_ble_eq_true hz
    have hlen := hv.length
    have hm := bytesOfCells_ok hv hws
    have hwl : ws.length = vs'.length := by rw [hm]; simp
    cases hB : r.con _ _ _ hg hp with
    | @bytes _ _ _ _ arr fr hw hn hl hc hf =>
      obtain ⟨w', arr', k1, k2, k3, k4, k5⟩ := run_storeCells_row (P := P) vs' (p.off + o) 0 arr w hw (by omega) (by
        intro x hx1 hx2 hx3; rcases hf with hh | ⟨_, hh⟩ <;> omega) (by rw [hm]; intro v hv; obtain ⟨u, _, rfl⟩ := List.mem_map.1 hv; rfl)
      have := put_ok r (y := .bytes (splice bs o ws) e fam fz) hg hp rfl k2 (.bytes k3 (by omega) (by rw [splice_length _ _ _ hb]; exact hl) (by
        intro j v hj
        rw [splice_get _ _ _ hb] at hj
        rw [k5]
        by_cases hr : o ≤ j ∧ j < o + ws.length
        · rw [if_pos hr] at hj
          rw [if_pos (by omega), hm, List.getElem?_map, show p.off + j - (p.off + o + 0) = j - o by omega, hj]
          rfl
        · rw [if_neg hr] at hj
          rw [if_neg (by omega)]
          exact hc _ _ hj) hf)
      exact ⟨w', k1, this.1, this.2⟩
  · simp at hs
end Go.Ai
namespace Go.Ai

structure CtxT (P : Program) (C : Ctx) : Prop where
  tt : ∀ t ti, C.tt.get t = some ti → TIok P t ti
def GlR (ng : Nat) (ρ : Mp) : Prop := ∀ g, g < ng → ∃ p, ρ g = some p ∧ p.blk = g ∧ p.off = 0
theorem GlR.mono {ng : Nat} {ρ ρ' : Mp} (hle : ρ.le ρ') (h : GlR ng ρ) : GlR ng ρ' := fun g hg => let ⟨p, h1, h2⟩ := h g hg; ⟨p, hle _ _ h1, h2⟩

theorem tinfo_some {C : Ctx} {t : TypeId} {ti : TI} : tinfo C t = some ti ↔ C.tt.get t = some ti := by simp [tinfo]

section
variable {P : Program} {C : Ctx} {ρ : Mp} {h : H} {w : World} {tm : T Value} {a : Act}

theorem ev_ok (ht : TmR ρ tm a.tmps) (hg : GlR C.ng ρ) {x : Operand} {v : Value} (he : ev C.ng tm x = some v) : VR ρ v (a.eval x) := by
  cases x with
  | tmp t =>
    simp [ev] at he
    obtain ⟨v', h1, h2⟩ := ht _ _ he
    simpa [Act.eval, h1] using h2
  | const v0 =>
    simp [ev] at he
    obtain ⟨h1, rfl⟩ := he
    exact flat_VR ρ 9 _ h1
  | global g =>
    simp [ev] at he
    obtain ⟨h1, rfl⟩ := he
    obtain ⟨p, h2, h3, h4⟩ := hg g h1
    have := VR.ptr (o := 0) h2
    simpa [Act.eval, h3, h4] using this
  | func f =>
    simp [ev] at he
    subst he
    exact .func f .nil .nil
theorem ev0_ok (ht : TmR ρ tm a.tmps) {x : Operand} {v : Value} (he : ev 0 tm x = some v) : VR ρ v (a.eval x) :=
  ev_ok (C := ⟨.e, .e, 0⟩) ht (fun _ hg => absurd hg (Nat.not_lt_zero _)) he
theorem evs_ok (ht : TmR ρ tm a.tmps) (hg : GlR C.ng ρ) : ∀ {xs : List Operand} {vs : List Value}, evs C.ng tm xs = some vs → VRs ρ vs (xs.map a.eval)
  | [], vs, he => by simp [evs] at he; subst he; exact .nil
  | x :: xs, vs, he => by
    simp [evs] at he
    obtain ⟨v, h1, vs, h2, rfl⟩ := he
    exact .cons (ev_ok ht hg h1) (evs_ok ht hg h2)

/-- an operation that leaves memory alone -/
def Pass (P : Program) (ρ : Mp) (h : H) (w : World) (n : Nx) (res : Result Next) : Prop := ∃ v v', n = .val v h ∧ res = .ok (.value v') w ∧ VR ρ v v'

theorem val_some {h : H} {v : Value} {n : Nx} : val h v = some n ↔ Nx.val v h = n := by simp [val]

theorem pass_of {s : Sem Value} {v v' : Value} (hr : s.run P w = .ok v' w) (hv : VR ρ v v') : Pass P ρ h w (.val v h) ((do pure (Next.value (← s)) : Sem Next).run P w) :=
  ⟨v, v', rfl, by simp [hr], hv⟩

theorem run_bool {b : Bool} : (asBool (.bool b)).run P w = .ok b w := rfl
theorem boolOf_ok {v v' : Value} {b : Bool} (hv : VR ρ v v') (hb : boolOf v = some b) : v' = .bool b := by
  cases v <;> simp [boolOf] at hb
  subst hb; cases hv; rfl
theorem intOf_ok {v v' : Value} {i : Int} (hv : VR ρ v v') (hb : intOf v = some i) : ∃ k, v = .int k i ∧ v' = .int k i := by
  cases v <;> simp [intOf] at hb
  subst hb; cases hv; exact ⟨_, rfl, rfl⟩
theorem addrOf_ok {v v' : Value} {x : Addr} (hv : VR ρ v v') (hb : addrOf v = some x) : ∃ b o p, v = .pointer (some ⟨b, o, none⟩) ∧ x = ⟨b, o, none⟩ ∧ ρ b = some p ∧ v' = .pointer (some ⟨p.blk, p.off + o, none⟩) := by
  cases v with
  | pointer a0 => cases a0 with
    | none => simp [addrOf] at hb
    | some a0 =>
      simp [addrOf] at hb
      subst hb
      cases hv with
      | ptr hp => exact ⟨_, _, _, rfl, rfl, hp, rfl⟩
  | _ => simp [addrOf] at hb

theorem opMove_ok (ht : TmR ρ tm a.tmps) (hg : GlR C.ng ρ) {x : Operand} {n : Nx} (ho : opMove x C tm h = some n) :
    Pass P ρ h w n ((pure (Next.value (a.eval x)) : Sem Next).run P w) := by
  simp [opMove, val] at ho
  obtain ⟨v, h1, rfl⟩ := ho
  exact ⟨v, _, rfl, rfl, ev_ok ht hg h1⟩

theorem opPick_ok (ht : TmR ρ tm a.tmps) (hg : GlR C.ng ρ) {c x y : Operand} {n : Nx} (ho : opPick c x y C tm h = some n) :
    Pass P ρ h w n ((do pure (Next.value (if ← asBool (a.eval c) then a.eval x else a.eval y)) : Sem Next).run P w) := by
  simp only [opPick, bnd_some] at ho
  obtain ⟨v, h1, b, h2, h3⟩ := ho
  have hb := boolOf_ok (ev_ok ht hg h1) h2
  rw [hb]
  cases b with
  | true =>
    simp [val] at h3
    obtain ⟨v, h4, rfl⟩ := h3
    exact ⟨v, _, rfl, by simp [asBool], ev_ok ht hg h4⟩
  | false =>
    simp [val] at h3
    obtain ⟨v, h4, rfl⟩ := h3
    exact ⟨v, _, rfl, by simp [asBool], ev_ok ht hg h4⟩

theorem ofCells_VR {ti : TI} {cs cs' : List Value} {v : Value} (hc : VRs ρ cs cs') (hv : ofCells ti cs = some v) :
    (ti.agg = true ∧ v = .agg ⟨cs⟩ ∧ VR ρ v (.agg ⟨cs'⟩)) ∨ (ti.agg = false ∧ ∃ v', cs = [v] ∧ cs' = [v'] ∧ VR ρ v v') := by
  unfold ofCells at hv
  split at hv
  · rename_i hagg
    simp at hv; subst hv
    exact .inl ⟨hagg, rfl, .agg hc⟩
  · rename_i hagg
    split at hv
    · simp at hv; subst hv
      cases hc with | cons h1 h2 => cases h2; exact .inr ⟨hagg, _, rfl, rfl, h1⟩
    · simp at hv

theorem loadVar_ok (HC : CtxT P C) {t : TypeId} {ti : TI} (hti : tinfo C t = some ti) {b o : Nat} {p : Pl} (r : HAt ρ h w b) (hp : ρ b = some p) {cs : List Value} (hl : loadC h ⟨b, o, none⟩ ti.size = some cs) {v : Value} (hv : ofCells ti cs = some v) :
    ∃ v', (loadVar t ⟨p.blk, p.off + o, none⟩).run P w = .ok v' w ∧ VR ρ v v' := by
  have T := HC.tt t ti (tinfo_some.1 hti)
  obtain ⟨vs', h1, h2, h3⟩ := loadC_ok r hp hl
  rcases ofCells_VR h1 hv with ⟨hagg, rfl, hv⟩ | ⟨hagg, v', rfl, rfl, hv⟩
  · refine ⟨.agg ⟨vs'⟩, ?_, hv⟩
    have := run_loadCells_list (P := P) w ⟨p.blk, p.off + o, none⟩ vs' (fun j v hj => by rw [addr_add]; exact h3 j v hj)
    rw [h2] at this
    simp [loadVar, T.run_isAgg, T.run_size, hagg, this]
  · refine ⟨v', ?_, hv⟩
    have := h3 0 v' rfl
    simp only [Nat.add_zero] at this
    simp [loadVar, T.run_isAgg, hagg, this]

theorem opLoad_ok (HC : CtxT P C) (ht : TmR ρ tm a.tmps) (hg : GlR C.ng ρ) {t : TypeId} {x : Operand} {n : Nx} (ho : opLoad t x C tm h = some n) (r : ∀ b o, ev C.ng tm x = some (.pointer (some ⟨b, o, none⟩)) → HAt ρ h w b) :
    Pass P ρ h w n ((do pure (Next.value (← Instr.loadAt t (a.eval x))) : Sem Next).run P w) := by
  simp only [opLoad, bnd_some, val_some] at ho
  obtain ⟨v0, h1, x0, h2, ti, h3, cs, h4, v, h5, rfl⟩ := ho
  obtain ⟨b, o, p, rfl, rfl, hp, hv⟩ := addrOf_ok (ev_ok ht hg h1) h2
  obtain ⟨v', hr, hv'⟩ := loadVar_ok HC h3 (r b o h1) hp h4 h5
  refine pass_of ?_ hv'
  simp [Instr.loadAt, hv, Instr.sureAddr, hr]

theorem opNilCheck_ok (ht : TmR ρ tm a.tmps) (hg : GlR C.ng ρ) {o : Oper} {x : Operand} (hop : o.op = .nilCheck x) {n : Nx} (ho : opNilCheck x C tm h = some n) :
    Pass P ρ h w n ((execOp a.eval o).run P w) := by
  obtain ⟨dst, op, type, pos, after, guard⟩ := o
  simp only at hop; subst hop
  simp only [opNilCheck, bnd_some, val_some] at ho
  obtain ⟨v0, h1, v, h2, rfl⟩ := ho
  have hv := ev_ok ht hg h1
  simp only [execOp]
  revert hv
  generalize a.eval x = y
  intro hv
  unfold aNilCheck at h2
  split at h2 <;> simp at h2 <;> subst h2 <;> cases hv <;> exact ⟨_, _, rfl, rfl, by first | exact .ptr ‹_› | exact .func _ ‹_› ‹_› | exact .yield ‹_› | exact .map ‹_›⟩

theorem pureOf_run {s : Sem Value} {v : Value} (hp : pureOf s = some v) (w : World) : s.run P w = .ok v w := by
  unfold pureOf at hp
  split at hp
  · simp at hp; subst hp; rfl
  · simp at hp
theorem pureOf_eq {s : Sem Value} {v : Value} (hp : pureOf s = some v) : s = .pure v := by
  unfold pureOf at hp
  split at hp
  · simp at hp; subst hp; rfl
  · simp at hp
theorem pure_int {op : UnOp} {k : IntKind} {n : Int} {v : Value} (hp : pureOf (Op.unary op (.int k n)) = some v) : (∀ w, (Op.unary op (.int k n)).run P w = .ok v w) ∧ ∀ ρ, VR ρ v v := by
  refine ⟨pureOf_run hp, fun ρ => ?_⟩
  have := pureOf_eq hp
  cases op <;> simp [Op.unary, Op.intArith, Op.intBits, stuck, pure] at this <;> subst this <;> exact .int _ _
theorem pure_bool {op : UnOp} {b : Bool} {v : Value} (hp : pureOf (Op.unary op (.bool b)) = some v) : (∀ w, (Op.unary op (.bool b)).run P w = .ok v w) ∧ ∀ ρ, VR ρ v v := by
  refine ⟨pureOf_run hp, fun ρ => ?_⟩
  have := pureOf_eq hp
  cases op <;> simp [Op.unary, stuck, pure] at this <;> subst this <;> exact .bool _

theorem opUn_ok (ht : TmR ρ tm a.tmps) (hg : GlR C.ng ρ) {op : UnOp} {x : Operand} {n : Nx} (ho : opUn op x C tm h = some n) :
    Pass P ρ h w n ((do pure (Next.value (← Op.unary op (a.eval x))) : Sem Next).run P w) := by
  simp only [opUn, bnd_some, val_some] at ho
  obtain ⟨v0, h1, v, h2, rfl⟩ := ho
  have hv := ev_ok ht hg h1
  unfold aUn at h2
  split at h2
  · rw [hv.int_inv]
    obtain ⟨hr, hf⟩ := pure_int h2
    exact pass_of (hr w) (hf ρ)
  · rw [hv.bool_inv]
    obtain ⟨hr, hf⟩ := pure_bool h2
    exact pass_of (hr w) (hf ρ)
  · simp at h2
end
end Go.Ai
namespace Go.Ai
section
variable {P : Program} {C : Ctx} {ρ : Mp} {h : H} {w : World} {tm : T Value} {a : Act}

/-! ### parts -/
theorem run_part (HC : CtxT P C) {t : TypeId} {ti : TI} (hti : tinfo C t = some ti) {cs cs' : List Value} {off : Nat} {v : Value} (hc : VRs ρ cs cs') (hp : partOf C t cs off = some v) (w : World) :
    ∃ v', (part t ⟨cs'⟩ off).run P w = .ok v' w ∧ VR ρ v v' := by
  have T := HC.tt t ti (tinfo_some.1 hti)
  simp only [partOf, bnd_some, need_some] at hp
  obtain ⟨ti', h1, h2, h3⟩ := hp
  rw [hti] at h1; cases h1
  have hle := Nat.le_of_ble_eq_true h2
  rcases ofCells_VR (hc.cut off ti.size) h3 with ⟨hagg, _, hv⟩ | ⟨hagg, v', e1, e2, hv⟩
  · refine ⟨_, ?_, hv⟩
    simp [part, T.run_isAgg, T.run_size, hagg, cut, List.extract, Nat.add_sub_cancel_left]
  · refine ⟨v', ?_, hv⟩
    have hs : (cut cs' off ti.size)[0]? = some v' := by rw [e2]; rfl
    obtain ⟨h4, _⟩ := cut_get _ _ _ _ _ hs
    simp at h4
    simp [part, T.run_isAgg, hagg, h4]

theorem partOf_ti {t : TypeId} {cs : List Value} {off : Nat} {v : Value} (hp : partOf C t cs off = some v) : ∃ ti, tinfo C t = some ti := by
  simp only [partOf, bnd_some] at hp
  obtain ⟨ti, h1, _⟩ := hp
  exact ⟨ti, h1⟩

theorem fieldAt_ok (HC : CtxT P C) {t : TypeId} {f : Nat} {fd : Field} (hf : fieldAt C t f = some fd) : ∃ fs, P.underlying t = some (.struct fs) ∧ fs[f]? = some fd := by
  simp only [fieldAt, bnd_some] at hf
  obtain ⟨ti, h1, h2⟩ := hf
  have T := HC.tt t ti (tinfo_some.1 h1)
  split at h2
  · rename_i fs hd
    exact ⟨fs, by rw [T.und, hd], by simpa using h2⟩
  · simp at h2

theorem opField_ok (HC : CtxT P C) (ht : TmR ρ tm a.tmps) (hg : GlR C.ng ρ) {t : TypeId} {x : Operand} {f : Nat} {n : Nx} (ho : opField t x f C tm h = some n) :
    Pass P ρ h w n ((do pure (Next.value (← Instr.field t (a.eval x) f)) : Sem Next).run P w) := by
  simp only [opField, bnd_some] at ho
  obtain ⟨v0, h1, h2⟩ := ho
  have hv := ev_ok ht hg h1
  split at h2
  · rename_i cs
    simp only [bnd_some, val_some] at h2
    obtain ⟨fd, h3, v, h4, rfl⟩ := h2
    obtain ⟨cs', e, hc⟩ := hv.agg_inv
    obtain ⟨fs, g1, g2⟩ := fieldAt_ok HC h3
    obtain ⟨ti, h5⟩ := partOf_ti h4
    obtain ⟨v', hr, hv'⟩ := run_part HC h5 hc h4 w
    refine pass_of ?_ hv'
    rw [e]
    simp [Instr.field, run_underlying g1, g2, asAgg, hr]
  · simp at h2

theorem opFieldAddr_ok (HC : CtxT P C) (ht : TmR ρ tm a.tmps) (hg : GlR C.ng ρ) {t : TypeId} {x : Operand} {f : Nat} {n : Nx} (ho : opFieldAddr t x f C tm h = some n) :
    Pass P ρ h w n ((do pure (Next.value (← Instr.fieldAt t (a.eval x) f)) : Sem Next).run P w) := by
  simp only [opFieldAddr, bnd_some, need_some, ok_some] at ho
  obtain ⟨v0, h1, x0, h2, fd, h3, fi, h4, h5, rfl⟩ := ho
  obtain ⟨b, o, p, rfl, rfl, hp, hv⟩ := addrOf_ok (ev_ok ht hg h1) h2
  obtain ⟨fs, g1, g2⟩ := fieldAt_ok HC h3
  have T := HC.tt _ fi (tinfo_some.1 h4)
  have h5 : 0 < fi.size := Nat.le_of_ble_eq_true h5
  rw [addr_add]
  refine pass_of (v' := .pointer (some ⟨p.blk, p.off + (o + fd.offset), none⟩)) ?_ (.ptr hp)
  simp [Instr.fieldAt, run_underlying g1, g2, hv, Instr.sureAddr, fieldPlace, T.run_size, Nat.ne_of_gt h5, addr_add, Nat.add_assoc]

theorem run_asIntOf {k : IntKind} {i : Int} : (asIntOf (.int k i)).run P w = .ok (k, i) w := rfl

theorem opIndexAddr_ok (HC : CtxT P C) (ht : TmR ρ tm a.tmps) (hg : GlR C.ng ρ) {t : TypeId} {x i : Operand} {n : Nx} (ho : opIndexAddr t x i C tm h = some n) :
    Pass P ρ h w n ((do pure (Next.value (← Instr.indexAt t (a.eval x) (a.eval i))) : Sem Next).run P w) := by
  simp only [opIndexAddr, bnd_some, val_some] at ho
  obtain ⟨x0, h1, i0, h2, v, h3, rfl⟩ := ho
  have hx := ev_ok ht hg h1
  have hi := ev_ok ht hg h2
  simp only [aIndexAddr, bnd_some] at h3
  obtain ⟨j, h4, ti, h5, h6⟩ := h3
  obtain ⟨k, rfl, hi'⟩ := intOf_ok hi h4
  rw [hi']
  have T := HC.tt _ ti (tinfo_some.1 h5)
  split at h6
  · rename_i m e b j hd
    simp only [bnd_some, need_some, ok_some] at h6
    obtain ⟨ei, h7, h8, rfl⟩ := h6
    have E := HC.tt _ ei (tinfo_some.1 h7)
    have hlt : j < m := Nat.le_of_ble_eq_true h8
    obtain ⟨b, o, p, rfl, hp, e2⟩ := hx.ptr_inv
    rw [addr_add]
    refine pass_of (v' := .pointer (some ⟨p.blk, p.off + (o + j * ei.size), none⟩)) ?_ (.ptr hp)
    rw [e2, run_indexAt_array' (hd ▸ T.und)]
    simp [hlt, E.run_size, addr_add, Nat.add_assoc]
  · rename_i e b m c j hd
    simp only [bnd_some, need_some, ok_some] at h6
    obtain ⟨ei, h7, h8, rfl⟩ := h6
    have E := HC.tt _ ei (tinfo_some.1 h7)
    have hlt : j < m := Nat.le_of_ble_eq_true h8
    obtain ⟨b, o, p, a', cap, rfl, hp, e2, hl, hc, ha⟩ := hx.sl_inv
    have ha := ha.resolve_left (by omega)
    subst ha
    rw [addr_add]
    refine pass_of (v' := .pointer (some ⟨p.blk, p.off + (o + j * ei.size), none⟩)) ?_ (.ptr hp)
    rw [e2, run_indexAt_slice' (hd ▸ T.und)]
    simp [hlt, E.run_size, addr_add, Nat.add_assoc]
  · simp at h6
  where
  run_indexAt_array' {t e : TypeId} {m : Nat} {A : Addr} {k : IntKind} {i : Int} (hu : P.underlying t = some (.array m e)) : (Instr.indexAt t (.pointer (some A)) (.int k i)).run P w =
      if 0 ≤ i ∧ i < m then ((sizeOf e).run P w).andThen fun s w => .ok (.pointer (some (A.add (i.toNat * s)))) w
      else (if m ≤ 1 then (unsupported (.noEntry "op/indexAddr.an index out of range at an array of length 0 or 1 (ledger 616)") : Sem Value) else boundsPanic k i m .index).run P w := by
    simp [Instr.indexAt, run_underlying hu, asIntOf, Instr.sureAddr]
  run_indexAt_slice' {t e : TypeId} {A : Addr} {len cap : Nat} {k : IntKind} {i : Int} (hu : P.underlying t = some (.slice e)) : (Instr.indexAt t (.slice (some A) len cap) (.int k i)).run P w =
      if 0 ≤ i ∧ i < len then ((sizeOf e).run P w).andThen fun s w => .ok (.pointer (some (A.add (i.toNat * s)))) w
      else (boundsPanic k i len .index).run P w := by
    simp [Instr.indexAt, run_underlying hu, asIntOf]

theorem opIndex_ok (HC : CtxT P C) (ht : TmR ρ tm a.tmps) (hg : GlR C.ng ρ) {t : TypeId} {x i : Operand} {n : Nx} (ho : opIndex t x i C tm h = some n) :
    Pass P ρ h w n ((do pure (Next.value (← Instr.index t (a.eval x) (a.eval i))) : Sem Next).run P w) := by
  simp only [opIndex, bnd_some, val_some] at ho
  obtain ⟨x0, h1, i0, h2, v, h3, rfl⟩ := ho
  have hx := ev_ok ht hg h1
  have hi := ev_ok ht hg h2
  simp only [aIndex, bnd_some] at h3
  obtain ⟨j, h4, ti, h5, h6⟩ := h3
  obtain ⟨k, rfl, hi'⟩ := intOf_ok hi h4
  rw [hi']
  have T := HC.tt _ ti (tinfo_some.1 h5)
  split at h6
  · rename_i s j hd
    simp only [bnd_some, ok_some, getO_eq] at h6
    obtain ⟨b, h7, rfl⟩ := h6
    rw [hx.string_inv]
    refine pass_of ?_ (.int _ _)
    have hlt : j < s.size := by simpa using (List.getElem?_eq_some_iff.1 h7).1
    have hb : s[j]? = some b := by
      rw [getElem?_pos s j hlt]
      have := (List.getElem?_eq_some_iff.1 h7).2
      simpa [ByteArray.getElem_eq_getElem_data] using this
    simp [Instr.index, run_underlying (hd ▸ T.und), asIntOf, hb]
  · rename_i m e cs j hd
    simp only [bnd_some, need_some] at h6
    obtain ⟨ei, h7, h8, h9⟩ := h6
    have E := HC.tt _ ei (tinfo_some.1 h7)
    have hlt : j < m := Nat.le_of_ble_eq_true h8
    obtain ⟨cs', e2, hc⟩ := hx.agg_inv
    obtain ⟨v', hr, hv'⟩ := run_part HC h7 hc h9 w
    refine pass_of ?_ hv'
    rw [e2]
    simp [Instr.index, run_underlying (hd ▸ T.und), asIntOf, hlt, E.run_size, hr]
  · simp at h6

theorem opExtract_ok (ht : TmR ρ tm a.tmps) (hg : GlR C.ng ρ) {x : Operand} {i : Nat} {n : Nx} (ho : opExtract x i C tm h = some n) :
    Pass P ρ h w n ((do pure (Next.value (← Instr.extract (a.eval x) i)) : Sem Next).run P w) := by
  simp only [opExtract, bnd_some] at ho
  obtain ⟨v0, h1, h2⟩ := ho
  have hv := ev_ok ht hg h1
  split at h2
  · rename_i vs
    simp only [bnd_some, val_some, getO_eq] at h2
    obtain ⟨v, h3, rfl⟩ := h2
    obtain ⟨vs', e, hc⟩ := hv.tuple_inv
    obtain ⟨v', h4, h5⟩ := hc.get h3
    refine pass_of ?_ h5
    rw [e]
    simp at h4
    simp [Instr.extract, h4]
  · simp at h2

theorem opIface_ok (HC : CtxT P C) (ht : TmR ρ tm a.tmps) (hg : GlR C.ng ρ) {t : TypeId} {x : Operand} {n : Nx} (ho : opIface t x C tm h = some n) :
    Pass P ρ h w n ((do pure (Next.value (← Instr.makeInterface t (a.eval x))) : Sem Next).run P w) := by
  simp only [opIface, bnd_some, need_some, ok_some] at ho
  obtain ⟨v, h1, ti, h2, h3, rfl⟩ := ho
  have hv := ev_ok ht hg h1
  have T := HC.tt _ ti (tinfo_some.1 h2)
  refine pass_of ?_ (.iface t hv)
  simp only [Instr.makeInterface, Sem.run_bind, run_underlying T.und, Result.andThen_ok]
  split
  · rename_i hd; rw [hd] at h3; simp [isIface] at h3
  · rfl

theorem opFunc_ok (ht : TmR ρ tm a.tmps) (hg : GlR C.ng ρ) {fn : Fn} {xs ys : Array Operand} {n : Nx} (ho : opFunc fn xs ys C tm h = some n) :
    Pass P ρ h w n ((do pure (Next.value (← Instr.makeFunc fn (xs.map a.eval) (ys.map a.eval))) : Sem Next).run P w) := by
  simp only [opFunc, bnd_some] at ho
  obtain ⟨vs, h1, us, h2, h3⟩ := ho
  have hv := evs_ok ht hg h1
  have hu := evs_ok ht hg h2
  split at h3
  · simp at h3; subst h3
    refine pass_of (v' := .func (.func _) (xs.map a.eval) (ys.map a.eval)) rfl ?_
    have e1 : xs.map a.eval = ⟨xs.toList.map a.eval⟩ := Array.ext' (by simp)
    have e2 : ys.map a.eval = ⟨ys.toList.map a.eval⟩ := Array.ext' (by simp)
    rw [e1, e2]
    exact .func _ hv hu
  · simp at h3

theorem zeroOf_ok (HC : CtxT P C) {t : TypeId} {z : Value} (hz : zeroOf C t = some z) (w : World) : (zeroValue t).run P w = .ok z w ∧ VR ρ z z := by
  simp only [zeroOf, bnd_some] at hz
  obtain ⟨ti, h1, h2⟩ := hz
  have T := HC.tt _ ti (tinfo_some.1 h1)
  obtain ⟨z', h3, h4⟩ := T.run_zero w
  rw [h2] at h4; cases h4
  refine ⟨h3, ?_⟩
  rcases ofCells_VR (T.zero_VR ρ) h2 with ⟨_, rfl, hv⟩ | ⟨_, v', e1, e2, hv⟩
  · exact hv
  · rw [e1] at e2; cases e2; exact hv

theorem run_assert_nil {t xt : TypeId} {d : TypeDesc} (hd : P.underlying t = some d) (hni : ∀ ms, d ≠ .interface ms) (w : World) :
    (Instr.typeAssert .nilIface xt t true).run P w = ((zeroValue t).run P w).andThen fun z w => .ok (.tuple #[z, .bool false]) w := by
  cases d <;> first | exact absurd rfl (hni _) | simp [Instr.typeAssert, run_underlying hd]
theorem run_assert {t xt u : TypeId} {v : Value} {comma : Bool} {d : TypeDesc} (hd : P.underlying t = some d) (hni : ∀ ms, d ≠ .interface ms) (w : World) :
    (Instr.typeAssert (.iface u v) xt t comma).run P w = (if u = t then (pure (if comma then .tuple #[v, .bool true] else v) : Sem Value) else
        (if comma then (do pure (.tuple #[← zeroValue t, .bool false]) : Sem Value) else runtimePanic (.typeAssertion (some xt) (some u) t ""))).run P w := by
  cases d <;> first | exact absurd rfl (hni _) | simp [Instr.typeAssert, run_underlying hd]

theorem opAssert_ok (HC : CtxT P C) (ht : TmR ρ tm a.tmps) (hg : GlR C.ng ρ) {x : Operand} {xt t : TypeId} {comma : Bool} {n : Nx} (ho : opAssert x t comma C tm h = some n) :
    Pass P ρ h w n ((do pure (Next.value (← Instr.typeAssert (a.eval x) xt t comma)) : Sem Next).run P w) := by
  simp only [opAssert, bnd_some, val_some] at ho
  obtain ⟨v0, h1, v, h2, rfl⟩ := ho
  have hv := ev_ok ht hg h1
  simp only [aAssert, bnd_some, need_some] at h2
  obtain ⟨ti, h3, h4, h5⟩ := h2
  have T := HC.tt _ ti (tinfo_some.1 h3)
  have hni : ∀ ms, ti.desc ≠ .interface ms := by intro ms e; rw [e] at h4; simp [isIface] at h4
  split at h5
  · simp only [bnd_some, ok_some] at h5
    obtain ⟨z, h6, rfl⟩ := h5
    rw [hv.nilIface_inv]
    obtain ⟨h7, h8⟩ := zeroOf_ok (ρ := ρ) HC h6 w
    refine pass_of (v' := .tuple #[z, .bool false]) ?_ (.tuple (.cons h8 (.cons (.bool _) .nil)))
    rw [run_assert_nil T.und hni, h7]; rfl
  · obtain ⟨v', e, hv'⟩ := hv.iface_inv
    rename_i u v0' _
    rw [e]
    have key := fun u => run_assert (P := P) (xt := xt) (u := u) (v := v') (comma := comma) T.und hni w
    split at h5
    · rename_i heq
      simp at h5; subst h5
      have heq := Nat.eq_of_beq_eq_true heq
      refine pass_of (v' := .tuple #[v', .bool true]) ?_ (.tuple (.cons hv' (.cons (.bool _) .nil)))
      rw [key, if_pos heq]; rfl
    · rename_i heq
      simp at h5; subst h5
      have heq := Nat.eq_of_beq_eq_true heq
      refine pass_of (v' := v') ?_ hv'
      rw [key, if_pos heq]; rfl
    · rename_i heq
      simp only [bnd_some, ok_some] at h5
      obtain ⟨z, h6, rfl⟩ := h5
      have heq := Nat.ne_of_beq_eq_false heq
      obtain ⟨h7, h8⟩ := zeroOf_ok (ρ := ρ) HC h6 w
      refine pass_of (v' := .tuple #[z, .bool false]) ?_ (.tuple (.cons h8 (.cons (.bool _) .nil)))
      rw [key, if_neg heq]; simp [h7]
    · simp at h5
  · simp at h5
end
end Go.Ai
namespace Go.Ai
section
variable {P : Program} {C : Ctx} {ρ : Mp} {h : H} {w : World} {tm : T Value} {a : Act}

/-! ### building a value -/
theorem fill_ok {place' : Nat → Option (Nat × Nat)} : ∀ (ps : List (Nat × List Value)) (ps' : List (Nat × Value)) (cs cs' : List Value), VRs ρ cs cs' →
    (ps.length = ps'.length) → (∀ (j : Nat) (x : Nat × List Value), ps[j]? = some x → ∃ (i : Nat) (v' : Value), ps'[j]? = some (i, v') ∧ VRs ρ x.2 v'.cells.toList ∧ place' i = some (x.1, x.2.length)) →
    (∀ (j : Nat) (x : Nat × List Value), ps[j]? = some x → x.1 + x.2.length ≤ cs.length) →
    ∃ out : List Value, Instr.fill place' ⟨cs'⟩ ps' = some ⟨out⟩ ∧ VRs ρ (fillC cs ps) out
  | [], [], cs, cs', hc, _, _, _ => ⟨cs', rfl, hc⟩
  | (off, vs) :: ps, (i, v') :: ps', cs, cs', hc, hl, hp, hb => by
    obtain ⟨i2, v2, e, hv, hpl⟩ := hp 0 _ rfl
    simp at e
    obtain ⟨rfl, rfl⟩ := e
    have hlen := hv.length
    have hb0 := hb 0 _ rfl
    simp only at hlen hb0 hpl
    have hsz : v'.cells.size = vs.length := by rw [hlen]; simp
    have hcl := hc.length
    have hfold : (v'.cells.zipIdx.foldl (fun cs (x : Value × Nat) => cs.setIfInBounds (off + x.2) x.1) (⟨cs'⟩ : Array Value)) = ⟨splice cs' off v'.cells.toList⟩ := by
      apply Array.ext'
      rw [← Array.foldl_toList, Array.toList_zipIdx]
      exact fold_splice v'.cells.toList cs' off 0 (by rw [Nat.add_zero, ← hlen, ← hcl]; exact hb0)
    obtain ⟨out, g1, g2⟩ := fill_ok ps ps' (splice cs off vs) (splice cs' off v'.cells.toList) (by
        unfold splice
        exact (hc.take off).append (hv.append (by rw [hlen]; exact hc.drop _))) (by simpa using hl) (fun j x hj => by simpa using hp (j + 1) x (by simpa using hj)) (fun j x hj => by
        rw [splice_length _ _ _ hb0]; exact hb (j + 1) x (by simpa using hj))
    refine ⟨out, ?_, g2⟩
    simp only [Instr.fill, hpl, hsz]
    rw [if_neg (by simp [← hcl]; omega)]
    rw [hfold]
    exact g1
  where
  fold_splice : ∀ (vs cs : List Value) (off i : Nat), off + i + vs.length ≤ cs.length →
      ((vs.zipIdx i).foldl (fun cs (x : Value × Nat) => cs.setIfInBounds (off + x.2) x.1) (⟨cs⟩ : Array Value)).toList = splice cs (off + i) vs
    | [], cs, off, i, hl => by simp [splice]
    | v :: vs, cs, off, i, hl => by
      simp only [List.length_cons] at hl
      have ih := fold_splice vs (cs.set (off + i) v) off (i + 1) (by simp; omega)
      simp only [List.zipIdx_cons, List.foldl_cons]
      have e : (⟨cs⟩ : Array Value).setIfInBounds (off + i) v = ⟨cs.set (off + i) v⟩ := by simp
      rw [e, ih]
      apply List.ext_getElem?
      intro j
      rw [splice_get _ _ _ (by simp; omega), splice_get _ _ _ (by simp; omega)]
      simp only [List.length_cons]
      by_cases hj : j = off + i
      · subst hj
        rw [if_neg (by omega), if_pos (by omega), List.getElem?_set_self (by omega)]
        simp
      · by_cases hr : off + (i + 1) ≤ j ∧ j < off + (i + 1) + vs.length
        · rw [if_pos hr, if_pos (by omega), show j - (off + i) = (j - (off + (i + 1))) + 1 by omega]; simp
        · rw [if_neg hr, if_neg (by omega), List.getElem?_set_ne (fun e => hj e.symm)]

/-- the parts of a literal -/
theorem buildParts_ok (ht : TmR ρ tm a.tmps) (hg : GlR C.ng ρ) {ti : TI} {N : Nat} : ∀ {parts : List (Nat × Operand)} {ps : List (Nat × List Value)}, buildParts C ti tm N parts = some ps →
    ps.length = parts.length ∧ ∀ (j : Nat) (x : Nat × List Value), ps[j]? = some x → ∃ (i : Nat) (o : Operand), parts[j]? = some (i, o) ∧ VRs ρ x.2 (a.eval o).cells.toList ∧ place C ti i = some (x.1, x.2.length) ∧ x.1 + x.2.length ≤ N
  | [], ps, hb => by simp [buildParts] at hb; subst hb; exact ⟨rfl, fun j x hj => by simp at hj⟩
  | (i, o) :: parts, ps, hb => by
    simp only [buildParts, bnd_some, need_some, ok_some, Bool.and_eq_true] at hb
    obtain ⟨v, h1, p, h2, ⟨h3, h3'⟩, rest, h4, rfl⟩ := hb
    obtain ⟨g1, g2⟩ := buildParts_ok ht hg h4
    refine ⟨by simp [g1], fun j x hj => ?_⟩
    cases j with
    | zero =>
      simp at hj; subst hj
      have h3 := Nat.eq_of_beq_eq_true h3
      refine ⟨i, o, rfl, (ev_ok ht hg h1).vcells, ?_, ?_⟩
      · rw [h2, ← h3]
      · have := Nat.le_of_ble_eq_true h3'; simp only; omega
    | succ j => simpa using g2 j x (by simpa using hj)

theorem opBuild_ok (HC : CtxT P C) (ht : TmR ρ tm a.tmps) (hg : GlR C.ng ρ) {t : TypeId} {parts : Array (Nat × Operand)} {n : Nx} (ho : opBuild t parts C tm h = some n) :
    Pass P ρ h w n ((do pure (Next.value (← Instr.build t (parts.map fun (i, x) => (i, a.eval x)))) : Sem Next).run P w) := by
  simp only [opBuild, bnd_some, need_some, ok_some] at ho
  obtain ⟨ti, h1, hok, ps, h2, rfl⟩ := ho
  have T := HC.tt _ ti (tinfo_some.1 h1)
  obtain ⟨it, z, h3, _, _, h3', h4⟩ := T.inf
  have hz : z.cells.toList = ti.zero := by
    rcases ofCells_VR (T.zero_VR ρ) h4 with ⟨_, rfl, _⟩ | ⟨_, v', e1, _, _⟩
    · rfl
    · rw [e1]
      have h1 := T.one
      rw [e1] at h1
      simp at h1
      cases z <;> first | rfl | (simp [oneC] at h1)
  obtain ⟨g1, g2⟩ := buildParts_ok ht hg h2
  have hmap : (parts.map fun (x : Nat × Operand) => (x.1, a.eval x.2)).toList = parts.toList.map fun x => (x.1, a.eval x.2) := by simp
  have main : ∀ place' : Nat → Option (Nat × Nat), (∀ i p, place C ti i = some p → place' i = some p) →
      ∃ out : List Value, Instr.fill place' z.cells (parts.toList.map fun x => (x.1, a.eval x.2)) = some ⟨out⟩ ∧ VRs ρ (fillC ti.zero ps) out := by
    intro place' hpl
    have := fill_ok (place' := place') ps (parts.toList.map fun x => (x.1, a.eval x.2)) ti.zero z.cells.toList (by rw [hz]; exact T.zero_VR ρ) (by simp [g1]) (fun j x hj => by
        obtain ⟨i, o, k1, k2, k3, _⟩ := g2 j x hj
        exact ⟨i, a.eval o, by simp [k1], k2, hpl _ _ k3⟩) (fun j x hj => by
        obtain ⟨i, o, _, _, _, k4⟩ := g2 j x hj
        rw [T.len]; exact k4)
    simpa using this
  have hparts : (parts.map fun x => match x with | (i, x) => (i, a.eval x)) = parts.map fun (x : Nat × Operand) => (x.1, a.eval x.2) := rfl
  rw [hparts]
  have fin : ∀ out : List Value, P.built t (parts.toList.map fun x => (x.1, a.eval x.2)) = some ⟨out⟩ → VRs ρ (fillC ti.zero ps) out →
      Pass P ρ h w (.val (.agg (fillC ti.zero ps).toArray) h) ((do pure (Next.value (← Instr.build t (parts.map fun (x : Nat × Operand) => (x.1, a.eval x.2)))) : Sem Next).run P w) := by
    intro out hb hv
    exact pass_of (run_build w t _ _ (by rw [hmap]; exact hb)) (.agg hv)
  have hu := T.und
  cases hd : ti.desc with
  | struct fs =>
    rw [hd] at hu
    have hpl := T.places fs hd
    obtain ⟨out, k1, k2⟩ := main (fun i => ti.places[i]?) (by
      intro i p hp
      simpa [place, hd] using hp)
    refine fin out ?_ k2
    simp only [Program.built, h3, hu, h3', hpl]
    simpa using k1
  | array m e =>
    rw [hd] at hu
    cases he : tinfo C e with
    | none => simp only [tinfo, getO_eq] at he; simp [hd, okBuild, he] at hok
    | some ei =>
      have E := HC.tt _ ei (tinfo_some.1 he)
      obtain ⟨ie, _, e1, e2, _⟩ := E.inf
      obtain ⟨out, k1, k2⟩ := main (fun i => some (i * ie.size, ie.size)) (by
        intro i p hp
        simp [place, hd, he] at hp
        rw [e2, hp])
      refine fin out ?_ k2
      simp only [Program.built, h3, hu, h3', e1]
      exact k1
  | _ => simp [hd, okBuild] at hok
end
end Go.Ai
namespace Go.Ai
section
variable {P : Program} {C : Ctx} {ρ : Mp} {h : H} {w : World} {tm : T Value} {a : Act}

theorem aeq1_ok {d : TypeDesc} {t : TypeId} {x y x' y' : Value} {b : Bool} (hu : P.underlying t = some d) (hx : VR ρ x x') (hy : VR ρ y y') (he : aeq1 d x y = some b) (D : Nat) (w : World) :
    (Op.equalIn (D + 1) t x' y').run P w = .ok b w := by
  unfold aeq1 at he
  split at he <;> simp only [ok_some, er_some, need_some] at he <;> (try subst he)
  · rw [hx.bool_inv, hy.bool_inv]; simp [Op.equalIn, run_underlying hu]
  · obtain ⟨hk, rfl⟩ := he
    have hk := of_decide_eq_true hk
    subst hk
    rw [hx.int_inv, hy.int_inv]; simp [Op.equalIn, run_underlying hu]
  · rw [hx.string_inv, hy.string_inv]; simp [Op.equalIn, run_underlying hu, beq_toListBytes]
  · rename_i e q
    rw [hx.nilPtr_inv]
    cases q with
    | none => rw [hy.nilPtr_inv]; simp [Op.equalIn, run_underlying hu]
    | some q => obtain ⟨_, _, _, _, _, rfl⟩ := hy.ptr_inv; simp [Op.equalIn, run_underlying hu]
  · obtain ⟨_, _, _, _, _, rfl⟩ := hx.ptr_inv
    rw [hy.nilPtr_inv]; simp [Op.equalIn, run_underlying hu]
  · rename_i e q _ _
    obtain ⟨_, _, rfl⟩ := hx.nilSl_inv
    cases q with
    | none => obtain ⟨_, _, rfl⟩ := hy.nilSl_inv; simp [Op.equalIn, run_underlying hu]
    | some q => obtain ⟨_, _, _, _, _, _, _, rfl, _⟩ := hy.sl_inv; simp [Op.equalIn, run_underlying hu]
  · obtain ⟨_, _, _, _, _, _, _, rfl, _⟩ := hx.sl_inv
    obtain ⟨_, _, rfl⟩ := hy.nilSl_inv; simp [Op.equalIn, run_underlying hu]
  · rename_i k e q
    rw [hx.nilMap_inv]
    cases q with
    | none => rw [hy.nilMap_inv]; simp [Op.equalIn, run_underlying hu]
    | some q => obtain ⟨_, _, rfl⟩ := hy.map_inv; simp [Op.equalIn, run_underlying hu]
  · obtain ⟨_, _, rfl⟩ := hx.map_inv
    rw [hy.nilMap_inv]; simp [Op.equalIn, run_underlying hu]
  · rw [hx.nilFunc_inv, hy.nilFunc_inv]; simp [Op.equalIn, run_underlying hu]
  · rw [hx.nilFunc_inv]; cases hy <;> simp [Op.equalIn, run_underlying hu]
  · rw [hy.nilFunc_inv]; cases hx <;> simp [Op.equalIn, run_underlying hu]
  · rw [hx.nilIface_inv]; obtain ⟨_, rfl, _⟩ := hy.iface_inv; simp [Op.equalIn, run_underlying hu]
  · rw [hy.nilIface_inv]; obtain ⟨_, rfl, _⟩ := hx.iface_inv; simp [Op.equalIn, run_underlying hu]
  · rw [hx.nilIface_inv, hy.nilIface_inv]; simp [Op.equalIn, run_underlying hu]

theorem run_sameAddr_same (k i j : Nat) (w : World) : (sameAddr ⟨k, i, none⟩ ⟨k, j, none⟩).run P w = .ok (decide (i = j)) w := by
  unfold sameAddr
  simp [BEq.beq, Addr.mk.injEq]

def EqOk (P : Program) (C : Ctx) (ρ : Mp) (d : Nat) (b : Bool) : Eqs → Prop
  | .val t x y => ∀ x' y', VR ρ x x' → VR ρ y y' → ∀ D, d ≤ D → ∀ w, (Op.equalIn D t x' y').run P w = .ok b w
  | .fields fs xs ys => (∀ f ∈ fs, f.name ≠ "_") → ∀ xs' ys', VRs ρ xs xs' → VRs ρ ys ys' → ∀ D, d ≤ D → ∀ w, (Op.eqFields D ⟨xs'⟩ ⟨ys'⟩ fs).run P w = .ok b w
  | .elems e n off xs ys => ∀ ti, tinfo C e = some ti → ∀ i, off = i * ti.size → ∀ xs' ys', VRs ρ xs xs' → VRs ρ ys ys' → ∀ D, d ≤ D → ∀ w, (Op.eqItems D e (P.cellsOf e) ⟨xs'⟩ ⟨ys'⟩ (List.range' i n)).run P w = .ok b w

theorem cellsOf_eq (HC : CtxT P C) {t : TypeId} {ti : TI} (hti : tinfo C t = some ti) : P.cellsOf t = ti.size := by
  obtain ⟨i, z, h1, h2, _⟩ := (HC.tt t ti (tinfo_some.1 hti)).inf
  simp [Program.cellsOf, h1, h2]

theorem aeq_ok (HC : CtxT P C) : ∀ (d : Nat) (q : Eqs) (b : Bool), aeq C d q = some b → EqOk P C ρ d b q := by
  intro d
  induction d with
  | zero => intro q b hb; simp [aeq] at hb
  | succ d ih =>
    intro q b hb
    cases q with
    | val t x y =>
      simp only [aeq, bnd_some] at hb
      obtain ⟨ti, h1, h2⟩ := hb
      have T := HC.tt t ti (tinfo_some.1 h1)
      have hu := T.und
      intro x' y' hx hy D hD w
      obtain ⟨D, rfl⟩ : ∃ D', D = D' + 1 := ⟨D - 1, by omega⟩
      have hD : d ≤ D := by omega
      split at h2
      · rename_i fs xs ys hd
        rw [hd] at hu
        simp only [need_some] at h2
        obtain ⟨hp, h2⟩ := h2
        obtain ⟨p1, p2, p3⟩ := T.peq hp
        obtain ⟨xs', rfl, hxs⟩ := hx.agg_inv
        obtain ⟨ys', rfl, hys⟩ := hy.agg_inv
        have hfo : P.fieldsOf t = fs := by simp [Program.fieldsOf, hu]
        rw [run_equalIn_struct w D t xs' ys' (by rw [hfo]; exact hu) p1, hfo]
        exact ih _ _ h2 (p3 fs hd) xs'.toList ys'.toList hxs hys D hD w
      · rename_i n e xs ys hd
        rw [hd] at hu
        simp only [need_some] at h2
        obtain ⟨hp, h2⟩ := h2
        obtain ⟨xs', rfl, hxs⟩ := hx.agg_inv
        obtain ⟨ys', rfl, hys⟩ := hy.agg_inv
        have he : ∃ ei, tinfo C e = some ei := by
          cases d with
          | zero => simp [aeq] at h2
          | succ d => cases n <;> simp only [aeq, bnd_some] at h2 <;> (obtain ⟨ei, k1, _⟩ := h2; exact ⟨ei, k1⟩)
        obtain ⟨ei, he⟩ := he
        obtain ⟨ie, _, e1, _⟩ := (HC.tt _ ei (tinfo_some.1 he)).inf
        rw [run_equalIn_array w D xs' ys' hu e1, List.range_eq_range']
        exact ih _ _ h2 ei he 0 (by simp) xs'.toList ys'.toList hxs hys D hD w
      · rename_i e p q hd
        rw [hd] at hu
        simp only [bnd_some, need_some] at h2
        obtain ⟨ei, k1, k2, k3⟩ := h2
        simp at k3 k2
        obtain ⟨k2, k4⟩ := k2
        obtain ⟨b1, o1, p1, rfl, g1, rfl⟩ := hx.ptr_inv
        obtain ⟨b2, o2, p2, rfl, g2, rfl⟩ := hy.ptr_inv
        simp at k4 k3 
        subst k4
        rw [g1] at g2; cases g2
        have hs := (HC.tt _ ei (tinfo_some.1 k1)).run_size w
        simp only [Op.equalIn, Sem.run_bind, run_underlying hu, Result.andThen_ok, hs]
        rw [if_pos (by omega), run_sameAddr_same]
        subst k3
        congr 1
        have := @Nat.beq_eq o1 o2
        cases hb : Nat.beq o1 o2 <;> simp_all
      · exact aeq1_ok hu hx hy h2 D w
    | fields fs xs ys =>
      intro hn xs' ys' hx hy D hD w
      cases fs with
      | nil => simp [aeq] at hb; subst hb; simp [Op.eqFields]
      | cons f fs =>
        simp only [aeq, bnd_some] at hb
        obtain ⟨u, k1, v, k2, r, k3, k4⟩ := hb
        obtain ⟨ti, hti⟩ := partOf_ti k1
        obtain ⟨u', g1, hu⟩ := run_part HC hti hx k1 w
        obtain ⟨v', g2, hv⟩ := run_part HC hti hy k2 w
        have g3 := ih _ _ k3 u' v' hu hv D (by omega) w
        have hnf := hn f (by simp)
        simp only [Op.eqFields, if_pos hnf, Sem.run_bind, g1, g2, g3, Result.andThen_ok]
        cases r with
        | true => simpa using ih _ _ k4 (fun g hg => hn g (by simp [hg])) xs' ys' hx hy D (by omega) w
        | false => simp at k4; subst k4; simp
    | elems e n off xs ys =>
      intro ti hti i hoff xs' ys' hx hy D hD w
      cases n with
      | zero => simp [aeq] at hb; obtain ⟨_, _, rfl⟩ := hb; simp [Op.eqItems]
      | succ n =>
        simp only [aeq, bnd_some] at hb
        obtain ⟨ti', h1, u, k1, v, k2, r, k3, k4⟩ := hb
        rw [hti] at h1; cases h1
        obtain ⟨u', g1, hu⟩ := run_part HC hti hx k1 w
        obtain ⟨v', g2, hv⟩ := run_part HC hti hy k2 w
        have g3 := ih _ _ k3 u' v' hu hv D (by omega) w
        rw [hoff, ← cellsOf_eq HC hti] at g1 g2
        simp only [List.range'_succ, Op.eqItems, Sem.run_bind, g1, g2, g3, Result.andThen_ok]
        cases r with
        | true => simpa using ih _ _ k4 ti hti (i + 1) (by rw [hoff, Nat.add_mul]; omega) xs' ys' hx hy D (by omega) w
        | false => simp at k4; subst k4; simp

theorem eqGuard_ok (HC : CtxT P C) {op : BinOp} {t : TypeId} {ox oy : Operand} {x y x' y' : Value} {b : Bool} {d : Nat} (hx : VR ρ x x') (hy : VR ρ y y') (hn : nilGuard ox oy x y = true) (he : aeq C d (.val t x y) = some b) (w : World) :
    (eqGuard op t ox oy x' y').run P w = .ok () w := by
  cases d with
  | zero => simp [aeq] at he
  | succ d =>
  simp only [aeq, bnd_some] at he
  obtain ⟨ti, h1, h2⟩ := he
  have T := HC.tt t ti (tinfo_some.1 h1)
  by_cases hc : (∃ xs ys, x' = .agg xs ∧ y' = .agg ys)
  · obtain ⟨xs, ys, rfl, rfl⟩ := hc
    obtain ⟨xs0, rfl, _⟩ : ∃ xs0, x = .agg xs0 ∧ True := by cases hx; exact ⟨_, rfl, trivial⟩
    obtain ⟨ys0, rfl, _⟩ : ∃ xs0, y = .agg xs0 ∧ True := by cases hy; exact ⟨_, rfl, trivial⟩
    refine run_eqGuard_agg w op t ox oy xs ys ?_
    split at h2 <;> simp_all
    · exact (T.peq h2.1).2.1
    · exact (T.peq h2.1).2.1
    · simp [aeq1] at h2
  · by_cases hc2 : x' = .nilIface ∧ y' = .nilIface
    · obtain ⟨rfl, rfl⟩ := hc2
      cases hx; cases hy
      simp [nilGuard] at hn
      rcases hn with hn | hn
      · cases ox <;> simp [isConst] at hn
        cases op <;> simp [eqGuard]
      · cases oy <;> simp [isConst] at hn
        cases op <;> simp [eqGuard]
    · cases op <;> first | rfl | (simp [eqGuard]; split <;> first | rfl | (exfalso; simp at *; done))

theorem plain_ok {s : Sem Value} {v : Value} (hp : plain (pureOf s) = some v) : (∀ w, s.run P w = .ok v w) ∧ ∀ ρ, VR ρ v v := by
  simp only [plain, bnd_some, need_some, ok_some] at hp
  obtain ⟨u, h1, h2, rfl⟩ := hp
  exact ⟨pureOf_run h1, fun ρ => flat_VR ρ 1 _ h2⟩

def Odd (u v : Value) : Prop := (∃ k a k' b, u = .int k a ∧ v = .int k' b) ∨ (∃ k a k' b, u = .float k a ∧ v = .float k' b) ∨ (∃ k a a' k' b b', u = .complex k a a' ∧ v = .complex k' b b') ∨ (∃ a b, u = .string a ∧ v = .string b)
theorem binOp_eql {t : TypeId} {u v : Value} (hn : ¬ Odd u v) : binOp .eql t u v = (do pure (.bool (← Op.equal t u v))) := by
  unfold binOp
  split <;> first | rfl | (exfalso; simp_all [Odd]; done)
theorem binOp_neq {t : TypeId} {u v : Value} (hn : ¬ Odd u v) : binOp .neq t u v = (do pure (.bool (!(← Op.equal t u v)))) := by
  unfold binOp
  split <;> first | rfl | (exfalso; simp_all [Odd]; done)
theorem not_odd {u v u' v' : Value} {d : Nat} {t : TypeId} {b : Bool} (hu : VR ρ u u') (hv : VR ρ v v') (h1 : ∀ k a k' b, u = .int k a → v = .int k' b → False) (h2 : ∀ a b, u = .string a → v = .string b → False)
    (he : aeq C d (.val t u v) = some b) : ¬ Odd u' v' := by
  cases d with
  | zero => simp [aeq] at he
  | succ d =>
  rintro (⟨k, a, k', b, rfl, rfl⟩ | ⟨k, a, k', b, rfl, rfl⟩ | ⟨k, a, a', k', b, b', rfl, rfl⟩ | ⟨a, b, rfl, rfl⟩)
  · cases hu; cases hv; exact h1 _ _ _ _ rfl rfl
  · cases hu; cases hv
    simp only [aeq, bnd_some] at he
    obtain ⟨ti, _, he⟩ := he
    simp at he
    simp [aeq1] at he
  · cases hu; cases hv
    simp only [aeq, bnd_some] at he
    obtain ⟨ti, _, he⟩ := he
    simp at he
    simp [aeq1] at he
  · cases hu; cases hv; exact h2 _ _ rfl rfl

theorem opBin_ok (HC : CtxT P C) (ht : TmR ρ tm a.tmps) (hg : GlR C.ng ρ) {op : BinOp} {t : TypeId} {x y : Operand} {n : Nx} (ho : opBin op t x y C tm h = some n) :
    Pass P ρ h w n ((do pure (Next.value (← (do eqGuard op t x y (a.eval x) (a.eval y); binOp op t (a.eval x) (a.eval y) : Sem Value))) : Sem Next).run P w) := by
  simp only [opBin, bnd_some, val_some] at ho
  obtain ⟨u, h1, v, h2, r, h3, rfl⟩ := ho
  have hu := ev_ok ht hg h1
  have hv := ev_ok ht hg h2
  revert hu hv
  generalize a.eval x = u'
  generalize a.eval y = v'
  intro hu hv
  unfold aBin at h3
  split at h3
  · rename_i k1 m1 k2 m2
    rw [hu.int_inv, hv.int_inv]
    obtain ⟨hr, hf⟩ := plain_ok (P := P) h3
    refine pass_of ?_ (hf ρ)
    have : (eqGuard op t x y (.int k1 m1) (.int k2 m2)).run P w = .ok () w := by cases op <;> rfl
    simp [this, hr]
  · rename_i s1 s2
    rw [hu.string_inv, hv.string_inv]
    obtain ⟨hr, hf⟩ := plain_ok (P := P) h3
    refine pass_of ?_ (hf ρ)
    have : (eqGuard op t x y (.string s1) (.string s2)).run P w = .ok () w := by cases op <;> rfl
    simp [this, hr]
  · rename_i n1 n2
    split at h3 <;> simp only [need_some, bnd_some, ok_some, er_some] at h3
    · obtain ⟨k1, b, k2, rfl⟩ := h3
      have g1 := eqGuard_ok (op := .eql) HC hu hv k1 k2 w
      have g2 := aeq_ok HC _ _ _ k2 u' v' hu hv 10000 (by omega) w
      refine pass_of (v' := .bool b) ?_ (.bool b)
      have g3 := binOp_eql (t := t) (not_odd hu hv (fun _ _ _ _ e1 e2 => by first | exact n1 _ _ _ _ e1 e2 | simp_all) (fun _ _ e1 e2 => by first | exact n2 _ _ e1 e2 | simp_all) k2)
      simp [g1, g3, Op.equal, Op.maxDepth, g2]
    · obtain ⟨k1, b, k2, rfl⟩ := h3
      have g1 := eqGuard_ok (op := .neq) HC hu hv k1 k2 w
      have g2 := aeq_ok HC _ _ _ k2 u' v' hu hv 10000 (by omega) w
      refine pass_of (v' := .bool !b) ?_ (.bool _)
      have g3 := binOp_neq (t := t) (not_odd hu hv (fun _ _ _ _ e1 e2 => by first | exact n1 _ _ _ _ e1 e2 | simp_all) (fun _ _ e1 e2 => by first | exact n2 _ _ e1 e2 | simp_all) k2)
      simp [g1, g3, Op.equal, Op.maxDepth, g2]
end
end Go.Ai
namespace Go.Ai
section
variable {P : Program} {C : Ctx} {ρ : Mp} {h : H} {w : World} {tm : T Value} {a : Act}

inductive OV (ρ : Mp) : Option Value → Option Value → Prop
  | none : OV ρ none none
  | some {v v' : Value} (h : VR ρ v v') : OV ρ (some v) (some v')
theorem evO_ok (ht : TmR ρ tm a.tmps) (hg : GlR C.ng ρ) {x : Option Operand} {v : Option Value} (he : evO C.ng tm x = some v) : OV ρ v (x.map a.eval) := by
  cases x with
  | none => simp [evO] at he; subst he; exact .none
  | some x => simp [evO] at he; obtain ⟨u, h1, rfl⟩ := he; exact .some (ev_ok ht hg h1)

def BoundIs (o : Option Value) (d y n : Nat) : Prop := match o with
  | none => n = d
  | some v => (∃ k, v = .int k (.ofNat n)) ∧ n ≤ y
theorem BoundIs.mono {o : Option Value} {d y y' n : Nat} (h : BoundIs o d y n) (hy : y ≤ y') : BoundIs o d y' n := by
  cases o with
  | none => exact h
  | some v => exact ⟨h.1, Nat.le_trans h.2 hy⟩
theorem BoundIs.le {o : Option Value} {d y n : Nat} (h : BoundIs o d y n) (hd : d ≤ y) : n ≤ y := by
  cases o with
  | none => have : n = d := h; omega
  | some v => exact h.2
theorem bound_ok {v v' : Value} {y n : Nat} (hv : VR ρ v v') (hb : bound v y = some n) : (∃ k, v' = .int k (.ofNat n)) ∧ n ≤ y := by
  simp only [bound, bnd_some] at hb
  obtain ⟨i, h1, h2⟩ := hb
  obtain ⟨k, rfl, rfl⟩ := intOf_ok hv h1
  split at h2
  · simp only [need_some, ok_some] at h2
    obtain ⟨h3, rfl⟩ := h2
    exact ⟨⟨k, rfl⟩, Nat.le_of_ble_eq_true h3⟩
  · simp at h2
theorem boundO_ok {o o' : Option Value} {d y n : Nat} (hv : OV ρ o o') (hb : boundO o d y = some n) : BoundIs o' d y n := by
  cases hv with
  | none => simp [boundO] at hb; exact hb.symm
  | some hv => exact bound_ok hv hb

theorem run_sliceBound {k : IntKind} {n y : Nat} {c : BoundsCode} (hn : n ≤ y) : (Instr.sliceBound (.int k (.ofNat n)) y c).run P w = .ok n w := by
  have h1 : (Int.ofNat n) ≤ (y : Int) := by exact Int.ofNat_le.2 hn
  have h0 : (0 : Int) ≤ Int.ofNat n := Int.natCast_nonneg n
  simp only [Instr.sliceBound, asIntOf, Sem.run_bind, Sem.run_pure, Result.andThen_ok]
  rw [if_pos ⟨h0, h1⟩]
  rfl

theorem run_sliceBounds {isSlice : Bool} {len cap l hh m : Nat} {lo hi mx : Option Value} (hm : BoundIs mx cap cap m) (hhi : BoundIs hi len m hh) (hx : hi = none → mx = none) (hl : BoundIs lo 0 hh l) :
    (Instr.sliceBounds isSlice len cap lo hi mx).run P w = .ok (l, hh, m) w := by
  cases mx with
  | none =>
    have hm : m = cap := hm
    subst hm
    cases hi with
    | none =>
      have hhi : hh = len := hhi
      subst hhi
      cases lo with
      | none => have hl : l = 0 := hl; subst hl; simp [Instr.sliceBounds]
      | some v => obtain ⟨⟨k, rfl⟩, h2⟩ := hl; simp only [Instr.sliceBounds, Sem.run_bind, Sem.run_pure, Result.andThen_ok, run_sliceBound h2]
    | some u =>
      obtain ⟨⟨ku, rfl⟩, hu⟩ := hhi
      cases lo with
      | none => have hl : l = 0 := hl; subst hl; simp only [Instr.sliceBounds, Sem.run_bind, Sem.run_pure, Result.andThen_ok, run_sliceBound hu]
      | some v => obtain ⟨⟨k, rfl⟩, h2⟩ := hl; simp only [Instr.sliceBounds, Sem.run_bind, Sem.run_pure, Result.andThen_ok, run_sliceBound hu, run_sliceBound h2]
  | some z =>
    obtain ⟨⟨kz, rfl⟩, hz⟩ := hm
    cases hi with
    | none => exact absurd (hx rfl) (by simp)
    | some u =>
      obtain ⟨⟨ku, rfl⟩, hu⟩ := hhi
      cases lo with
      | none => have hl : l = 0 := hl; subst hl; simp only [Instr.sliceBounds, Sem.run_bind, Sem.run_pure, Result.andThen_ok, run_sliceBound hz, run_sliceBound hu]
      | some v => obtain ⟨⟨k, rfl⟩, h2⟩ := hl; simp only [Instr.sliceBounds, Sem.run_bind, Sem.run_pure, Result.andThen_ok, run_sliceBound hz, run_sliceBound hu, run_sliceBound h2]

theorem isSome'_ok {o o' : Option Value} (hv : OV ρ o o') : isSome' o = o'.isSome ∧ o.isNone = o'.isNone := by cases hv <;> exact ⟨rfl, rfl⟩

/-- what a slice, of which the capacity is known, is cut to -/
theorem sliceK_ok {b o len cap sz : Nat} {p : Pl} {lo hi mx lo' hi' mx' : Option Value} {v : Value} (hp : ρ b = some p) (hlen : len ≤ cap) (hlo : OV ρ lo lo') (hhi : OV ρ hi hi') (hmx : OV ρ mx mx') (hv : sliceK ⟨b, o, none⟩ len cap sz lo hi mx = some v) (A : Addr)
    (hA : cap = 0 ∨ A = ⟨p.blk, p.off + o, none⟩) : ∃ l hh m, BoundIs mx' cap cap m ∧ BoundIs hi' len m hh ∧ (hi' = none → mx' = none) ∧ BoundIs lo' 0 hh l ∧ VR ρ v (.slice (some (if m = l then A else A.add (l * sz))) (hh - l) (m - l)) := by
  simp only [sliceK, bnd_some, ok_some] at hv
  obtain ⟨m, h1, hh, h2, l, h3, rfl⟩ := hv
  have b1 := boundO_ok hmx h1
  have b3 := boundO_ok hlo h3
  have hmc := b1.le (Nat.le_refl _)
  have hlh := b3.le (Nat.zero_le _)
  have key : BoundIs hi' len m hh ∧ (hi' = none → mx' = none) ∧ hh ≤ m := by
    cases hhi with
    | none =>
      simp only [need_some, ok_some] at h2
      obtain ⟨g1, rfl⟩ := h2
      cases hmx with
      | none => exact ⟨rfl, fun _ => rfl, by have : m = cap := b1; omega⟩
      | some _ => simp at g1
    | some hu => have g := bound_ok hu h2; exact ⟨g, ⟨fun e => (by cases e), g.2⟩⟩
  refine ⟨l, hh, m, b1, key.1, key.2.1, b3, ?_⟩
  rw [addr_add]
  refine .sl hp (by omega) (.inl rfl) ?_
  by_cases he : m = l
  · left; omega
  · right
    rw [if_neg he, hA.resolve_left (by omega), addr_add, Nat.add_assoc]

theorem sliceU_ok {b o len cap c sz : Nat} {p : Pl} {lo hi mx lo' hi' mx' : Option Value} {v : Value} (hp : ρ b = some p) (hlen : len ≤ cap) (hc : p.off + o + cap * sz ≤ p.n) (hcs : c = ucap sz) (hlo : OV ρ lo lo') (hhi : OV ρ hi hi') (hmx : OV ρ mx mx') (hv : sliceU ⟨b, o, none⟩ len c sz lo hi mx = some v) (A : Addr)
    (hA : cap = 0 ∨ A = ⟨p.blk, p.off + o, none⟩) : ∃ l hh m, BoundIs mx' cap cap m ∧ BoundIs hi' len m hh ∧ (hi' = none → mx' = none) ∧ BoundIs lo' 0 hh l ∧ VR ρ v (.slice (some (if m = l then A else A.add (l * sz))) (hh - l) (m - l)) := by
  subst hcs
  simp only [sliceU, bnd_some, need_some] at hv
  obtain ⟨_, m, h1, hh, h2, l, h3, h4⟩ := hv
  have b1 := boundO_ok hmx h1
  have b2 := boundO_ok hhi h2
  have b3 := boundO_ok hlo h3
  have hml := b1.le (Nat.le_refl _)
  have hlh := b3.le (Nat.zero_le _)
  cases hmx with
  | none =>
    have b1 : m = len := b1
    subst b1
    have hhm := b2.le (Nat.le_refl _)
    simp only [ok_some] at h4
    subst h4
    refine ⟨l, hh, cap, rfl, b2.mono hlen, fun _ => rfl, b3, ?_⟩
    rw [addr_add]
    refine .sl hp (by omega) (.inr ⟨sz, rfl, ?_⟩) ?_
    · have : l * sz + (cap - l) * sz = cap * sz := by rw [← Nat.add_mul]; congr 1; omega
      omega
    · by_cases he : cap = l
      · left; omega
      · right; rw [if_neg he, hA.resolve_left (by omega), addr_add, Nat.add_assoc]
  | some hz =>
    simp only [need_some, ok_some] at h4
    obtain ⟨g1, rfl⟩ := h4
    cases hhi with
    | none => simp [isSome'] at g1
    | some hu =>
      have hhm : hh ≤ m := b2.2
      refine ⟨l, hh, m, b1.mono hlen, b2, (fun e => by cases e), b3, ?_⟩
      rw [addr_add]
      refine .sl hp (by omega) (.inl rfl) ?_
      by_cases he : m = l
      · left; omega
      · right; rw [if_neg he, hA.resolve_left (by omega), addr_add, Nat.add_assoc]

theorem CapOk.known {p : Pl} {o c cap : Nat} (h : CapOk p o c cap) (hk : isK c = true) : c / 2 = cap ∧ c = kcap cap := by
  rcases h with rfl | ⟨sz, rfl, _⟩
  · exact ⟨by simp [kcap]; omega, rfl⟩
  · simp [isK, ucap] at hk
theorem CapOk.unknown {p : Pl} {o c cap : Nat} (h : CapOk p o c cap) (hk : isK c = false) : ∃ sz, c = ucap sz ∧ p.off + o + cap * sz ≤ p.n := by
  rcases h with rfl | h
  · simp [isK, kcap] at hk
  · exact h

theorem opSlice_ok (HC : CtxT P C) (ht : TmR ρ tm a.tmps) (hg : GlR C.ng ρ) {t : TypeId} {x : Operand} {lo hi mx : Option Operand} {n : Nx} (ho : opSlice t x lo hi mx C tm h = some n) :
    Pass P ρ h w n ((do pure (Next.value (← Instr.sliceAt t (a.eval x) (lo.map a.eval) (hi.map a.eval) (mx.map a.eval))) : Sem Next).run P w) := by
  simp only [opSlice, bnd_some, val_some] at ho
  obtain ⟨x0, h1, lo0, h2, hi0, h3, mx0, h4, v, h5, rfl⟩ := ho
  have hx := ev_ok ht hg h1
  have hlo := evO_ok ht hg h2
  have hhi := evO_ok ht hg h3
  have hmx := evO_ok ht hg h4
  revert hx hlo hhi hmx
  generalize a.eval x = x'
  generalize lo.map a.eval = lo'
  generalize hi.map a.eval = hi'
  generalize mx.map a.eval = mx'
  intro hx hlo hhi hmx
  simp only [aSlice, bnd_some] at h5
  obtain ⟨ti, h6, h7⟩ := h5
  have T := (HC.tt _ ti (tinfo_some.1 h6))
  split at h7
  · rename_i s hd
    simp only [need_some, bnd_some, ok_some] at h7
    obtain ⟨g0, hh, g1, l, g2, rfl⟩ := h7
    rw [hx.string_inv]
    have hmx0 : mx' = none := by
      have := (isSome'_ok hmx).2; rw [this] at g0; simpa using g0
    subst hmx0
    have := run_sliceBounds (P := P) (w := w) (isSlice := false) (len := s.size) (cap := s.size) (mx := none) (m := s.size) rfl (boundO_ok hhi g1) (fun _ => rfl) (boundO_ok hlo g2)
    refine pass_of ?_ (.string _)
    simp [Instr.sliceAt, Instr.slice, T.run_und, hd, this]
  · rename_i e q len c hd
    simp only [bnd_some] at h7
    obtain ⟨ei, g0, h7⟩ := h7
    have E := (HC.tt _ ei (tinfo_some.1 g0))
    split at h7
    · simp only [bnd_some, need_some, ok_some] at h7
      obtain ⟨m, g1, hh, g2, l, g3, g4, rfl⟩ := h7
      obtain ⟨rfl, rfl, rfl⟩ := hx.nilSl_inv
      have b1 := boundO_ok hmx g1
      have b2 := boundO_ok hhi g2
      have b3 := boundO_ok hlo g3
      have e1 := b1.le (Nat.le_refl _)
      have e2 := b2.le (by omega)
      have e3 := b3.le (by omega)
      have f1 : m = 0 := by omega
      have f2 : hh = 0 := by omega
      have f3 : l = 0 := by omega
      clear e1 e2 e3
      subst f1; subst f2; subst f3
      have := run_sliceBounds (P := P) (w := w) (isSlice := true) b1 b2 (fun e => by
        have := isSome'_ok hmx; have := isSome'_ok hhi; subst e; simp_all) b3
      refine pass_of (v' := .slice none 0 0) ?_ .nilSl
      simp [Instr.sliceAt, Instr.slice, T.run_und, hd, this, E.run_size]
    · rename_i A
      obtain ⟨b, o, p, a', cap, rfl, hp, rfl, hl, hc, ha⟩ := hx.sl_inv
      have fin : ∀ v, (∃ l hh m, BoundIs mx' cap cap m ∧ BoundIs hi' len m hh ∧ (hi' = none → mx' = none) ∧ BoundIs lo' 0 hh l ∧ VR ρ v (.slice (some (if m = l then a' else a'.add (l * ei.size))) (hh - l) (m - l))) →
          Pass P ρ h w (.val v h) ((do pure (Next.value (← Instr.sliceAt t (.slice (some a') len cap) lo' hi' mx')) : Sem Next).run P w) := by
        rintro v ⟨l, hh, m, k1, k2, k3, k4, k5⟩
        have := run_sliceBounds (P := P) (w := w) (isSlice := true) k1 k2 k3 k4
        refine pass_of ?_ k5
        simp [Instr.sliceAt, Instr.slice, T.run_und, hd, this, E.run_size]
        by_cases hml : m = l <;> simp [hml]
      split at h7
      · rename_i hk
        obtain ⟨c1, _⟩ := hc.known hk
        rw [c1] at h7
        exact fin _ (sliceK_ok hp hl hlo hhi hmx h7 a' ha)
      · rename_i hk
        obtain ⟨sz, rfl, c2⟩ := hc.unknown hk
        have hsz : ucap sz = ucap ei.size := by
          simp only [sliceU, need_some] at h7
          simpa using h7.1
        have : sz = ei.size := by simp only [ucap] at hsz; omega
        subst this
        exact fin _ (sliceU_ok hp hl c2 rfl hlo hhi hmx h7 a' ha)
  · rename_i m e A hd
    simp only [bnd_some] at h7
    obtain ⟨ei, g0, h7⟩ := h7
    have E := (HC.tt _ ei (tinfo_some.1 g0))
    obtain ⟨b, o, p, rfl, hp, rfl⟩ := hx.ptr_inv
    obtain ⟨l, hh, m', k1, k2, k3, k4, k5⟩ := sliceK_ok hp (Nat.le_refl _) hlo hhi hmx h7 ⟨p.blk, p.off + o, none⟩ (.inr rfl)
    have := run_sliceBounds (P := P) (w := w) (isSlice := false) k1 k2 k3 k4
    refine pass_of ?_ k5
    simp [Instr.sliceAt, T.run_und, hd, this, E.run_size, Instr.sureAddr]
  · simp at h7
end
end Go.Ai
namespace Go.Ai
open Go.MapKept (IsKey run_checkKey run_findKey)
section
variable {P : Program} {C : Ctx} {ρ : Mp} {h : H} {w : World} {tm : T Value} {a : Act}

theorem flat1_eq {v v' : Value} (hv : VR ρ v v') (hf : flat 1 v = true) : v' = v := by
  unfold flat at hf
  split at hf
  · exact hv.bool_inv
  · exact hv.int_inv
  · cases hv; rfl
  · cases hv; rfl
  · exact hv.string_inv
  · exact hv.nilPtr_inv
  · obtain ⟨_, _, rfl⟩ := hv.nilSl_inv; rfl
  · exact hv.nilMap_inv
  · cases hv; rfl
  · exact hv.nilFunc_inv
  · exact hv.nilIface_inv
  · simp [flat] at hf
  · rename_i vs
    obtain ⟨cs', rfl, hc⟩ := hv.agg_inv
    have : vs.toList = [] := by
      cases hl : vs.toList with
      | nil => rfl
      | cons x xs => rw [hl] at hf; simp [flat] at hf
    rw [this] at hc
    obtain ⟨vs⟩ := vs; obtain ⟨cs'⟩ := cs'
    simp at this; subst this
    cases hc; rfl
  · rename_i vs
    obtain ⟨cs', rfl, hc⟩ := hv.tuple_inv
    have : vs.toList = [] := by
      cases hl : vs.toList with
      | nil => rfl
      | cons x xs => rw [hl] at hf; simp [flat] at hf
    rw [this] at hc
    obtain ⟨vs⟩ := vs; obtain ⟨cs'⟩ := cs'
    simp at this; subst this
    cases hc; rfl
  · cases hf
theorem flats_eq : ∀ {vs vs' : List Value}, VRs ρ vs vs' → vs.all (flat 1) = true → vs' = vs
  | _, _, .nil, _ => rfl
  | _, _, .cons h1 h2, hf => by
    simp at hf
    rw [flat1_eq h1 hf.1, flats_eq h2 (by simpa using hf.2)]

/-! ### maps -/
theorem run_getMap {r : Nat} {es : Array MapEntry} {clock : Nat} (hb : w.heap[r]? = some (.map es clock)) : (getObj r).run P w = .ok (.map es clock) w := by simp [getObj, Sem.run, hb]
theorem mapAt_ok {r : Nat} {p : Pl} {ec : List MapEntry × Nat} (hr : HAt ρ h w r) (hp : ρ r = some p) (hm : mapAt h r = some ec) : ∃ es', w.heap[p.blk]? = some (.map ⟨es'⟩ ec.2) ∧ EnsR ρ ec.1 es' := by
  unfold mapAt at hm
  split at hm
  · rename_i es c hg
    simp at hm; subst hm
    cases hr _ _ hg hp with
    | map hw he => exact ⟨_, hw, he⟩
  · simp at hm
theorem isKey_of {d : TypeDesc} {k : Value} (hk : plainKey d k = true) : IsKey d k := by
  unfold plainKey at hk
  split at hk <;> simp_all [IsKey]
theorem plainKey_eq {d : TypeDesc} {k k' : Value} (hk : plainKey d k = true) (hv : VR ρ k k') : k' = k := by
  unfold plainKey at hk
  split at hk
  · exact hv.int_inv
  · exact hv.string_inv
  · exact hv.bool_inv
  · simp at hk
theorem keyDesc_ok (HC : CtxT P C) {t : TypeId} {kd : TypeDesc × TypeId} (hk : keyDesc C t = some kd) : ∃ k, P.underlying t = some (.map k kd.2) ∧ P.underlying k = some kd.1 := by
  simp only [keyDesc, bnd_some] at hk
  obtain ⟨ti, h1, h2⟩ := hk
  have T := HC.tt _ ti (tinfo_some.1 h1)
  split at h2
  · rename_i k e hd
    simp only [bnd_some, ok_some] at h2
    obtain ⟨ki, h3, rfl⟩ := h2
    exact ⟨k, hd ▸ T.und, (HC.tt _ ki (tinfo_some.1 h3)).und⟩
  · simp at h2

inductive FR (ρ : Mp) : Option (Nat × Value) → Option (Nat × Value) → Prop
  | none : FR ρ none none
  | some {i : Nat} {v v' : Value} (h : VR ρ v v') : FR ρ (some (i, v)) (some (i, v'))
theorem sameKey_now {d : TypeDesc} {k x : Value} {b : Bool} (hk : plainKey d k = true) (hs : sameKey k x = some b) : Instr.sameNow d k x = some b := by
  unfold sameKey at hs
  split at hs
  · rename_i j m k n
    simp only [need_some, ok_some] at hs
    obtain ⟨h1, rfl⟩ := hs
    have h1 := of_decide_eq_true h1
    subst h1
    cases d <;> simp_all [plainKey, Instr.sameNow]
  · simp at hs; subst hs
    cases d <;> simp_all [plainKey, Instr.sameNow]
  · simp at hs; subst hs
    cases d <;> simp_all [plainKey, Instr.sameNow]
  · simp at hs
theorem findK_ok {d : TypeDesc} {k : Value} (hk : plainKey d k = true) : ∀ {es es' : List MapEntry} {i : Nat} {f : Option (Nat × Value)}, EnsR ρ es es' → findK k es i = some f →
    ∃ f', Instr.findNow d k es' i = some f' ∧ FR ρ f f'
  | _, _, i, f, .nil, hf => by simp [findK] at hf; subst hf; exact ⟨none, rfl, .none⟩
  | _, _, i, f, .cons h1 h2 hs, hf => by
    simp only [findK, bnd_some] at hf
    obtain ⟨b, g1, g2⟩ := hf
    have := sameKey_now hk g1
    simp only [Instr.findNow, this]
    cases b with
    | true => simp at g2; subst g2; exact ⟨_, rfl, .some h1⟩
    | false => exact findK_ok hk hs g2
/-- what was found stands there -/
theorem findK_at {k : Value} : ∀ {es : List MapEntry} {i j : Nat} {v : Value}, findK k es i = some (some (j, v)) → ∃ e, es[j - i]? = some e ∧ i ≤ j ∧ e.val = v ∧ sameKey k e.key = some true
  | [], i, j, v, hf => by simp [findK] at hf
  | e :: es, i, j, v, hf => by
    simp only [findK, bnd_some] at hf
    obtain ⟨b, g1, g2⟩ := hf
    cases b with
    | true => simp at g2; obtain ⟨rfl, rfl⟩ := g2; exact ⟨e, by simp, Nat.le_refl _, rfl, g1⟩
    | false =>
      obtain ⟨e', k1, k2, k3, k4⟩ := findK_at g2
      refine ⟨e', ?_, by omega, k3, k4⟩
      have : j - i = (j - (i + 1)) + 1 := by omega
      rw [this]; simpa using k1

theorem opLookup_ok (HC : CtxT P C) (ht : TmR ρ tm a.tmps) (hg : GlR C.ng ρ) {t : TypeId} {m k : Operand} {comma : Bool} {n : Nx} (ho : opLookup t m k comma C tm h = some n) (r : ∀ b, ev C.ng tm m = some (.map (some b)) → HAt ρ h w b) :
    Pass P ρ h w n ((do pure (Next.value (← Instr.lookup t (a.eval m) (a.eval k) comma)) : Sem Next).run P w) := by
  simp only [opLookup, bnd_some, val_some] at ho
  obtain ⟨m0, h1, k0, h2, v, h3, rfl⟩ := ho
  have hm := ev_ok ht hg h1
  have hk := ev_ok ht hg h2
  revert hm hk
  generalize a.eval m = m'
  generalize a.eval k = k'
  intro hm hk
  simp only [aLookup, bnd_some, need_some] at h3
  obtain ⟨kd, g1, g2, ec, g3, f, g4, vb, g5, g6⟩ := h3
  obtain ⟨kt, u1, u2⟩ := keyDesc_ok HC g1
  have hkk := plainKey_eq g2 hk
  subst hkk
  have ik := isKey_of g2
  have fin : ∀ (es : Array MapEntry), EnsR ρ ec.1 es.toList → (∀ f', (∀ b, (Instr.checkKey b 10000 kt k').run P w = .ok () w) → (Instr.findKey kt k' es.toList).run P w = .ok f' w →
      (Instr.lookup t m' k' comma).run P w = match f' with
        | some (_, v) => .ok (if comma then .tuple #[v, .bool true] else v) w
        | none => ((zeroValue kd.2).run P w).andThen fun z w => .ok (if comma then .tuple #[z, .bool false] else z) w) →
      Pass P ρ h w (.val v h) ((do pure (Next.value (← Instr.lookup t m' k' comma)) : Sem Next).run P w) := by
    intro es he hr
    obtain ⟨f', f1, f2⟩ := findK_ok g2 he g4
    have hr := hr f' (fun b => run_checkKey (P := P) (w := w) u2 ik b 9999) (run_findKey (P := P) (w := w) u2 f1)
    have key : ∃ v', (Instr.lookup t m' k' comma).run P w = .ok v' w ∧ VR ρ v v' := by
      rw [hr]
      cases f2 with
      | none =>
        simp only [bnd_some, ok_some] at g5
        obtain ⟨z, z1, rfl⟩ := g5
        obtain ⟨z2, z3⟩ := zeroOf_ok (ρ := ρ) HC z1 w
        simp only [ok_some] at g6
        subst g6
        refine ⟨if comma = true then Value.tuple #[z, Value.bool false] else z, by simp only [z2, Result.andThen_ok], ?_⟩
        cases comma
        · simpa using z3
        · exact .tuple (.cons z3 (.cons (.bool _) .nil))
      | some hv =>
        simp only [ok_some] at g5
        subst g5
        simp only [ok_some] at g6
        subst g6
        refine ⟨_, rfl, ?_⟩
        cases comma
        · simpa using hv
        · exact .tuple (.cons hv (.cons (.bool _) .nil))
    obtain ⟨v', k1, k2⟩ := key
    exact pass_of k1 k2
  split at g3
  · simp at g3; subst g3
    have := hm.nilMap_inv; subst this
    refine fin #[] .nil ?_
    intro f' c1 c2
    simp only [Instr.lookup, Sem.run_bind, run_underlying u1, Result.andThen_ok, Sem.run_pure, c1, c2]
    cases f' with
    | none => simp only [Sem.run_bind, Sem.run_pure, Result.andThen_ok]
    | some q => rfl
  · rename_i b
    obtain ⟨p, hp, rfl⟩ := hm.map_inv
    obtain ⟨es', k1, k2⟩ := mapAt_ok (r b h1) hp g3
    refine fin ⟨es'⟩ k2 ?_
    intro f' c1 c2
    simp only [Instr.lookup, Sem.run_bind, run_underlying u1, Result.andThen_ok, Sem.run_pure, c1, c2, run_getMap k1]
    cases f' with
    | none => simp only [Sem.run_bind, Sem.run_pure, Result.andThen_ok]
    | some q => rfl
  · simp at g3

/-! ### built-in functions that leave memory alone -/
theorem len_ok (HC : CtxT P C) {t : TypeId} {ats : Array TypeId} {ty : TypeId} {x x' v : Value} (hx : VR ρ x x') (ha : ats[0]? = some t) (hv : aLen C t x h = some v) (r : ∀ b, x = .map (some b) → HAt ρ h w b) :
    (Builtin.len_ ats ty #[x']).run P w = .ok v w ∧ VR ρ v v := by
  simp only [aLen, bnd_some] at hv
  obtain ⟨ti, g1, g2⟩ := hv
  have T := HC.tt _ ti (tinfo_some.1 g1)
  split at g2
  · rename_i s hd
    simp at g2; subst g2
    rw [hx.string_inv]
    exact ⟨by simp [Builtin.len_, ha, T.run_und, hd, goInt], .int _ _⟩
  · rename_i e q n c hd
    simp at g2; subst g2
    refine ⟨?_, .int _ _⟩
    cases q with
    | none => obtain ⟨rfl, rfl, rfl⟩ := hx.nilSl_inv; simp [Builtin.len_, ha, T.run_und, hd, goInt]
    | some q => obtain ⟨_, _, _, _, _, _, _, rfl, _⟩ := hx.sl_inv; simp [Builtin.len_, ha, T.run_und, hd, goInt]
  · rename_i n e hd
    simp at g2; subst g2
    exact ⟨by simp [Builtin.len_, ha, T.run_und, hd, goInt], .int _ _⟩
  · rename_i k e hd
    simp at g2; subst g2
    rw [hx.nilMap_inv]
    exact ⟨by simp [Builtin.len_, ha, T.run_und, hd, goInt], .int _ _⟩
  · rename_i k e b hd
    simp only [bnd_some, ok_some] at g2
    obtain ⟨ec, g3, rfl⟩ := g2
    obtain ⟨p, hp, rfl⟩ := hx.map_inv
    obtain ⟨es', k1, k2⟩ := mapAt_ok (r b rfl) hp g3
    have hl : ∀ {es es' : List MapEntry}, EnsR ρ es es' → es'.length = es.length := by
      intro es es' hh; induction hh with
      | nil => rfl
      | cons _ _ _ ih => simp [ih]
    exact ⟨by simp [Builtin.len_, ha, T.run_und, hd, goInt, run_getMap k1, hl k2], .int _ _⟩
  · rename_i arr hd
    simp only [bnd_some] at g2
    obtain ⟨ai, g3, g4⟩ := g2
    have A := HC.tt _ ai (tinfo_some.1 g3)
    split at g4
    · rename_i n e hd2
      simp at g4; subst g4
      exact ⟨by simp [Builtin.len_, ha, T.run_und, hd, goInt, A.run_und, hd2], .int _ _⟩
    · simp at g4
  · simp at g2
theorem cap_ok (HC : CtxT P C) {t : TypeId} {ats : Array TypeId} {ty : TypeId} {x x' v : Value} (hx : VR ρ x x') (ha : ats[0]? = some t) (hv : aCap C t x = some v) :
    (Builtin.cap_ ats ty #[x']).run P w = .ok v w ∧ VR ρ v v := by
  simp only [aCap, bnd_some] at hv
  obtain ⟨ti, g1, g2⟩ := hv
  have T := HC.tt _ ti (tinfo_some.1 g1)
  split at g2
  · rename_i e n c hd
    simp at g2; subst g2
    obtain ⟨rfl, rfl, rfl⟩ := hx.nilSl_inv
    exact ⟨by simp [Builtin.cap_, ha, T.run_und, hd, goInt], .int _ _⟩
  · rename_i e q n c hd
    simp only [need_some, ok_some] at g2
    obtain ⟨g3, rfl⟩ := g2
    obtain ⟨_, _, _, _, cap, _, _, rfl, _, hc, _⟩ := hx.sl_inv
    have := (hc.known g3).1
    exact ⟨by simp [Builtin.cap_, ha, T.run_und, hd, goInt, this], .int _ _⟩
  · simp at g2
end
end Go.Ai
namespace Go.Ai
section
variable {P : Program} {C : Ctx} {ρ : Mp} {h : H} {w : World} {tm : T Value} {a : Act}

/-- an operation that answers, and may have changed memory -/
def Done (ρ : Mp) (h : H) (w : World) (n : Nx) (res : Result Next) : Prop :=
  ∃ v h' ρ' w' nx v', n = .val v h' ∧ res = .ok nx w' ∧ (nx = .value v' ∨ (nx = .skip ∧ v' = undef)) ∧ VR ρ' v v' ∧ HR ρ' h' w' ∧ Ext ρ h w ρ' h' w'
theorem Pass.done (r : HR ρ h w) {n : Nx} {res : Result Next} (p : Pass P ρ h w n res) : Done ρ h w n res := by
  obtain ⟨v, v', h1, h2, h3⟩ := p
  exact ⟨v, h, ρ, w, .value v', v', h1, h2, .inl rfl, h3, r, Ext.refl _ _ _⟩
theorem done_of {s : Sem Value} {v v' : Value} {h' : H} {ρ' : Mp} {w' : World} (hr : s.run P w = .ok v' w') (hv : VR ρ' v v') (r : HR ρ' h' w') (e : Ext ρ h w ρ' h' w') : Done ρ h w (.val v h') ((do pure (Next.value (← s)) : Sem Next).run P w) :=
  ⟨v, h', ρ', w', .value v', v', rfl, by simp [hr], .inl rfl, hv, r, e⟩
theorem done_unit {s : Sem Unit} {h' : H} {ρ' : Mp} {w' : World} (hr : s.run P w = .ok () w') (r : HR ρ' h' w') (e : Ext ρ h w ρ' h' w') : Done ρ h w (.val undef h') ((do s; pure Next.skip : Sem Next).run P w) :=
  ⟨undef, h', ρ', w', .skip, undef, rfl, by simp [hr], .inr ⟨rfl, rfl⟩, .tuple .nil, r, e⟩

theorem HR.drew (r : HR ρ h w) : HR ρ h w.drew := r.world rfl
theorem Ext.drew : Ext ρ h w ρ h w.drew := Ext.world rfl rfl rfl rfl

theorem alloc_get (w : World) (o : Obj) : (w.alloc o).heap[w.heap.size]? = some o := by
  show (w.heap.push o)[w.heap.size]? = some o
  simp

/-- a new row of cells -/
theorem newCells_ok (r : HR ρ h w) {cs : List Value} {arr : Array Value} (e : TypeId) (fr : Nat × Nat) (hl : cs.length ≤ arr.size) (hc : ∀ (j : Nat) v, cs[j]? = some v → ∃ v', arr[j]? = some v' ∧ VR ρ v v') (hf : fr.2 = 0) :
    HR (ρ.put h.ctr ⟨w.heap.size, 0, arr.size⟩) (newCells h cs e) (w.alloc (.cells arr e fr)) ∧ Ext ρ h w (ρ.put h.ctr ⟨w.heap.size, 0, arr.size⟩) (newCells h cs e) (w.alloc (.cells arr e fr)) := by
  have hle := Mp.le_put (p := ⟨w.heap.size, 0, arr.size⟩) r.none_ctr
  refine newB_ok r _ _ _ (Nat.le_refl _) ?_
  exact .cells (alloc_get w _) rfl (by simpa using hl) (fun j v hj => by
    obtain ⟨v', h1, h2⟩ := hc j v hj
    exact ⟨v', by simpa using h1, h2.mono hle⟩) (.inl (by rw [hf]; exact Nat.zero_le _))
theorem newBytes_ok (r : HR ρ h w) {bs : List UInt8} {arr : Array Value} (e : TypeId) (fr : Nat × Nat) (hl : bs.length ≤ arr.size) (hc : ∀ (j : Nat) v, bs[j]? = some v → arr[j]? = some (byteV v)) (hf : fr.2 = 0) :
    HR (ρ.put h.ctr ⟨w.heap.size, 0, arr.size⟩) (newBytes h bs e) (w.alloc (.cells arr e fr)) ∧ Ext ρ h w (ρ.put h.ctr ⟨w.heap.size, 0, arr.size⟩) (newBytes h bs e) (w.alloc (.cells arr e fr)) := by
  refine newB_ok r _ _ _ (Nat.le_refl _) ?_
  exact .bytes (alloc_get w _) rfl (by simpa using hl) (fun j v hj => by simpa using hc j v hj) (.inl (by rw [hf]; exact Nat.zero_le _))
theorem newMarked_ok (r : HR ρ h w) {bs : List UInt8} {arr : Array Value} (e : TypeId) (hl : bs.length ≤ arr.size) (hc : ∀ (j : Nat) v, bs[j]? = some v → arr[j]? = some (byteV v)) :
    HR (ρ.put h.ctr ⟨w.heap.size, 0, arr.size⟩) (newB h (.bytes bs e h.ctr 1)) (w.alloc (.cells arr e (arr.size, arr.size + 1))) ∧ Ext ρ h w (ρ.put h.ctr ⟨w.heap.size, 0, arr.size⟩) (newB h (.bytes bs e h.ctr 1)) (w.alloc (.cells arr e (arr.size, arr.size + 1))) := by
  refine newB_ok r _ _ _ (Nat.le_refl _) ?_
  exact .bytes (alloc_get w _) rfl (by simpa using hl) (fun j v hj => by simpa using hc j v hj) (.inr ⟨rfl, Nat.le_refl _⟩)
theorem put_self (ρ : Mp) (b : Nat) (p : Pl) : ρ.put b p b = some p := by simp [Mp.put]
theorem VRs.cells_get {vs vs' : List Value} (hv : VRs ρ vs vs') : ∀ (j : Nat) v, vs[j]? = some v → ∃ v', (vs'.toArray)[j]? = some v' ∧ VR ρ v v' := by
  intro j v hj
  obtain ⟨v', h1, h2⟩ := hv.get hj
  exact ⟨v', by simpa using h1, h2⟩
/-- the pointer to what was just laid -/
theorem ptr_new {x : Pl} (hx : x.off = 0) : VR (ρ.put h.ctr x) (.pointer (some (atNew h))) (.pointer (some ⟨x.blk, 0, none⟩)) := by
  have := VR.ptr (o := 0) (put_self ρ h.ctr x)
  rw [hx] at this
  exact this
theorem sl_new {x : Pl} (hx : x.off = 0) {len c cap : Nat} (hl : len ≤ cap) (hc : CapOk x 0 c cap) : VR (ρ.put h.ctr x) (.slice (some (atNew h)) len c) (.slice (some ⟨x.blk, 0, none⟩) len cap) := by
  have := VR.sl (o := 0) (a := ⟨x.blk, 0, none⟩) (put_self ρ h.ctr x) hl hc (.inr (by rw [hx]))
  exact this

theorem opAlloc_ok (HC : CtxT P C) (r : HR ρ h w) {e : TypeId} {n : Nx} (ho : opAlloc e C tm h = some n) :
    Done ρ h w n ((do pure (Next.value (← Instr.alloc e true (.tuple #[]))) : Sem Next).run P w) := by
  simp only [opAlloc, bnd_some, ok_some] at ho
  obtain ⟨ti, h1, rfl⟩ := ho
  have T := HC.tt _ ti (tinfo_some.1 h1)
  obtain ⟨z, z1, z2⟩ := T.run_zero w
  have hz := ofCells_cells z2 T.one
  have zr : VRs ρ ti.zero z.cells.toList := by
    have : z.cells.toList = ti.zero := by
      rw [← hz]; cases z <;> rfl
    rw [this]; exact T.zero_VR ρ
  obtain ⟨k1, k2⟩ := newCells_ok r (cs := ti.zero) (arr := z.cells) e (0, 0) (by have := zr.length; simp at this; omega) (by have := zr.cells_get; simpa using this) rfl
  refine done_of (v' := .pointer (some ⟨w.heap.size, 0, none⟩)) ?_ (ptr_new rfl) k1 k2
  simp [Instr.alloc, z1, newVar, newRow]

theorem opBox_ok (ht : TmR ρ tm a.tmps) (hg : GlR C.ng ρ) (r : HR ρ h w) {e : TypeId} {x : Operand} {n : Nx} (ho : opBox e x C tm h = some n) :
    Done ρ h w n ((do pure (Next.value (← Instr.box e (a.eval x))) : Sem Next).run P w) := by
  simp only [opBox, bnd_some, ok_some] at ho
  obtain ⟨v, h1, rfl⟩ := ho
  have hv := (ev_ok ht hg h1).vcells
  obtain ⟨k1, k2⟩ := newCells_ok r (cs := vcells v) (arr := (a.eval x).cells) e (0, 0) (by have := hv.length; simp at this; omega) (by have := hv.cells_get; simpa using this) rfl
  refine done_of (v' := .pointer (some ⟨w.heap.size, 0, none⟩)) ?_ (ptr_new rfl) k1 k2
  simp [Instr.box, newVar, newRow]

theorem repeatL_get {α : Type} (l : List α) : ∀ (n j : Nat), j < n * l.length → (repeatL n l)[j]? = l[j % l.length]?
  | 0, j, hj => by simp at hj
  | n + 1, j, hj => by
    simp only [repeatL]
    rw [List.getElem?_append]
    split
    · rename_i hlt; rw [Nat.mod_eq_of_lt hlt]
    · rename_i hlt
      have hlt := Nat.le_of_not_lt hlt
      rw [repeatL_get l n (j - l.length) (by rw [Nat.add_mul] at hj; omega), Nat.mod_eq_sub_mod hlt]
theorem repeatL_length {α : Type} (l : List α) : ∀ n, (repeatL n l).length = n * l.length
  | 0 => by simp [repeatL]
  | n + 1 => by simp [repeatL, repeatL_length l n, Nat.add_mul]; omega
/-- the zeros of a row, as the model lays them -/
theorem zeros_VR (ρ : Mp) {c : Nat} {ti : TI} {t : TypeId} (T : TIok P t ti) {z : Array Value} (hz : z.toList = ti.zero ∨ c * ti.size = 0) : VRs ρ (repeatL c ti.zero) ((Array.range (c * ti.size)).map (z[· % z.size]!)).toList := by
  have zr := T.zero_VR ρ
  refine VRs.of_get (by simp [repeatL_length, T.len]) ?_
  intro j v hj
  have hlt : j < c * ti.zero.length := by rw [← repeatL_length]; exact (List.getElem?_eq_some_iff.1 hj).1
  have hz := hz.resolve_right (by rw [← T.len]; omega)
  rw [repeatL_get _ _ _ hlt] at hj
  obtain ⟨v', h1, h2⟩ := zr.get hj
  rw [hj] at h1; cases h1
  refine ⟨v, ?_, h2⟩
  have hs : z.size = ti.zero.length := by rw [← hz]; simp
  have hzj : z[j % z.size]? = some v := by rw [hs, ← Array.getElem?_toList, hz]; exact hj
  rw [Array.getElem?_toList, Array.getElem?_map]
  rw [T.len] at hlt
  simp [hlt, getElem!_def, hzj]

theorem opBuildSlice_ok (HC : CtxT P C) (ht : TmR ρ tm a.tmps) (hg : GlR C.ng ρ) (r : HR ρ h w) {t : TypeId} {len : Nat} {parts : Array (Nat × Operand)} {n : Nx} (ho : opBuildSlice t len parts C tm h = some n) :
    Done ρ h w n ((do pure (Next.value (← Instr.buildSlice t len (parts.map fun (i, x) => (i, a.eval x)))) : Sem Next).run P w) := by
  simp only [opBuildSlice, bnd_some] at ho
  obtain ⟨ti, h1, h2⟩ := ho
  have T := HC.tt _ ti (tinfo_some.1 h1)
  split at h2
  · rename_i e hd
    simp only [bnd_some, need_some, ok_some] at h2
    obtain ⟨ei, h3, ps, h4, h5, rfl⟩ := h2
    have E := HC.tt _ ei (tinfo_some.1 h3)
    have h5 := Nat.le_of_ble_eq_true h5
    obtain ⟨g1, g2⟩ := buildParts_ok ht hg h4
    obtain ⟨z, z1, z2⟩ := E.run_zero w
    have hz := ofCells_cells z2 E.one
    have hzc : z.cells.toList = ei.zero := by rw [← hz]; cases z <;> rfl
    have hmap : (parts.map fun x => match x with | (i, x) => (i, a.eval x)) = parts.map fun (x : Nat × Operand) => (x.1, a.eval x.2) := rfl
    have main : ∀ zz : Array Value, (zz.toList = ei.zero ∨ len * ei.size = 0) → ∃ out : List Value, Instr.fill (fun i => some (i * ei.size, ei.size)) ((Array.range (len * ei.size)).map (zz[· % zz.size]!)) (parts.toList.map fun x => (x.1, a.eval x.2)) = some ⟨out⟩ ∧ VRs ρ (fillC (repeatL len ei.zero) ps) out := by
      intro zz hzz
      have hzero := zeros_VR (P := P) ρ E (c := len) hzz
      have := fill_ok (place' := fun i => some (i * ei.size, ei.size)) ps (parts.toList.map fun x => (x.1, a.eval x.2)) _ _ hzero (by simp [g1]) (fun j x hj => by
        obtain ⟨i, o, k1, k2, k3, _⟩ := g2 j x hj
        refine ⟨i, a.eval o, by simp [k1], k2, ?_⟩
        simp only [place, hd, bnd_some, ok_some, h3] at k3
        obtain ⟨fi, e1, e2⟩ := k3
        cases e1
        rw [e2]) (fun j x hj => by
        obtain ⟨i, o, _, _, _, k4⟩ := g2 j x hj
        rw [repeatL_length, E.len]; exact k4)
      obtain ⟨out, k1, k2⟩ := this
      exact ⟨out, k1, k2⟩
    have hu := hd ▸ T.und
    rw [hmap]
    have key : ∃ out : List Value, (Instr.buildSlice t len (parts.map fun (x : Nat × Operand) => (x.1, a.eval x.2))).run P w = .ok (.slice (some ⟨w.heap.size, 0, none⟩) len len) (w.alloc (.cells ⟨out⟩ e (0, 0))) ∧ VRs ρ (fillC (repeatL len ei.zero) ps) out := by
      have h5' : ¬ (16777216 < len * ei.size) := by omega
      by_cases h0 : len * ei.size = 0
      · obtain ⟨out, k1, k2⟩ := main #[] (.inr h0)
        refine ⟨out, ?_, k2⟩
        simp only [Instr.buildSlice, Sem.run_bind, run_underlying hu, Result.andThen_ok, E.run_size, Sem.run_ite, gt_iff_lt]
        rw [if_neg (by omega), if_pos h0]
        simp only [Sem.run_pure, Result.andThen_ok, Array.toList_map, k1]
        simp [newRow]
      · obtain ⟨out, k1, k2⟩ := main z.cells (.inl hzc)
        refine ⟨out, ?_, k2⟩
        simp only [Instr.buildSlice, Sem.run_bind, run_underlying hu, Result.andThen_ok, E.run_size, Sem.run_ite, gt_iff_lt]
        rw [if_neg (by omega), if_neg h0]
        simp only [Sem.run_pure, Result.andThen_ok, Sem.run_bind, z1, Array.toList_map, k1]
        simp [newRow]
    obtain ⟨out, hr, hv⟩ := key
    obtain ⟨k1, k2⟩ := newCells_ok r (cs := fillC (repeatL len ei.zero) ps) (arr := ⟨out⟩) e (0, 0) (by have := hv.length; simp; omega) (by have := hv.cells_get; simpa using this) rfl
    exact done_of hr (sl_new rfl (Nat.le_refl _) (.inl rfl)) k1 k2
  · simp at h2

theorem opMap_ok (HC : CtxT P C) (ht : TmR ρ tm a.tmps) (hg : GlR C.ng ρ) (r : HR ρ h w) {t : TypeId} {x : Option Operand} {n : Nx} (ho : opMap t x C tm h = some n) :
    Done ρ h w n ((do pure (Next.value (← Instr.makeMap t (x.map a.eval))) : Sem Next).run P w) := by
  obtain ⟨k1, k2⟩ := newB_ok r (.map [] 0) (.map #[] 0) 0 (Nat.le_refl _) (.map (es' := []) (alloc_get w _) .nil)
  have fin : (Instr.makeMap t (x.map a.eval)).run P w = .ok (.map (some w.heap.size)) (w.alloc (.map #[] 0)) → n = .val (.map (some h.ctr)) (newB h (.map [] 0)) → Done ρ h w n ((do pure (Next.value (← Instr.makeMap t (x.map a.eval))) : Sem Next).run P w) := by
    intro hr hn
    subst hn
    exact done_of hr (.map (put_self _ _ _)) k1 k2
  cases x with
  | none =>
    simp only [opMap, ok_some] at ho
    exact fin (by simp [Instr.makeMap]) ho.symm
  | some x =>
    simp only [opMap, bnd_some, ok_some] at ho
    obtain ⟨v, h1, i, h2, kd, h3, rfl⟩ := ho
    obtain ⟨k, _, hx⟩ := intOf_ok (ev_ok ht hg h1) h2
    obtain ⟨kt, u1, _⟩ := keyDesc_ok HC h3
    refine fin ?_ rfl
    simp [Instr.makeMap, hx, run_underlying u1, asInt, asIntOf]

theorem opRange_ok (HC : CtxT P C) (ht : TmR ρ tm a.tmps) (hg : GlR C.ng ρ) (r : HR ρ h w) {t : TypeId} {x : Operand} {n : Nx} (ho : opRange t x C tm h = some n) :
    Done ρ h w n ((do pure (Next.value (← Instr.range t (a.eval x))) : Sem Next).run P w) := by
  simp only [opRange, bnd_some, ok_some] at ho
  obtain ⟨v, h1, b, h2, rfl⟩ := ho
  have hv := ev_ok ht hg h1
  revert hv
  generalize a.eval x = v'
  intro hv
  simp only [aRange, bnd_some] at h2
  obtain ⟨ti, h3, h4⟩ := h2
  have T := HC.tt _ ti (tinfo_some.1 h3)
  split at h4
  · rename_i s hd
    simp at h4; subst h4
    rw [hv.string_inv]
    obtain ⟨k1, k2⟩ := newB_ok r (.iter s 0) (.stringIter s 0) 0 (Nat.le_refl _) (.iter (alloc_get w _) rfl)
    refine done_of ?_ (ptr_new rfl) k1 k2
    simp [Instr.range, T.run_und, hd]
  · rename_i k e hd
    simp at h4; subst h4
    rw [hv.nilMap_inv]
    obtain ⟨k1, k2⟩ := newB_ok r (.mapIter none 0 [] 0) (.mapIter none 0 #[] 0) 0 (Nat.le_refl _) (.mapIter (alloc_get w _) rfl .none)
    refine done_of ?_ (ptr_new rfl) k1 k2
    simp [Instr.range, T.run_und, hd]
  · rename_i k e m hd
    simp only [bnd_some, ok_some] at h4
    obtain ⟨ec, h5, rfl⟩ := h4
    obtain ⟨p, hp, rfl⟩ := hv.map_inv
    obtain ⟨es', g1, g2⟩ := mapAt_ok (r.at' m) hp h5
    obtain ⟨k1, k2⟩ := newB_ok r (.mapIter (some m) ec.2 [] ec.2) (.mapIter (some p.blk) ec.2 #[] ec.2) 0 (Nat.le_refl _) (.mapIter (alloc_get w _) rfl (.some (Mp.le_put r.none_ctr _ _ hp)))
    refine done_of ?_ (ptr_new rfl) k1 k2
    simp [Instr.range, T.run_und, hd, run_getMap g1]
  · simp at h4

theorem small_ok {n b : Nat} (hs : small n b = true) : n ≤ 1099511627776 ∧ n * b ≤ 1099511627776 ∧ (n : Int) * b ≤ 1099511627776 := by
  have := Nat.le_of_ble_eq_true hs
  rw [Nat.mul_add] at this
  have h2 : n * b ≤ 1099511627776 := by omega
  refine ⟨by omega, h2, ?_⟩
  have : ((n * b : Nat) : Int) ≤ ((1099511627776 : Nat) : Int) := Int.ofNat_le.2 h2
  rw [Int.natCast_mul] at this
  exact this
theorem wrap_small {n : Nat} (hn : n ≤ 1099511627776) : IntKind.i64.wrap (n : Int) = n := by rw [IntKind.wrap_i64]; omega

theorem opMakeSlice_ok (HC : CtxT P C) (ht : TmR ρ tm a.tmps) (hg : GlR C.ng ρ) (r : HR ρ h w) {t : TypeId} {l c : Operand} {n : Nx} (ho : opMakeSlice t l c C tm h = some n) :
    Done ρ h w n ((do pure (Next.value (← Instr.makeSlice t (a.eval l) (a.eval c))) : Sem Next).run P w) := by
  simp only [opMakeSlice, bnd_some, valH, ok_some] at ho
  obtain ⟨l0, h1, c0, h2, v, h3, rfl⟩ := ho
  have hl := ev_ok ht hg h1
  have hc := ev_ok ht hg h2
  simp only [aMakeSlice, bnd_some] at h3
  obtain ⟨ti, h4, h5⟩ := h3
  have T := HC.tt _ ti (tinfo_some.1 h4)
  split at h5
  · rename_i e l c hd
    simp only [bnd_some, need_some, Bool.and_eq_true] at h5
    obtain ⟨ei, h6, ⟨h7, h8⟩, h9⟩ := h5
    have h7 := Nat.le_of_ble_eq_true h7
    obtain ⟨s1, s2, s3⟩ := small_ok h8
    have E := HC.tt _ ei (tinfo_some.1 h6)
    rw [hl.int_inv, hc.int_inv]
    obtain ⟨ie, z, e1, e2, e3, e4, e5⟩ := E.inf
    have hz := ofCells_cells e5 E.one
    have hzc : z.cells.toList = ei.zero := by rw [← hz]; cases z <;> rfl
    have key : ∃ zz : Array Value, (zz.toList = ei.zero ∨ c * ei.size = 0) ∧ (Instr.makeSlice t (.int .i64 (.ofNat l)) (.int .i64 (.ofNat c))).run P w = .ok (.slice (some ⟨w.heap.size, 0, none⟩) l c) (w.alloc (.cells ((Array.range (c * ei.size)).map (zz[· % zz.size]!)) e (0, 0))) := by
      have w1 : IntKind.i64.wrap (Int.ofNat l) = (l : Int) := wrap_small (by omega)
      have w2 : IntKind.i64.wrap (Int.ofNat c) = (c : Int) := wrap_small (by omega)
      have q1 : ¬ ((c : Int) < 0) := by omega
      have q2 : ¬ ((281474976710656 : Int) < ei.bytes * c) := by rw [Int.mul_comm]; omega
      have q3 : ¬ ((l : Int) < 0) := by omega
      have q4 : ¬ ((c : Int) < l) := by omega
      by_cases h0 : c * ei.size = 0
      · refine ⟨#[], .inr h0, ?_⟩
        simp only [Instr.makeSlice, Sem.run_bind, run_underlying (hd ▸ T.und), Result.andThen_ok, asInt, asIntOf, Sem.run_pure, typeInfo, run_program, e1, e3, w1, w2]
        simp [q1, q2, q3, q4, sizeOf, typeInfo, e1, e2, h0, newRow]
      · refine ⟨z.cells, .inl hzc, ?_⟩
        have h0' : ¬ (c = 0 ∨ ei.size = 0) := by intro hh; apply h0; rcases hh with hh | hh <;> simp [hh]
        simp only [Instr.makeSlice, Sem.run_bind, run_underlying (hd ▸ T.und), Result.andThen_ok, asInt, asIntOf, Sem.run_pure, typeInfo, run_program, e1, e3, w1, w2]
        simp [q1, q2, q3, q4, sizeOf, typeInfo, e1, e2, newRow, zeroValue, e4]
        exact fun hh => absurd hh h0
    obtain ⟨zz, hzz, hr⟩ := key
    have hv := zeros_VR (P := P) ρ E (c := c) hzz
    split at h9
    · rename_i hu8
      simp only [ok_some] at h9
      subst h9
      simp only [Bool.and_eq_true] at hu8
      have hzero : ei.zero = [.int .u8 0] := by
        have := hu8.2
        unfold zeroU8 at this
        split at this
        · rename_i n hz0
          have := Nat.eq_of_beq_eq_true this
          subst this
          exact hz0
        · simp at this
      have hsz : ei.size = 1 := by rw [← E.len, hzero]; rfl
      obtain ⟨k1, k2⟩ := newBytes_ok r (bs := List.replicate c 0) (arr := (Array.range (c * ei.size)).map (zz[· % zz.size]!)) e (0, 0) (by simp [hsz]) (by
        intro j v hj
        have hjc : j < c := by have := (List.getElem?_eq_some_iff.1 hj).1; simpa using this
        have : v = 0 := by simp [hjc] at hj; exact hj.symm
        subst this
        have hz' := hzz.resolve_right (by rw [hsz]; omega)
        rw [hzero] at hz'
        have : zz = #[.int .u8 0] := by apply Array.ext'; simpa using hz'
        subst this
        simp [hsz, hjc, byteV, Nat.mod_one]) rfl
      refine done_of hr (sl_new rfl h7 (.inl rfl)) k1 k2
    · simp only [ok_some] at h9
      subst h9
      obtain ⟨k1, k2⟩ := newCells_ok r (cs := repeatL c ei.zero) (arr := (Array.range (c * ei.size)).map (zz[· % zz.size]!)) e (0, 0) (by have := hv.length; simp at this ⊢; omega) (fun j v hj => by obtain ⟨v', g1, g2⟩ := hv.get hj; exact ⟨v', by rw [← Array.getElem?_toList]; exact g1, g2⟩) rfl
      refine done_of hr (sl_new rfl h7 (.inl rfl)) k1 k2
  · simp at h5
end
end Go.Ai
namespace Go.Ai
section
variable {P : Program} {C : Ctx} {ρ : Mp} {h : H} {w : World} {tm : T Value} {a : Act}

theorem flats_VR (ρ : Mp) : ∀ {vs : List Value}, vs.all (flat 1) = true → VRs ρ vs vs
  | [], _ => .nil
  | x :: xs, hf => by simp at hf; exact .cons (flat_VR ρ 1 x hf.1) (flats_VR ρ (by simpa using hf.2))

/-- the bytes that are read -/
theorem loadB_ok {ρ : Mp} {h : H} {w : World} {b o n : Nat} {p : Pl} {bs : List UInt8} (r : HAt ρ h w b) (hp : ρ b = some p) (hl : loadB h ⟨b, o, none⟩ n = some bs) :
    bs.length = n ∧ (∀ j x, bs[j]? = some x → w.cell? ⟨p.blk, p.off + o + j, none⟩ = some (byteV x)) := by
  have hlc : ∃ vs, loadC h ⟨b, o, none⟩ n = some vs ∧ ∀ vs', VRs ρ vs vs' → vs' = bs.map byteV := by
    unfold loadB at hl
    simp only at hl
    split at hl
    · rename_i cs e fam fz hg
      simp only [need_some] at hl
      exact ⟨cut cs o n, by simp [loadC, hg, hl.1], fun vs' hv => bytesOfCells_ok hv hl.2⟩
    · rename_i bs' e fam fz hg
      simp only [need_some, ok_some] at hl
      obtain ⟨h1, rfl⟩ := hl
      refine ⟨_, by simp [loadC, hg, h1]; rfl, fun vs' hv => ?_⟩
      have hh := bytes_VRs ρ (cut bs' o n)
      revert hv hh
      generalize (cut bs' o n) = l
      intro hv _
      induction l generalizing vs' with
      | nil => cases hv; rfl
      | cons x xs ih => cases hv with | cons h1 h2 => rw [h1.int_inv, ih _ h2 (bytes_VRs ρ xs)]; rfl
    · simp at hl
  obtain ⟨vs, h1, h2⟩ := hlc
  obtain ⟨vs', k1, k2, k3⟩ := loadC_ok r hp h1
  have := h2 vs' k1
  subst this
  refine ⟨by simpa using k2, fun j x hx => k3 j _ (by rw [List.getElem?_map, hx]; rfl)⟩

theorem rowAt_here {P : Program} {fits : TypeId → Bool} {e : TypeId} {count off n d : Nat} (hs : P.cellsOf e ≠ 0) (hr : off % P.cellsOf e = 0) (hn : off / P.cellsOf e + n ≤ count) (hf : fits e = true) : rowAt P fits (d + 1) e count off n = true := by
  simp [rowAt, hs, hr, hn, hf]
theorem liesAt_here {P : Program} {e : TypeId} {count off n : Nat} (hs : P.cellsOf e ≠ 0) (hr : off % P.cellsOf e = 0) (hn : off / P.cellsOf e + n ≤ count) : liesAt P P.depth e count off e n = true := by
  have hd : P.depth = (2 * (P.types.size + Made.depth) + 1) + 1 := rfl
  rw [hd]
  simp only [liesAt, Bool.or_eq_true]
  left
  rw [hd]
  exact rowAt_here hs hr hn (by simp [sameLayout])

theorem cell_shape {w : World} {k : Nat} {arr : Array Value} {e : TypeId} {fr : Nat × Nat} (hw : w.heap[k]? = some (.cells arr e fr)) : w.shape? k = some (e, arr.size) := by
  unfold World.shape?
  rw [hw]

theorem opConv_ok (HC : CtxT P C) (ht : TmR ρ tm a.tmps) (hg : GlR C.ng ρ) (r : HR ρ h w) {s d : TypeId} {x : Operand} {n : Nx} (ho : opConv s d x C tm h = some n) :
    Done ρ h w n ((do pure (Next.value (← convert s d (a.eval x))) : Sem Next).run P w) := by
  simp only [opConv, bnd_some, valH, ok_some] at ho
  obtain ⟨x0, h1, v, h2, rfl⟩ := ho
  have hx := ev_ok ht hg h1
  revert hx
  generalize a.eval x = x'
  intro hx
  simp only [aConv, bnd_some] at h2
  obtain ⟨si, s1, di, d1, h3⟩ := h2
  have S := HC.tt _ si (tinfo_some.1 s1)
  have D := HC.tt _ di (tinfo_some.1 d1)
  split at h3
  · rename_i k' k k2 n hs hd
    simp at h3; subst h3
    rw [hx.int_inv]
    refine (pass_of ?_ (.int k (k.wrap n))).done r
    simp [convert, S.run_und, D.run_und, hs, hd, Conv.intToInt]
  · rename_i k' k2 n hs hd
    simp at h3; subst h3
    rw [hx.int_inv]
    refine (pass_of ?_ (.string _)).done r
    simp [convert, S.run_und, D.run_und, hs, hd, Conv.intToString]
  · rename_i st hs hd
    simp at h3; subst h3
    rw [hx.string_inv]
    refine (pass_of ?_ (.string _)).done r
    simp [convert, S.run_und, D.run_und, hs, hd]
  · rename_i e st hs hd
    simp only [bnd_some] at h3
    obtain ⟨ei, e1, h4⟩ := h3
    have E := HC.tt _ ei (tinfo_some.1 e1)
    rw [hx.string_inv]
    split at h4
    · rename_i he
      simp only [ok_some] at h4
      subst h4
      have hr := run_bytes_of_string w s d e st (hs ▸ S.und) (hd ▸ D.und) (he ▸ E.und)
      have hge := grownCap_ge w st.size 0 e
      have hsz : (bytesRow st (grownCap w st.size 0 e)).size = grownCap w st.size 0 e := by
        simp only [bytesRow, Array.size_append, Array.size_map, Array.size_replicate]
        have : st.data.size = st.size := rfl
        omega
      obtain ⟨k1, k2⟩ := newMarked_ok (w := w.drew) r.drew (bs := st.data.toList) (arr := bytesRow st (grownCap w st.size 0 e)) e (by rw [hsz]; simpa using hge) (by
        intro j v hj
        have hlt : j < st.data.size := by have := (List.getElem?_eq_some_iff.1 hj).1; simpa using this
        rw [bytesRow, Array.getElem?_append_left (by simpa using hlt), Array.getElem?_map]
        rw [Array.getElem?_toList] at hj
        rw [hj]; rfl)
      refine done_of hr (sl_new rfl hge (.inr ⟨1, rfl, ?_⟩)) k1 (Ext.drew.trans k2)
      simp [hsz]
    · rename_i he
      simp only [need_some, ok_some, Bool.and_eq_true] at h4
      obtain ⟨⟨g1, g2⟩, rfl⟩ := h4
      have g1 := Nat.le_of_ble_eq_true g1
      have hr := run_runes_of_string w s d e st (hs ▸ S.und) (hd ▸ D.und) (he ▸ E.und) g1
      have hge := grownCap_ge w (Conv.runesFrom st st.size 0 #[]).size 0 e
      have hv := flats_VR ρ g2
      obtain ⟨k1, k2⟩ := newCells_ok (w := w.drew) r.drew (cs := (Conv.runesFrom st st.size 0 #[]).toList) (arr := (Conv.runesFrom st st.size 0 #[] ++ Array.replicate (grownCap w (Conv.runesFrom st st.size 0 #[]).size 0 e - (Conv.runesFrom st st.size 0 #[]).size) (.int .i32 0))) e (0, 0) (by simp) (by
        intro j v hj
        obtain ⟨v', q1, q2⟩ := hv.get hj
        have hlt : j < (Conv.runesFrom st st.size 0 #[]).size := by have := (List.getElem?_eq_some_iff.1 hj).1; simpa using this
        refine ⟨v', ?_, q2⟩
        rw [Array.getElem?_append_left hlt, ← Array.getElem?_toList]
        exact q1) rfl
      refine done_of hr (sl_new rfl hge (.inr ⟨1, rfl, ?_⟩)) k1 (Ext.drew.trans k2)
      simp; omega
    · simp at h4
  · rename_i e _ _ hs hd
    simp only [bnd_some] at h3
    obtain ⟨ei, e1, h4⟩ := h3
    have E := HC.tt _ ei (tinfo_some.1 e1)
    split at h4
    · rename_i he
      simp at h4; subst h4
      obtain ⟨rfl, rfl, rfl⟩ := hx.nilSl_inv
      refine (pass_of ?_ (.string _)).done r
      simp [convert, S.run_und, D.run_und, E.run_und, hs, hd, he, Conv.bytesToString]
    · simp at h4
  · rename_i e A len c hs hd
    simp only [bnd_some] at h3
    obtain ⟨ei, e1, h4⟩ := h3
    have E := HC.tt _ ei (tinfo_some.1 e1)
    obtain ⟨b, o, p, a', cap, rfl, hp, rfl, hl, hc, ha⟩ := hx.sl_inv
    split at h4
    · rename_i he
      split at h4
      · simp at h4; subst h4
        refine (pass_of ?_ (.string _)).done r
        exact run_convert_bytes_back (P := P) w s d e a' cap [] (hs ▸ S.und) (he ▸ E.und) (hd ▸ D.und) (by simp)
      · rename_i hne
        simp only [bnd_some, ok_some] at h4
        obtain ⟨bs, h5, rfl⟩ := h4
        obtain ⟨q1, q2⟩ := loadB_ok (r.at' b) hp h5
        have ha := ha.resolve_left (by intro h0; apply hne; omega)
        subst ha
        refine (pass_of ?_ (.string _)).done r
        have := run_convert_bytes_back (P := P) w s d e ⟨p.blk, p.off + o, none⟩ cap bs (hs ▸ S.und) (he ▸ E.und) (hd ▸ D.und) (by
          intro j hj
          rw [addr_add]
          exact q2 j _ (List.getElem?_eq_getElem hj))
        rw [q1] at this
        exact this
    · simp at h4
  · rename_i t A hs hd
    simp only [bnd_some, need_some, ok_some] at h3
    obtain ⟨vs, g1, ti, g2, g3, rfl⟩ := h3
    obtain ⟨b, o, p, rfl, hp, rfl⟩ := hx.ptr_inv
    have T := HC.tt _ ti (tinfo_some.1 g2)
    obtain ⟨vs', k1, k2, k3⟩ := loadC_ok (r.at' b) hp g1
    obtain ⟨i, z, i1, i2, _⟩ := T.inf
    obtain ⟨v', hv'⟩ : ∃ v', vs'[0]? = some v' := ⟨_, List.getElem?_eq_getElem (by omega)⟩
    have := k3 0 v' hv'
    simp only [Nat.add_zero] at this
    have g3 : 0 < ti.size := Nat.le_of_ble_eq_true g3
    refine (pass_of ?_ hx).done r
    exact run_convert_to_unsafe (hs ▸ S.und) (hd ▸ D.und) (by rw [i1]; simp [i2]; omega) this
  · rename_i u A hs hd
    split at h3
    · rename_i cs e fam fz hgb
      simp only [bnd_some, need_some, ok_some, Bool.and_eq_true] at h3
      obtain ⟨ui, g1, g5, rfl⟩ := h3
      obtain ⟨⟨⟨⟨g0, g2⟩, g3⟩, g4⟩, g5⟩ := g5
      have U := HC.tt _ ui (tinfo_some.1 g1)
      obtain ⟨b, o, p, rfl, hp, rfl⟩ := hx.ptr_inv
      have f0 : fam = b := Nat.eq_of_beq_eq_true g0
      have g2 := Nat.eq_of_beq_eq_true g2
      have g3 : o = 0 := Nat.eq_of_beq_eq_true g3
      have g4 : 0 < ui.size := Nat.le_of_ble_eq_true g4
      have g5 : ui.size ≤ cs.length := Nat.le_of_ble_eq_true g5
      subst g3
      have hoff := r.own _ _ _ hgb hp f0
      subst g2
      cases r.con _ _ _ hgb hp with
      | @cells _ _ _ _ arr fr hw hn hl hc hf =>
        obtain ⟨i, z, i1, i2, _⟩ := U.inf
        have hcs := cellsOf_eq HC g1
        have hsh := cell_shape hw
        refine (pass_of ?_ hx).done r
        refine Go.Lib.run_from_unsafe w ⟨p.blk, p.off + 0, none⟩ (hs ▸ S.und) (hd ▸ D.und) i1 hsh ?_
        refine liesAt_here (by rw [hcs]; omega) (by simp [hoff]) ?_
        rw [hcs]
        simp only [hoff, Nat.add_zero, Nat.zero_div, Nat.zero_add]
        exact Nat.div_pos (by omega) g4
    · simp at h3
  · simp at h3
end
end Go.Ai
