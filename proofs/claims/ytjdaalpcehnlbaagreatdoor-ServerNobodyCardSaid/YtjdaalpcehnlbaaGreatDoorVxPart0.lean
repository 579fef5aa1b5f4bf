/- A virtual executor of the model's programs, part 1 of 4. Conditions: as each section says. -/
import Derived.Control
import Derived.Calls
import Derived.Defers
import Derived.Below

section
/- A virtual executor of the model's programs: definitions. Conditions: none; nothing is proved here. -/
namespace Vx
open Go

/-- Virtual objects: a row of cells (its element type, its family, where it begins in it), any other object, a family of rows, nothing any more. -/
inductive VO where
  | row (cells : List Value) (elem : TypeId) (fam : Nat) (st : Nat)
  | obj (o : Obj)
  | fam (l : List (Nat × Nat × Nat))
  | dead

/-- A map from numbers. -/
inductive Tr where
  | leaf
  | node (v : Option VO) (l r : Tr)

def Tr.get : Tr → Nat → Option VO
  | .leaf, _ => none
  | .node v l r, k => if k = 0 then v else if k % 2 = 1 then l.get (k / 2) else r.get (k / 2 - 1)

def Tr.set : Nat → Tr → Nat → VO → Tr
  | 0, t, _, _ => t
  | n + 1, .leaf, k, o =>
    if k = 0 then .node (some o) .leaf .leaf else if k % 2 = 1 then .node none (Tr.set n .leaf (k / 2) o) .leaf else .node none .leaf (Tr.set n .leaf (k / 2 - 1) o)
  | n + 1, .node v l r, k, o =>
    if k = 0 then .node (some o) l r else if k % 2 = 1 then .node v (Tr.set n l (k / 2) o) r else .node v l (Tr.set n r (k / 2 - 1) o)

structure VS where
  cnt : Nat
  heap : Tr
  trk : Bool
  log : List Nat

abbrev VM (α : Type) := VS → Option (α × VS)

def VM.ret {α : Type} (a : α) : VM α := fun s => some (a, s)
def VM.fail {α : Type} (_ : Nat) : VM α := fun _ => none
def VM.bind {α β : Type} (x : VM α) (f : α → VM β) : VM β := fun s =>
  match x s with
  | none => none
  | some (a, s') => f a s'

/-- Names are below this. -/
def far : Nat := 2 ^ 40

def touch (s : VS) (n : Nat) : VS := if s.trk then { s with log := n :: s.log } else s

def rd (k : Nat) : VM VO := fun s =>
  match s.heap.get k with
  | none => none
  | some o => some (o, touch s (2 * k))

def wr (k : Nat) (o : VO) : VM Unit := fun s =>
  if k < far then
    match s.heap.get k with
    | none => none
    | some _ => some ((), touch { s with heap := Tr.set 64 s.heap k o } (2 * k + 1))
  else none

def nw (o : VO) : VM Nat := fun s =>
  if s.cnt < far then
    match s.heap.get s.cnt with
    | some _ => none
    | none => some (s.cnt, touch { s with heap := Tr.set 64 s.heap s.cnt o, cnt := s.cnt + 1 } (2 * s.cnt + 1))
  else none

def lift {α : Type} : Option α → VM α
  | some a => VM.ret a
  | none => (VM.fail 1)

/-- A cell is read. -/
def rdCell (a : Addr) : VM Value :=
  VM.bind (rd a.block) fun
    | .row cells _ _ _ => if a.spot.isSome then (VM.fail 2) else lift cells[a.off]?
    | _ => (VM.fail 3)

def killAll : List (Nat × Nat × Nat) → VM Unit
  | [] => VM.ret ()
  | (n, _, _) :: l => VM.bind (rd n) fun
    | .row _ _ _ _ => VM.bind (wr n .dead) fun _ => killAll l
    | .dead => killAll l
    | _ => (VM.fail 4)

/-- All rows of a family that a test names are gone. -/
def kill (f : Nat) (bad : Nat → Nat → Nat → Bool) : VM Unit :=
  VM.bind (rd f) fun
    | .fam l =>
      match l.filter fun (n, s, e) => bad n s e with
      | [] => VM.ret ()
      | b => VM.bind (killAll b) fun _ => wr f (.fam (l.filter fun (n, s, e) => !bad n s e))
    | _ => (VM.fail 5)

/-- A cell is written: other rows of the family that have it are gone. -/
def wrCell (a : Addr) (v : Value) : VM Unit :=
  VM.bind (rd a.block) fun
    | .row cells elem f st =>
      if a.spot.isSome then (VM.fail 6) else
      if a.off < cells.length then
        VM.bind (if f = 0 then VM.ret () else kill f fun n s e => n != a.block && (decide (s ≤ st + a.off) && decide (st + a.off < e))) fun _ =>
        wr a.block (.row (cells.set a.off v) elem f st)
      else (VM.fail 7)
    | _ => (VM.fail 8)

/-- The model's operations, over virtual memory. -/
def vsem {α : Type} (P : Program) : Sem α → VM α
  | .pure a => VM.ret a
  | .load _ a k => VM.bind (rdCell a) fun v => vsem P (k v)
  | .store _ _ (.agg _) _ => (VM.fail 9)
  | .store _ _ (.tuple _) _ => (VM.fail 10)
  | .store _ a v k => VM.bind (wrCell a v) fun _ => vsem P k
  | .new (.cells c e fz) k => if fz = (0, 0) then VM.bind (nw (.row c.toList e 0 0)) fun r => vsem P (k r) else (VM.fail 11)
  | .new (.pending _ _) _ => (VM.fail 12)
  | .new o k => VM.bind (nw (.obj o)) fun r => vsem P (k r)
  | .shape _ _ => (VM.fail 13)
  | .freeze _ _ _ => (VM.fail 14)
  | .frozen _ _ => (VM.fail 15)
  | .getObj r k => VM.bind (rd r) fun
    | .obj o => vsem P (k o)
    | _ => (VM.fail 16)
  | .setObj r o k => VM.bind (rd r) fun
    | .obj _ => VM.bind (wr r (.obj o)) fun _ => vsem P k
    | _ => (VM.fail 17)
  | .choose q k => if q.forced then vsem P (k 0) else (VM.fail 18)
  | .sys _ _ => (VM.fail 19)
  | .program k => vsem P (k P)
  | .mark _ k => vsem P k
  | .halt _ => (VM.fail 20)

/-- A value without addresses. -/
def scal : Nat → Value → Bool
  | _, .bool _ | _, .int _ _ | _, .string _ | _, .pointer none | _, .map none | _, .nilFunc | _, .nilIface => true
  | _, .slice none 0 0 => true
  | n + 1, .iface _ v => scal n v
  | n + 1, .agg cs => cs.toList.all (scal n)
  | n + 1, .tuple cs => cs.toList.all (scal n)
  | _, _ => false

/-- No memory, and no room for any. -/
def nowhere : VS := { cnt := far, heap := .leaf, trk := false, log := [] }

/-- What touches no memory at all. -/
def vpure {α : Type} (P : Program) (t : Sem α) : VM α :=
  match vsem P t nowhere with
  | some (a, _) => VM.ret a
  | none => (VM.fail 21)

def vpureV (P : Program) (t : Sem Value) : VM Value :=
  VM.bind (vpure P t) fun v => if scal 4 v then VM.ret v else (VM.fail 22)

def plainV : Value → Bool
  | .agg _ | .tuple _ => false
  | _ => true

/-! ### Slices: the third part of a virtual slice is how many cells its element has. -/
def newSliceRow (cells : List Value) (elem : TypeId) : VM Nat :=
  VM.bind (nw (.fam [])) fun f =>
  VM.bind (nw (.row cells elem f 0)) fun r =>
  VM.bind (if f = 0 then (VM.fail 23) else wr f (.fam [(r, 0, cells.length)])) fun _ => VM.ret r

def tsize (P : Program) (t : TypeId) : VM Nat := lift ((P.info? t).map (·.size))
def tbytes (P : Program) (t : TypeId) : VM Nat := lift ((P.info? t).map (·.bytes))
/-- Whether a type's zero value has no addresses, and the cells that it should. -/
def zgood (P : Program) (t : TypeId) : Bool :=
  match P.info? t with
  | some i => match i.zero with
    | some z => scal 4 z && z.cells.size == i.size
    | none => false
  | none => false

def tzero (P : Program) (t : TypeId) : VM Value := if zgood P t = true then lift ((P.info? t).bind (·.zero)) else (VM.fail 24)
def tunder (P : Program) (t : TypeId) : VM TypeDesc := lift (P.underlying t)
def tsliceElem (P : Program) (t : TypeId) : VM TypeId :=
  VM.bind (tunder P t) fun
    | .slice e => VM.ret e
    | _ => (VM.fail 25)

def vint : Value → VM Int
  | .int _ n => VM.ret n
  | _ => (VM.fail 26)

def vbuildSlice (P : Program) (t : TypeId) (len : Nat) (parts : Array (Nat × Value)) : VM Value :=
  VM.bind (tsliceElem P t) fun elem =>
  VM.bind (tsize P elem) fun size =>
  if len * size > 2 ^ 20 then (VM.fail 27) else
  VM.bind (if len * size = 0 then VM.ret (.agg #[]) else tzero P elem) fun z =>
  VM.bind (lift (Instr.fill (fun i => some (i * size, size)) ((Array.range (len * size)).map (z.cells[· % z.cells.size]!)) parts.toList)) fun cells =>
  VM.bind (newSliceRow cells.toList elem) fun r => VM.ret (.slice (some ⟨r, 0, none⟩) len size)

def replicateCells : Nat → List Value → List Value
  | 0, _ => []
  | n + 1, z => z ++ replicateCells n z

def vmakeSlice (P : Program) (t : TypeId) (len cap : Value) : VM Value :=
  VM.bind (tsliceElem P t) fun elem =>
  VM.bind (vint len) fun l =>
  VM.bind (vint cap) fun c =>
  VM.bind (tsize P elem) fun size =>
  VM.bind (tbytes P elem) fun bytes =>
  if 0 ≤ l ∧ l ≤ c ∧ c * bytes ≤ 2 ^ 30 ∧ c ≤ 2 ^ 30 then
    VM.bind (tzero P elem) fun z =>
    if z.cells.size = size then
      VM.bind (newSliceRow (replicateCells l.toNat z.cells.toList) elem) fun r => VM.ret (.slice (some ⟨r, 0, none⟩) l.toNat size)
    else (VM.fail 28)
  else (VM.fail 29)

/-- A bound of a slice expression: from 0 to hi. -/
def vbound (hi : Nat) : Option Value → Nat → VM Nat
  | none, d => VM.ret d
  | some (.int _ n), _ => if 0 ≤ n ∧ n ≤ hi then VM.ret n.toNat else (VM.fail 30)
  | some _, _ => (VM.fail 31)

def vslice (P : Program) (t : TypeId) (x : Value) (low high max : Option Value) : VM Value :=
  VM.bind (tunder P t) fun d =>
  match d, x with
  | .string, .string s =>
    if max.isSome then (VM.fail 32) else
    VM.bind (vbound s.size high s.size) fun h =>
    VM.bind (vbound h low 0) fun l => VM.ret (.string ⟨⟨(s.data.toList.drop l).take (h - l)⟩⟩)
  | .slice elem, .slice a len z =>
    if max.isSome && high.isNone then (VM.fail 33) else
    VM.bind (tsize P elem) fun size =>
    if a.isSome && size != z then (VM.fail 34) else
    VM.bind (vbound len max len) fun m =>
    VM.bind (vbound m high len) fun h =>
    VM.bind (vbound h low 0) fun l => VM.ret (.slice (a.map fun a => a.add (l * size)) (h - l) z)
  | .array n elem, .pointer (some a) =>
    if max.isSome && high.isNone then (VM.fail 35) else
    VM.bind (tsize P elem) fun size =>
    VM.bind (vbound n max n) fun m =>
    VM.bind (vbound m high n) fun h =>
    VM.bind (vbound h low 0) fun l =>
    VM.bind (rd a.block) fun
      | .row cells _ _ _ => if a.off + n * size ≤ cells.length ∧ a.spot = none then VM.ret (.slice (some (a.add (l * size))) (h - l) size) else (VM.fail 36)
      | _ => (VM.fail 37)
  | _, _ => (VM.fail 38)

def rdCells (a : Addr) (n : Nat) : VM (List Value) :=
  if n = 0 then VM.ret [] else
  VM.bind (rd a.block) fun
    | .row cells _ _ _ => if a.spot.isSome || decide (cells.length < a.off + n) then (VM.fail 39) else VM.ret ((cells.drop a.off).take n)
    | _ => (VM.fail 40)

def byteVals (l : List UInt8) : List Value := l.map fun b => .int .u8 b.toNat

/-- What is appended: how many elements, and their cells. -/
def vappended (P : Program) (elem : TypeId) (size : Nat) (zeros : Bool) (x : Value) : VM (Nat × List Value) :=
  if zeros then
    match x with
    | .int _ n => if 0 ≤ n ∧ n ≤ 2 ^ 20 then VM.bind (tzero P elem) fun z => VM.ret (n.toNat, replicateCells n.toNat z.cells.toList) else (VM.fail 41)
    | _ => (VM.fail 42)
  else match x with
    | .slice none n _ => VM.ret (n, [])
    | .slice (some a) n _ => VM.bind (rdCells a (n * size)) fun l => VM.ret (n, l)
    | .string s => VM.ret (s.size, byteVals s.data.toList)
    | _ => (VM.fail 43)

def isIntDesc : TypeDesc → Bool
  | .int _ => true
  | _ => false

/-- Whether an append's second argument is a number of zeros. -/
def vzeros (P : Program) : Option TypeId → VM Bool
  | some t => VM.bind (tunder P t) fun d => VM.ret (isIntDesc d)
  | none => VM.ret false

def vgrow (a : Addr) (len size n : Nat) (elem : TypeId) (new : List Value) : VM Value :=
  VM.bind (rd a.block) fun
    | .row cells e f st =>
      if a.spot.isSome ∨ f = 0 ∨ e ≠ elem ∨ cells.length < a.off + len * size then (VM.fail 44) else
      VM.bind (kill f fun _ _ en => decide (st + a.off + len * size < en)) fun _ =>
      VM.bind (nw (.row ((cells.drop a.off).take (len * size) ++ new) e f (st + a.off))) fun r =>
      VM.bind (rd f) fun
        | .fam l => VM.bind (wr f (.fam ((r, st + a.off, st + a.off + (len + n) * size) :: l))) fun _ => VM.ret (.slice (some ⟨r, 0, none⟩) (len + n) size)
        | _ => (VM.fail 45)
    | _ => (VM.fail 46)

def vappend (P : Program) (argTypes : Array TypeId) (s x : Value) : VM Value :=
  VM.bind (lift argTypes[0]?) fun sType =>
  match s with
  | .slice base len z =>
    VM.bind (tsliceElem P sType) fun elem =>
    VM.bind (tsize P elem) fun size =>
    VM.bind (tbytes P elem) fun bytes =>
    VM.bind (tzero P elem) fun _ =>
    VM.bind (vzeros P argTypes[1]?) fun zeros =>
    VM.bind (vappended P elem size zeros x) fun (n, new) =>
    if n = 0 then (if new.isEmpty then VM.ret (.slice base len z) else (VM.fail 47)) else
    if new.length = n * size ∧ 0 < size ∧ (len + n) * bytes ≤ 2 ^ 30 ∧ len + n ≤ 2 ^ 30 ∧ new.all plainV = true then
      match base with
      | none => if len = 0 then VM.bind (newSliceRow new elem) fun r => VM.ret (.slice (some ⟨r, 0, none⟩) n size) else (VM.fail 48)
      | some a => if z = size then vgrow a len size n elem new else (VM.fail 49)
    else (VM.fail 50)
  | _ => (VM.fail 51)

def byteOfVal : Value → Option UInt8
  | .int .u8 n => some (UInt8.ofNat n.toNat)
  | _ => none

def bytesOfVals : List Value → Option (List UInt8)
  | [] => some []
  | v :: l => match byteOfVal v, bytesOfVals l with
    | some b, some bs => some (b :: bs)
    | _, _ => none

def vconvert (P : Program) (src dst : TypeId) (x : Value) : VM Value :=
  VM.bind (tunder P src) fun ds =>
  VM.bind (tunder P dst) fun dd =>
  match ds, dd, x with
  | _, .slice e, .string s =>
    VM.bind (tunder P e) fun
      | .int .u8 => VM.bind (newSliceRow (byteVals s.data.toList) e) fun r => VM.ret (.slice (some ⟨r, 0, none⟩) s.size 1)
      | _ => (VM.fail 52)
  | .slice e, .string, .slice a n _ =>
    VM.bind (tunder P e) fun
      | .int .u8 =>
        match a with
        | none => VM.ret (.string ⟨⟨[]⟩⟩)
        | some a => VM.bind (rdCells a n) fun l => VM.bind (lift (bytesOfVals l)) fun bs => VM.ret (.string ⟨⟨bs⟩⟩)
      | _ => (VM.fail 53)
  | _, _, x => if scal 4 x then vpureV P (convert src dst x) else (VM.fail 54)

def strBin (op : BinOp) (a b : ByteArray) : Option Value :=
  match op with
  | .add => if a.size + b.size ≤ 2 ^ 30 then some (.string ⟨⟨a.data.toList ++ b.data.toList⟩⟩) else none
  | .eql => some (.bool (a.data.toList == b.data.toList))
  | .neq => some (.bool (!(a.data.toList == b.data.toList)))
  | .lss => some (.bool (Op.bytesLess a.data.toList b.data.toList))
  | .leq => some (.bool (Op.bytesLess a.data.toList b.data.toList || a.data.toList == b.data.toList))
  | .gtr => some (.bool (!(Op.bytesLess a.data.toList b.data.toList || a.data.toList == b.data.toList)))
  | .geq => some (.bool (!(Op.bytesLess a.data.toList b.data.toList)))
  | _ => none

/-- '==' where one side has an address. -/
def veq : TypeDesc → Value → Value → Option Bool
  | .pointer _, .pointer none, .pointer (some _) | .pointer _, .pointer (some _), .pointer none => some false
  | .pointer _, .pointer (some a), .pointer (some b) => if a.block = b.block ∧ a.spot = none ∧ b.spot = none then some (a.off == b.off) else none
  | .slice _, .slice a _ _, .slice none _ _ => some a.isNone
  | .slice _, .slice none _ _, .slice b _ _ => some b.isNone
  | .map _ _, .map none, .map (some _) | .map _ _, .map (some _), .map none => some false
  | .func _ _ _, .nilFunc, .func _ _ _ | .func _ _ _, .func _ _ _, .nilFunc => some false
  | .interface _, .nilIface, .iface _ _ | .interface _, .iface _ _, .nilIface => some false
  | _, _, _ => none

/-- What is known of tokens: rows of operator, operands, result. -/
abbrev Orc := List (BinOp × Value × Value × Value)

def tokEq : Value → Value → Bool
  | .complex .f64 i 0, .complex .f64 j 0 => i == j
  | .int k a, .int l b => k == l && a == b
  | _, _ => false

def ask (orc : Orc) (op : BinOp) (a b : Value) : Option Value :=
  (orc.find? fun r => r.1 == op && tokEq r.2.1 a && tokEq r.2.2.1 b).map (·.2.2.2)

def isTok : Value → Bool
  | .complex .f64 _ 0 => true
  | _ => false

def vbin (P : Program) (orc : Orc) (op : BinOp) (t : TypeId) (x y : Operand) (a b : Value) : VM Value :=
  match a, b with
  | .string a, .string b => lift (strBin op a b)
  | a, b =>
    if isTok a || isTok b then lift (ask orc op a b) else
    if scal 4 a && scal 4 b then vpureV P (do eqGuard op t x y a b; binOp op t a b) else
    VM.bind (tunder P t) fun d =>
    VM.bind (lift (veq d a b)) fun r =>
    match op, d with
    | .eql, .pointer e => VM.bind (tsize P e) fun n => if n = 0 then (VM.fail 55) else VM.ret (.bool r)
    | .neq, .pointer e => VM.bind (tsize P e) fun n => if n = 0 then (VM.fail 56) else VM.ret (.bool !r)
    | .eql, _ => VM.ret (.bool r)
    | .neq, _ => VM.ret (.bool !r)
    | _, _ => (VM.fail 57)

def veval (tmps : List Value) : Operand → Option Value
  | .tmp t => some (tmps.getD t undef)
  | .const v => if scal 4 v then some v else none
  | .global _ => none
  | .func f => some (.func (.func f) #[] #[])

/-- A function with a body, not the one that counts goroutines. -/
def fnOk (P : Program) (f : FuncId) : Bool :=
  match P.funcs[f]? with
  | some fn => fn.body.isSome && !(fn.name == "runtime.NumGoroutine")
  | none => false

/-- A function that is called: one with a body. -/
def vtarget (P : Program) (t : Target) (args : Array Value) : VM Next :=
  match t with
  | .fn (.func f) captured => if fnOk P f = true then VM.ret (.enter f (args ++ captured)) else (VM.fail 58)
  | _ => (VM.fail 59)

/-! ### Maps: keys are values without addresses. -/
def keysOf (es : List MapEntry) : List MapEntry := es.map fun e => { e with val := undef }

def vfind (P : Program) (key : TypeId) (k : Value) (es : List MapEntry) (empty : Bool) : VM (Option Nat) :=
  if scal 4 k && es.all fun e => scal 4 e.key then
    VM.bind (vpure P (Instr.checkKey empty 10000 key k)) fun _ =>
    VM.bind (vpure P (Instr.findKey key k (keysOf es))) fun r => VM.ret (r.map (·.1))
  else (VM.fail 60)

def rdMap (r : Nat) : VM (Array MapEntry × Nat) :=
  VM.bind (rd r) fun
    | .obj (.map es clock) => VM.ret (es, clock)
    | _ => (VM.fail 61)

def tmap (P : Program) (t : TypeId) : VM (TypeId × TypeId) :=
  VM.bind (tunder P t) fun
    | .map k e => VM.ret (k, e)
    | _ => (VM.fail 62)

def vlookup (P : Program) (t : TypeId) (x k : Value) (ok : Bool) : VM Value :=
  VM.bind (tmap P t) fun (key, elem) =>
  VM.bind (match x with
    | .map none => VM.ret (#[], 0)
    | .map (some r) => rdMap r
    | _ => (VM.fail 63)) fun (es, _) =>
  VM.bind (vfind P key k es.toList es.isEmpty) fun i =>
  VM.bind (match i with
    | some i => VM.bind (lift es[i]?) fun e => VM.ret (e.val, true)
    | none => VM.bind (tzero P elem) fun z => VM.ret (z, false)) fun (v, b) =>
  VM.ret (if ok then .tuple #[v, .bool b] else v)

def vmapUpdate (P : Program) (t : TypeId) (x k v : Value) : VM Unit :=
  VM.bind (tmap P t) fun (key, _) =>
  match x with
  | .map (some r) =>
    VM.bind (rdMap r) fun (es, clock) =>
    VM.bind (vfind P key k es.toList false) fun i =>
    match i with
    | some i =>
      VM.bind (lift es[i]?) fun e =>
      VM.bind (vpure P (Instr.keyThatStays e.key k)) fun k' =>
      if scal 4 k' then wr r (.obj (.map (es.modify i fun e => { e with key := k', val := v }) clock)) else (VM.fail 64)
    | none => wr r (.obj (.map (es.push { key := k, val := v, born := clock }) (clock + 1)))
  | _ => (VM.fail 65)

def vdelete (P : Program) (argTypes : Array TypeId) (x k : Value) : VM Value :=
  VM.bind (lift argTypes[0]?) fun t =>
  VM.bind (tmap P t) fun (key, _) =>
  match x with
  | .map none => if scal 4 k then VM.bind (vpure P (Instr.checkKey true 10000 key k)) fun _ => VM.ret (.tuple #[]) else (VM.fail 66)
  | .map (some r) =>
    VM.bind (rdMap r) fun (es, clock) =>
    VM.bind (vfind P key k es.toList es.isEmpty) fun i =>
    match i with
    | some i => VM.bind (wr r (.obj (.map (es.eraseIdxIfInBounds i) clock))) fun _ => VM.ret (.tuple #[])
    | none => VM.bind (wr r (.obj (.map es clock))) fun _ => VM.ret (.tuple #[])
  | _ => (VM.fail 67)

def vbuiltin (P : Program) (b : Builtin) (argTypes : Array TypeId) (type : TypeId) (args : Array Value) : VM Next :=
  match b with
  | .append => match args[0]?, args[1]? with
    | some s, some x => VM.bind (vappend P argTypes s x) fun v => VM.ret (.value v)
    | _, _ => (VM.fail 68)
  | .cap => match args[0]? with
    | some (Value.slice none _ _) => VM.bind (lift argTypes[0]?) fun t => VM.bind (tsliceElem P t) fun _ => VM.ret (.value (.int .i64 0))
    | _ => (VM.fail 69)
  | .len => VM.bind (vsem P (Builtin.len_ argTypes type args)) fun v => VM.ret (.value v)
  | .min => if args.toList.all (scal 4) then VM.bind (vpureV P (Builtin.min_ argTypes type args)) fun v => VM.ret (.value v) else (VM.fail 70)
  | .max => if args.toList.all (scal 4) then VM.bind (vpureV P (Builtin.max_ argTypes type args)) fun v => VM.ret (.value v) else (VM.fail 71)
  | .delete => match args[0]?, args[1]? with
    | some x, some k => VM.bind (vdelete P argTypes x k) fun v => VM.ret (.value v)
    | _, _ => (VM.fail 72)
  | _ => (VM.fail 73)

def vop (P : Program) (orc : Orc) (ρ : Operand → Value) (o : Oper) : VM Next :=
  let v (x : VM Value) : VM Next := VM.bind x fun v => VM.ret (.value v)
  match o.op with
  | .buildSlice t len parts => v (vbuildSlice P t len (parts.map fun (i, x) => (i, ρ x)))
  | .makeSlice t l c => v (vmakeSlice P t (ρ l) (ρ c))
  | .slice t x lo hi mx => v (vslice P t (ρ x) (lo.map ρ) (hi.map ρ) (mx.map ρ))
  | .convert src dst x => v (vconvert P src dst (ρ x))
  | .binOp op t x y _ => v (vbin P orc op t x y (ρ x) (ρ y))
  | .unOp op _ x => if scal 4 (ρ x) then v (vpureV P (Op.unary op (ρ x))) else (VM.fail 74)
  | .index t x ix => v (vsem P (Instr.index t (ρ x) (ρ ix)))
  | .call c =>
    match c.callee with
    | .builtin b => vbuiltin P b c.argTypes o.type (c.args.map ρ)
    | .value f => VM.bind (vsem P (Deferred.ofValue (ρ f) (c.args.map ρ))) fun d => vtarget P d.target d.args
    | .invoke _ _ => (VM.fail 75)
  | .lookup t x k ok => v (vlookup P t (ρ x) (ρ k) ok)
  | .mapUpdate t m k x => VM.bind (vmapUpdate P t (ρ m) (ρ k) (ρ x)) fun _ => VM.ret .skip
  | .nilCheck x => match ρ x with
    | .pointer (some a) => VM.ret (.value (.pointer (some a)))
    | .func (.func f) a c => VM.ret (.value (.func (.func f) a c))
    | .iface t x => VM.ret (.value (.iface t x))
    | _ => (VM.fail 76)
  | .alloc t => if zgood P t = true then vsem P (execOp ρ o) else (VM.fail 77)
  | .build t _ => if zgood P t = true then vsem P (execOp ρ o) else (VM.fail 78)
  | .move _ | .assign _ | .pick _ _ _ | .box _ _ | .load _ _ | .store _ _ _ | .makeInterface _ _ | .makeFunc (.func _) _ _ | .makeMap _ _ | .fieldAddr _ _ _ | .field _ _ _
  | .indexAddr _ _ _ | .extract _ _ => vsem P (execOp ρ o)
  | _ => (VM.fail 79)

/-! ### The machine -/
inductive Task where
  | run (tmps : List Value) (todo : List Item)
  | call (f : FuncId) (args : Array Value)

inductive Out where
  | fin (tmps : List Value) (jump : Option Code)
  | val (v : Value)

def wantedB (ops : Array Oper) (tmps : List Value) (o : Oper) : Option Bool :=
  match o.guard with
  | none => some true
  | some (j, want) =>
    match (ops[j]?).bind (·.dst) with
    | none => some false
    | some d => match tmps[d]? with
      | some (.bool b) => some (b == want)
      | some (.complex _ _ _) => none
      | _ => some false

def putT (tmps : List Value) (dst : Option Tmp) (v : Value) : List Value :=
  match dst with
  | some d => tmps.set d v
  | none => tmps

def okOperand (tmps : List Value) (x : Operand) : Bool := (veval tmps x).isSome

/-- One operation of a region. -/
def vstep (P : Program) (orc : Orc) (ih : Task → VM Out) (ops : Array Oper) (o : Oper) (tmps : List Value) : VM (List Value) :=
  match wantedB ops tmps o with
  | none => (VM.fail 80)
  | some false => VM.ret (putT tmps o.dst undef)
  | some true =>
    if o.op.operands.toList.all (okOperand tmps) then
      VM.bind (vop P orc (fun x => (veval tmps x).getD undef) o) fun
        | .value v => VM.ret (putT tmps o.dst v)
        | .skip => VM.ret (putT tmps o.dst undef)
        | .enter f args => VM.bind (ih (.call f args)) fun
          | .val v => VM.ret (putT tmps o.dst v)
          | _ => (VM.fail 81)
        | _ => (VM.fail 82)
    else (VM.fail 83)

def vops (P : Program) (orc : Orc) (ih : Task → VM Out) (ops : Array Oper) : List Oper → List Value → VM (List Value)
  | [], tmps => VM.ret tmps
  | o :: l, tmps => VM.bind (vstep P orc ih ops o tmps) fun tmps => vops P orc ih ops l tmps

/-- What a part of a run touches. -/
def within {α : Type} (x : VM α) : VM (α × List Nat) := fun s =>
  match x { s with trk := true, log := [] } with
  | none => none
  | some (a, s') => some ((a, s'.log), { s' with trk := s.trk, log := if s.trk then s'.log ++ s.log else s.log })

def vopsD (P : Program) (orc : Orc) (ih : Task → VM Out) (ops : Array Oper) : List Oper → List Value → VM (List Value × List (List Nat))
  | [], tmps => VM.ret (tmps, [])
  | o :: l, tmps =>
    VM.bind (within (vstep P orc ih ops o tmps)) fun (tmps, L) =>
    VM.bind (vopsD P orc ih ops l tmps) fun (tmps, Ls) => VM.ret (tmps, L :: Ls)

/-- The operations that stand ahead of one by the region's edges, as bits. -/
def masks (l : List Oper) : List Nat :=
  l.foldl (init := []) fun acc o =>
    acc ++ [o.after.toList.foldl (fun s e => if Region.binds .any e then s ||| 2 ^ e.on ||| acc.getD e.on 0 else s) 0]

/-- The temporaries that an operation reads: its operands, its guard's. -/
def readsT (ops : Array Oper) (o : Oper) : List Nat :=
  (o.op.operands.toList.filterMap fun | .tmp t => some t | _ => none) ++ (match o.guard with | none => [] | some (j, _) => ((ops[j]?).bind (·.dst)).toList)

/-- Whether two parts of a run leave each other alone: what each touches on the heap (odd: written), and of the temporaries. -/
def apartH (L M : List Nat) : Bool := L.all fun n => if n % 2 = 1 then !(M.contains n || M.contains (n - 1)) else true
def apartT (ops : Array Oper) (o p : Oper) : Bool :=
  match o.dst with
  | none => true
  | some d => !(readsT ops p).contains d && p.dst != some d

def apart (ops : Array Oper) (o : Oper) (L : List Nat) (p : Oper) (M : List Nat) : Bool :=
  apartH L M && apartH M L && apartT ops o p && apartT ops p o

/-- Whether all pairs of operations that no edge orders leave each other alone. -/
def checkD (ops : Array Oper) (l : List Oper) (Ls : List (List Nat)) : Bool :=
  let ms := masks l
  let rows := (l.zip Ls).zipIdx
  (l.zipIdx.all fun (o, i) => o.after.toList.all fun e => !Region.binds .any e || decide (e.on < i)) &&
  rows.all fun ((p, M), j) => rows.all fun ((o, L), i) => decide (j ≤ i) || (ms.getD j 0).testBit i || apart ops o L p M

def vregion (P : Program) (orc : Orc) (ih : Task → VM Out) (ops : Array Oper) (draw : Bool) (tmps : List Value) : VM (List Value) :=
  if draw then
    VM.bind (vopsD P orc ih ops ops.toList tmps) fun (tmps, Ls) =>
    if checkD ops ops.toList Ls then VM.ret tmps else (VM.fail 84)
  else vops P orc ih ops ops.toList tmps

def jumpOk : Option Code → Bool
  | none => true
  | some .ret => true
  | _ => false

def exStep (P : Program) (orc : Orc) (ih : Task → VM Out) : Task → VM Out
  | .run tmps todo =>
    match todo with
    | [] => VM.ret (.fin tmps none)
    | .inBlock _ :: k => ih (.run tmps k)
    | .inScope _ :: k => ih (.run tmps k)
    | .inLoop body :: k => ih (.run tmps (.code body :: .inLoop body :: k))
    | .code c :: k =>
      match c with
      | .skip => ih (.run tmps k)
      | .label _ => ih (.run tmps k)
      | .seq a b => ih (.run tmps (.code a :: .code b :: k))
      | .cond c t e => match veval tmps c with
        | some (.bool b) => ih (.run tmps (.code (if b then t else e) :: k))
        | _ => (VM.fail 85)
      | .block id body => ih (.run tmps (.code body :: .inBlock id :: k))
      | .loop body => ih (.run tmps (.code body :: .inLoop body :: k))
      | .scope body => ih (.run tmps (.code body :: .inScope body :: k))
      | .exit id => match exitTo id k with
        | some k' => ih (.run tmps k')
        | none => (VM.fail 86)
      | .goto l => match gotoIn l k with
        | some k' => ih (.run tmps k')
        | none => (VM.fail 87)
      | .ret => VM.ret (.fin tmps (some .ret))
      | .region _ ops draw => VM.bind (vregion P orc ih ops draw tmps) fun tmps => ih (.run tmps k)
      | _ => (VM.fail 88)
    | _ => (VM.fail 89)
  | .call f args =>
    VM.bind (lift P.funcs[f]?) fun fn =>
    VM.bind (lift fn.body) fun body =>
    VM.bind (ih (.run (args.toList ++ List.replicate (fn.ntmps - args.size) undef) [.code body])) fun
      | .fin tmps _ => VM.bind (vsem P (results fn tmps.toArray)) fun v => VM.ret (.val v)
      | _ => (VM.fail 90)

def ex (P : Program) (orc : Orc) : Nat → Task → VM Out
  | 0, _ => (VM.fail 91)
  | n + 1, t => exStep P orc (ex P orc n) t

end Vx
end

section
/- A virtual executor of the model's programs: how virtual values, memory and runs stand to those of the model. Conditions: none; the judgements are stated and their first laws proved. -/
namespace Vx
open Go Go.RowKit

/-! ### Virtual memory as a function -/
abbrev Hp := Nat → Option VO
def upd (g : Hp) (k : Nat) (o : VO) : Hp := fun j => if j = k then some o else g j

theorem upd_same (g : Hp) (k : Nat) (o : VO) : upd g k o k = some o := by simp [upd]
theorem upd_other (g : Hp) {k j : Nat} (o : VO) (h : j ≠ k) : upd g k o j = g j := by simp [upd, h]

theorem Tr.get_set (n : Nat) : ∀ (t : Tr) (k : Nat) (o : VO), k + 1 < 2 ^ n → ∀ j, (Tr.set n t k o).get j = if j = k then some o else t.get j := by
  induction n with
  | zero => intro t k o h; simp at h
  | succ n ih =>
    intro t k o h j
    have hp : 2 ^ (n + 1) = 2 * 2 ^ n := by rw [Nat.pow_succ]; omega
    cases t with
    | leaf =>
      simp only [Tr.set]
      split
      · subst_vars
        simp only [Tr.get]
        split <;> simp_all
      · split
        · simp only [Tr.get]
          by_cases h0 : j = 0
          · subst h0; simp; omega
          · rw [if_neg h0]
            split
            · rw [ih _ _ _ (by omega)]
              by_cases e : j = k
              · subst e; simp
              · rw [if_neg e, if_neg (by omega)]; simp [Tr.get]
            · rw [if_neg (by intro e; subst e; omega)]
        · simp only [Tr.get]
          by_cases h0 : j = 0
          · subst h0; simp; omega
          · rw [if_neg h0]
            split
            · rw [if_neg (by intro e; subst e; omega)]
            · rw [ih _ _ _ (by omega)]
              by_cases e : j = k
              · subst e; simp
              · rw [if_neg e, if_neg (by omega)]; simp [Tr.get]
    | node v l r =>
      simp only [Tr.set]
      split
      · subst_vars
        simp only [Tr.get]
        split <;> simp_all
      · split
        · simp only [Tr.get]
          by_cases h0 : j = 0
          · subst h0; simp; omega
          · rw [if_neg h0]
            split
            · rw [ih _ _ _ (by omega)]
              by_cases e : j = k
              · subst e; simp
              · rw [if_neg e, if_neg (by omega)]
            · rw [if_neg (by intro e; subst e; omega)]
        · simp only [Tr.get]
          by_cases h0 : j = 0
          · subst h0; simp; omega
          · rw [if_neg h0]
            split
            · rw [if_neg (by intro e; subst e; omega)]
            · rw [ih _ _ _ (by omega)]
              by_cases e : j = k
              · subst e; simp
              · rw [if_neg e, if_neg (by omega)]

/-- A state's memory. -/
def VS.g (s : VS) : Hp := s.heap.get

theorem touch_heap (s : VS) (n : Nat) : (touch s n).heap = s.heap := by unfold touch; split <;> rfl
theorem touch_g (s : VS) (n : Nat) : (touch s n).g = s.g := by simp [VS.g, touch_heap]

theorem bind_some {α β : Type} {x : VM α} {f : α → VM β} {s s' : VS} {b : β} (h : VM.bind x f s = some (b, s')) :
    ∃ a s1, x s = some (a, s1) ∧ f a s1 = some (b, s') := by
  unfold VM.bind at h
  split at h
  · cases h
  · rename_i a s1 hx; exact ⟨a, s1, hx, h⟩
theorem ret_some {α : Type} {a b : α} {s s' : VS} (h : VM.ret a s = some (b, s')) : a = b ∧ s = s' := by
  simp [VM.ret] at h; exact h
theorem fail_some {α : Type} {n : Nat} {b : α} {s s' : VS} (h : VM.fail n s = some (b, s')) : False := by
  simp [VM.fail] at h
theorem lift_some {α : Type} {a : Option α} {b : α} {s s' : VS} (h : lift a s = some (b, s')) : a = some b ∧ s = s' := by
  cases a with
  | none => simp [lift, VM.fail] at h
  | some a => have := ret_some h; exact ⟨by rw [this.1], this.2⟩
theorem rd_some {k : Nat} {o : VO} {s s' : VS} (h : rd k s = some (o, s')) : s.g k = some o ∧ s'.g = s.g := by
  unfold rd at h
  split at h
  · cases h
  · rename_i o' ho
    cases h
    exact ⟨ho, touch_g _ _⟩
theorem far_fuel {k : Nat} (h : k < far) : k + 1 < 2 ^ 64 := by unfold far at h; omega
theorem wr_some {k : Nat} {o : VO} {u : Unit} {s s' : VS} (h : wr k o s = some (u, s')) : (∃ o', s.g k = some o') ∧ s'.g = upd s.g k o := by
  unfold wr at h
  split at h
  · rename_i hf
    split at h
    · cases h
    · rename_i o' ho
      cases h
      refine ⟨⟨o', ho⟩, ?_⟩
      rw [touch_g]
      funext j
      exact Tr.get_set 64 _ _ _ (far_fuel hf) j
  · cases h
theorem nw_some {o : VO} {k : Nat} {s s' : VS} (h : nw o s = some (k, s')) : s.g k = none ∧ s'.g = upd s.g k o := by
  unfold nw at h
  split at h
  · rename_i hf
    split at h
    · cases h
    · rename_i ho
      cases h
      refine ⟨ho, ?_⟩
      rw [touch_g]
      funext j
      exact Tr.get_set 64 _ _ _ (far_fuel hf) j
  · cases h

/-! ### Names and addresses; values -/
/-- What a name stands for: a block, where it begins in it, where the part ends that may be written. -/
abbrev Ren := Nat → Option (Nat × Nat × Nat)
def Ren.le (m m' : Ren) : Prop := ∀ r x, m r = some x → m' r = some x
theorem Ren.le_refl (m : Ren) : m.le m := fun _ _ h => h
theorem Ren.le_trans {a b c : Ren} (h : a.le b) (k : b.le c) : a.le c := fun r x hx => k r x (h r x hx)
def Ren.put (m : Ren) (k : Nat) (x : Nat × Nat × Nat) : Ren := fun j => if j = k then some x else m j
theorem Ren.le_put {m : Ren} {k : Nat} (x : Nat × Nat × Nat) (h : m k = none) : m.le (m.put k x) := by
  intro r y hr
  unfold Ren.put
  split
  · subst_vars; rw [h] at hr; cases hr
  · exact hr

inductive FnRel (m : Ren) : Fn → Fn → Prop
  | same (fn : Fn) (h : ∀ l, fn ≠ .yield l) : FnRel m fn fn
  | yield {l b o e : Nat} (h : m l = some (b, o, e)) : FnRel m (.yield l) (.yield b)

/-- A virtual value stands for one of the model. -/
inductive VRel (T : Nat → Option Value) (m : Ren) : Value → Value → Prop
  | bool (b : Bool) : VRel T m (.bool b) (.bool b)
  | int (k : IntKind) (n : Int) : VRel T m (.int k n) (.int k n)
  | string (s : ByteArray) : VRel T m (.string s) (.string s)
  | nilptr : VRel T m (.pointer none) (.pointer none)
  | ptr {r off b o e : Nat} (h : m r = some (b, o, e)) : VRel T m (.pointer (some ⟨r, off, none⟩)) (.pointer (some ⟨b, o + off, none⟩))
  | nilslice (z : Nat) : VRel T m (.slice none 0 z) (.slice none 0 0)
  | slice {r off b o e x len z cap : Nat} (h : m r = some (b, o, e))
      (hx : (len = 0 ∧ cap = 0) ∨ (x = o + off ∧ len ≤ cap ∧ x + cap * z ≤ e)) : VRel T m (.slice (some ⟨r, off, none⟩) len z) (.slice (some ⟨b, x, none⟩) len cap)
  | nilmap : VRel T m (.map none) (.map none)
  | map {r b o e : Nat} (h : m r = some (b, o, e)) : VRel T m (.map (some r)) (.map (some b))
  | nilfunc : VRel T m .nilFunc .nilFunc
  | func {fn fn' : Fn} {a a' c c' : Array Value} (hf : FnRel m fn fn') (ha : a.size = a'.size) (hc : c.size = c'.size)
      (ia : ∀ i (h : i < a.size) (h' : i < a'.size), VRel T m a[i] a'[i]) (ic : ∀ i (h : i < c.size) (h' : i < c'.size), VRel T m c[i] c'[i]) :
      VRel T m (.func fn a c) (.func fn' a' c')
  | iface {t : TypeId} {v v' : Value} (h : VRel T m v v') : VRel T m (.iface t v) (.iface t v')
  | niliface : VRel T m .nilIface .nilIface
  | agg {c c' : Array Value} (hc : c.size = c'.size) (ic : ∀ i (h : i < c.size) (h' : i < c'.size), VRel T m c[i] c'[i]) : VRel T m (.agg c) (.agg c')
  | tuple {c c' : Array Value} (hc : c.size = c'.size) (ic : ∀ i (h : i < c.size) (h' : i < c'.size), VRel T m c[i] c'[i]) : VRel T m (.tuple c) (.tuple c')
  | tok {i : Nat} {v : Value} (h : T i = some v) (hp : plainV v = true) : VRel T m (.complex .f64 i 0) v

section
variable {T : Nat → Option Value}

theorem FnRel.mono {m m' : Ren} (h : m.le m') {f f' : Fn} (r : FnRel m f f') : FnRel m' f f' := by
  cases r with
  | same _ hn => exact .same _ hn
  | yield hl => exact .yield (h _ _ hl)

theorem VRel.mono {m m' : Ren} (h : m.le m') {v v' : Value} (r : VRel T m v v') : VRel T m' v v' := by
  induction r with
  | bool b => exact .bool b
  | int k n => exact .int k n
  | string s => exact .string s
  | nilptr => exact .nilptr
  | ptr hr => exact .ptr (h _ _ hr)
  | nilslice z => exact .nilslice z
  | slice hr hx => exact .slice (h _ _ hr) hx
  | nilmap => exact .nilmap
  | map hr => exact .map (h _ _ hr)
  | nilfunc => exact .nilfunc
  | func hf ha hc _ _ ia ic => exact .func (hf.mono h) ha hc ia ic
  | iface _ ih => exact .iface ih
  | niliface => exact .niliface
  | agg hc _ ih => exact .agg hc ih
  | tuple hc _ ih => exact .tuple hc ih
  | tok ht hp => exact .tok ht hp

theorem VRel.plain {m : Ren} {v v' : Value} (r : VRel T m v v') : plainV v = plainV v' := by
  cases r with
  | tok h hp => rw [hp]; rfl
  | _ => rfl

/-- Lists of values, one by one. -/
def LRel (T : Nat → Option Value) (m : Ren) (l l' : List Value) : Prop := l.length = l'.length ∧ ∀ i (h : i < l.length) (h' : i < l'.length), VRel T m l[i] l'[i]

theorem LRel.mono {m m' : Ren} (h : m.le m') {l l' : List Value} (r : LRel T m l l') : LRel T m' l l' := ⟨r.1, fun i hi hi' => (r.2 i hi hi').mono h⟩
theorem LRel.nil (m : Ren) : LRel T m [] [] := ⟨rfl, fun i h _ => by simp at h⟩
theorem LRel.cons {m : Ren} {v v' : Value} {l l' : List Value} (h : VRel T m v v') (r : LRel T m l l') : LRel T m (v :: l) (v' :: l') := by
  refine ⟨by simp [r.1], fun i hi hi' => ?_⟩
  cases i with
  | zero => simpa using h
  | succ i => simpa using r.2 i (by simpa using hi) (by simpa using hi')
theorem LRel.head {m : Ren} {v v' : Value} {l l' : List Value} (r : LRel T m (v :: l) (v' :: l')) : VRel T m v v' := r.2 0 (by simp) (by simp)
theorem LRel.tail {m : Ren} {v v' : Value} {l l' : List Value} (r : LRel T m (v :: l) (v' :: l')) : LRel T m l l' :=
  ⟨by simpa using r.1, fun i hi hi' => r.2 (i + 1) (by simpa using hi) (by simpa using hi')⟩
theorem LRel.append {m : Ren} {a a' b b' : List Value} (h : LRel T m a a') (k : LRel T m b b') : LRel T m (a ++ b) (a' ++ b') := by
  refine ⟨by simp [h.1, k.1], fun i hi hi' => ?_⟩
  simp only [List.getElem_append]
  have := h.1
  split
  · rw [dif_pos (by omega)]; exact h.2 i _ _
  · rw [dif_neg (by omega)]
    simp only [← this]
    exact k.2 _ _ _
theorem LRel.get? {m : Ren} {l l' : List Value} (r : LRel T m l l') {i : Nat} {v : Value} (h : l[i]? = some v) : ∃ v', l'[i]? = some v' ∧ VRel T m v v' := by
  obtain ⟨hi, rfl⟩ := List.getElem?_eq_some_iff.1 h
  exact ⟨l'[i]'(by rw [← r.1]; exact hi), List.getElem?_eq_getElem _, r.2 i hi _⟩
theorem LRel.set {m : Ren} {l l' : List Value} (r : LRel T m l l') (i : Nat) {v v' : Value} (h : VRel T m v v') : LRel T m (l.set i v) (l'.set i v') := by
  refine ⟨by simp [r.1], fun j hj hj' => ?_⟩
  simp only [List.getElem_set]
  split
  · exact h
  · exact r.2 j _ _
theorem LRel.take {m : Ren} {l l' : List Value} (r : LRel T m l l') (n : Nat) : LRel T m (l.take n) (l'.take n) :=
  ⟨by simp [r.1], fun i hi hi' => by simpa using r.2 i (by simp at hi; omega) (by simp at hi'; omega)⟩
theorem LRel.drop {m : Ren} {l l' : List Value} (r : LRel T m l l') (n : Nat) : LRel T m (l.drop n) (l'.drop n) :=
  ⟨by simp [r.1], fun i hi hi' => by simpa using r.2 (n + i) (by simp at hi; omega) (by simp at hi'; omega)⟩

/-- Arrays likewise. -/
def ARel (T : Nat → Option Value) (m : Ren) (a a' : Array Value) : Prop := LRel T m a.toList a'.toList
theorem ARel.mono {m m' : Ren} (h : m.le m') {l l' : Array Value} (r : ARel T m l l') : ARel T m' l l' := LRel.mono h r
theorem ARel.size {m : Ren} {a a' : Array Value} (r : ARel T m a a') : a.size = a'.size := r.1
theorem ARel.at_ {m : Ren} {a a' : Array Value} (r : ARel T m a a') (i : Nat) (h : i < a.size) (h' : i < a'.size) : VRel T m a[i] a'[i] := r.2 i h h'
theorem ARel.mk' {m : Ren} {a a' : Array Value} (hs : a.size = a'.size) (h : ∀ i (h : i < a.size) (h' : i < a'.size), VRel T m a[i] a'[i]) : ARel T m a a' := ⟨hs, h⟩
theorem ARel.get? {m : Ren} {a a' : Array Value} (r : ARel T m a a') {i : Nat} {v : Value} (h : a[i]? = some v) : ∃ v', a'[i]? = some v' ∧ VRel T m v v' := by
  have := LRel.get? r (i := i) (v := v) (by simpa using h)
  simpa using this
theorem VRel.agg' {m : Ren} {c c' : Array Value} (r : ARel T m c c') : VRel T m (.agg c) (.agg c') := .agg r.size r.at_
theorem VRel.tuple' {m : Ren} {c c' : Array Value} (r : ARel T m c c') : VRel T m (.tuple c) (.tuple c') := .tuple r.size r.at_
theorem VRel.cells {m : Ren} {v v' : Value} (r : VRel T m v v') : ARel T m v.cells v'.cells := by
  cases r with
  | agg hc ic => exact .mk' hc ic
  | tok h hp =>
    have : ∀ v : Value, plainV v = true → v.cells = #[v] := by intro v hv; cases v <;> first | rfl | (simp [plainV] at hv)
    rw [this _ hp]
    exact LRel.cons (.tok h hp) (LRel.nil m)
  | bool b => exact LRel.cons (.bool b) (LRel.nil m)
  | int k n => exact LRel.cons (.int k n) (LRel.nil m)
  | string s => exact LRel.cons (.string s) (LRel.nil m)
  | nilptr => exact LRel.cons .nilptr (LRel.nil m)
  | ptr hr => exact LRel.cons (.ptr hr) (LRel.nil m)
  | nilslice z => exact LRel.cons (.nilslice z) (LRel.nil m)
  | slice hr hx => exact LRel.cons (.slice hr hx) (LRel.nil m)
  | nilmap => exact LRel.cons .nilmap (LRel.nil m)
  | map hr => exact LRel.cons (.map hr) (LRel.nil m)
  | nilfunc => exact LRel.cons .nilfunc (LRel.nil m)
  | func hf ha hc ia ic => exact LRel.cons (.func hf ha hc ia ic) (LRel.nil m)
  | iface h => exact LRel.cons (.iface h) (LRel.nil m)
  | niliface => exact LRel.cons .niliface (LRel.nil m)
  | tuple hc ic => exact LRel.cons (.tuple hc ic) (LRel.nil m)

/-! ### Values without addresses stand for themselves. -/
theorem scal_rel (n : Nat) : ∀ {m : Ren} {v v' : Value}, scal n v = true → VRel T m v v' → v = v' := by
  induction n with
  | zero =>
    intro m v v' hs r
    cases r <;> simp_all [scal]
    all_goals (rename_i z; cases z <;> simp_all [scal])
  | succ n ih =>
    intro m v v' hs r
    cases r with
    | agg hc ic =>
      rename_i c c'
      simp only [scal, List.all_eq_true] at hs
      congr 1
      refine Array.ext hc fun i hi hi' => ih (hs _ ?_) (ic i hi hi')
      simp
    | tuple hc ic =>
      rename_i c c'
      simp only [scal, List.all_eq_true] at hs
      congr 1
      refine Array.ext hc fun i hi hi' => ih (hs _ ?_) (ic i hi hi')
      simp
    | iface h => simp only [scal] at hs; rw [ih hs h]
    | nilslice z => cases z <;> simp_all [scal]
    | _ => simp_all [scal]

theorem scal_refl (n : Nat) : ∀ (m : Ren) {v : Value}, scal n v = true → VRel T m v v := by
  induction n with
  | zero =>
    intro m v hs
    cases v with
    | bool b => exact .bool b
    | int k i => exact .int k i
    | string s => exact .string s
    | pointer a => cases a <;> first | exact .nilptr | (simp [scal] at hs)
    | map a => cases a <;> first | exact .nilmap | (simp [scal] at hs)
    | nilFunc => exact .nilfunc
    | nilIface => exact .niliface
    | slice a l c =>
      have : a = none ∧ l = 0 ∧ c = 0 := by unfold scal at hs; split at hs <;> simp_all
      obtain ⟨rfl, rfl, rfl⟩ := this
      exact .nilslice 0
    | _ => simp [scal] at hs
  | succ n ih =>
    intro m v hs
    cases v with
    | bool b => exact .bool b
    | int k i => exact .int k i
    | string s => exact .string s
    | pointer a => cases a <;> first | exact .nilptr | (simp [scal] at hs)
    | map a => cases a <;> first | exact .nilmap | (simp [scal] at hs)
    | nilFunc => exact .nilfunc
    | nilIface => exact .niliface
    | slice a l c =>
      have : a = none ∧ l = 0 ∧ c = 0 := by unfold scal at hs; split at hs <;> simp_all
      obtain ⟨rfl, rfl, rfl⟩ := this
      exact .nilslice 0
    | iface t v => simp only [scal] at hs; exact .iface (ih m hs)
    | agg cs =>
      simp only [scal, List.all_eq_true] at hs
      exact .agg rfl fun i h _ => ih m (hs _ (by simp))
    | tuple cs =>
      simp only [scal, List.all_eq_true] at hs
      exact .tuple rfl fun i h _ => ih m (hs _ (by simp))
    | _ => simp [scal] at hs

end
end Vx
end

section
/- A virtual executor of the model's programs: virtual memory and the model's. Conditions: none; what each change of memory keeps is proved. -/
namespace Vx
open Go Go.RowKit

section
variable (T : Nat → Option Value) (w0 : World)

/-- A row and the cells that it stands for. -/
def RowOk (m : Ren) (w : World) (r : Nat) (cs : List Value) (e : TypeId) (f : Nat) : Prop :=
  ∃ b o l c E lo hi, m r = some (b, o, l) ∧ w.heap[b]? = some (.cells c E (lo, hi)) ∧ o + cs.length ≤ l ∧ l ≤ c.size ∧ w0.heap.size ≤ b ∧
    (∀ i v, cs[i]? = some v → ∃ v', c[o + i]? = some v' ∧ VRel T m v v') ∧ (∀ j, o ≤ j → j < l → ¬(lo ≤ j ∧ j < hi)) ∧
    (f = 0 → o = 0 ∧ l = c.size ∧ cs.length = c.size ∧ E = e)

structure EntryRel (m : Ren) (x y : MapEntry) : Prop where
  key : VRel T m x.key y.key
  val : VRel T m x.val y.val
  born : x.born = y.born

inductive TargetRel (m : Ren) : Target → Target → Prop
  | fn {f f' : Fn} {c c' : Array Value} (hf : FnRel m f f') (hc : ARel T m c c') : TargetRel m (.fn f c) (.fn f' c')
  | collected {r b o e : Nat} (h : m r = some (b, o, e)) : TargetRel m (.collected r) (.collected b)
  | nil : TargetRel m .nil .nil

structure DefRel (m : Ren) (d d' : Deferred) : Prop where
  target : TargetRel T m d.target d'.target
  args : ARel T m d.args d'.args

def DefsRel (m : Ren) : List Deferred → List Deferred → Prop
  | [], [] => True
  | d :: l, d' :: l' => DefRel T m d d' ∧ DefsRel m l l'
  | _, _ => False

def NameRel (m : Ren) : Option Nat → Option Nat → Prop
  | none, none => True
  | some r, some b => ∃ o e, m r = some (b, o, e)
  | _, _ => False

inductive ObjRel (m : Ren) : Obj → Obj → Prop
  | map {es es' : Array MapEntry} (clock : Nat) (hs : es.size = es'.size) (he : ∀ i (h : i < es.size) (h' : i < es'.size), EntryRel T m es[i] es'[i]) : ObjRel m (.map es clock) (.map es' clock)
  | mapIter {r r' : Option Nat} (since : Nat) (seen : Array Nat) (stepped : Nat) (hr : NameRel m r r') : ObjRel m (.mapIter r since seen stepped) (.mapIter r' since seen stepped)
  | stringIter (s : ByteArray) (pos : Nat) : ObjRel m (.stringIter s pos) (.stringIter s pos)
  | loop {l l' : Loop} (h1 : l.state = l'.state) (h2 : l.pending = l'.pending) (h3 : l.fn = l'.fn) (h4 : l.params = l'.params) (h5 : l.assign = l'.assign) (h6 : l.body = l'.body)
      (ht : ARel T m l.tmps l'.tmps) (hd : ∃ o e, m l.defers = some (l'.defers, o, e)) : ObjRel m (.loop l) (.loop l')
  | taken : ObjRel m (.deferred none) (.deferred none)
  | deferred {l l' : List Deferred} (h : DefsRel T m l l') : ObjRel m (.deferred (some l)) (.deferred (some l'))

/-- Virtual memory stands for the world's, from the blocks on that the first world had. -/
structure HR (m : Ren) (g : Hp) (w : World) : Prop where
  bel : Below w0.heap.size w0 w
  rows : ∀ r cs e f st, g r = some (.row cs e f st) → RowOk T w0 m w r cs e f
  objs : ∀ r o, g r = some (.obj o) → ∃ b o' x y, m r = some (b, x, y) ∧ w.heap[b]? = some o' ∧ ObjRel T m o o' ∧ w0.heap.size ≤ b
  sep : ∀ r r' cs e f st cs' e' f' st' b o l o' l', r ≠ r' → g r = some (.row cs e f st) → g r' = some (.row cs' e' f' st') →
    m r = some (b, o, l) → m r' = some (b, o', l') → f = f' ∧ f ≠ 0 ∧ o + st' = o' + st
  osep : ∀ r r' ob ob' b x y x' y', r ≠ r' → g r = some (.obj ob) → g r' = some (.obj ob') → m r = some (b, x, y) → m r' = some (b, x', y') → False
  fams : ∀ r cs e f st, g r = some (.row cs e f st) → f ≠ 0 → ∃ l, g f = some (.fam l) ∧ (r, st, st + cs.length) ∈ l
  dom : ∀ r x, m r = some x → g r ≠ none
  inw : ∀ r b o l, m r = some (b, o, l) → b < w.heap.size
end

section
variable {T : Nat → Option Value} {w0 : World}

theorem EntryRel.mono {m m' : Ren} (h : m.le m') {x y : MapEntry} (r : EntryRel T m x y) : EntryRel T m' x y := ⟨r.key.mono h, r.val.mono h, r.born⟩
theorem TargetRel.mono {m m' : Ren} (h : m.le m') {x y : Target} (r : TargetRel T m x y) : TargetRel T m' x y := by
  cases r with
  | fn hf hc => exact .fn (hf.mono h) (hc.mono h)
  | collected hr => exact .collected (h _ _ hr)
  | nil => exact .nil
theorem DefRel.mono {m m' : Ren} (h : m.le m') {x y : Deferred} (r : DefRel T m x y) : DefRel T m' x y := ⟨r.target.mono h, r.args.mono h⟩
theorem DefsRel.mono {m m' : Ren} (h : m.le m') : ∀ {x y : List Deferred}, DefsRel T m x y → DefsRel T m' x y
  | [], [], _ => trivial
  | _ :: _, _ :: _, ⟨a, b⟩ => ⟨a.mono h, DefsRel.mono h b⟩
  | [], _ :: _, r => r.elim
  | _ :: _, [], r => r.elim
theorem NameRel.mono {m m' : Ren} (h : m.le m') : ∀ {x y : Option Nat}, NameRel m x y → NameRel m' x y
  | none, none, _ => trivial
  | some _, some _, ⟨o, e, r⟩ => ⟨o, e, h _ _ r⟩
  | none, some _, r => r.elim
  | some _, none, r => r.elim
theorem ObjRel.mono {m m' : Ren} (h : m.le m') {x y : Obj} (r : ObjRel T m x y) : ObjRel T m' x y := by
  cases r with
  | map clock hs he => exact .map clock hs fun i a b => (he i a b).mono h
  | mapIter since seen stepped hr => exact .mapIter since seen stepped (hr.mono h)
  | stringIter s pos => exact .stringIter s pos
  | loop h1 h2 h3 h4 h5 h6 ht hd => exact .loop h1 h2 h3 h4 h5 h6 (ht.mono h) (let ⟨o, e, k⟩ := hd; ⟨o, e, h _ _ k⟩)
  | taken => exact .taken
  | deferred hd => exact .deferred (hd.mono h)
theorem ObjRel.notCells {m : Ren} {x y : Obj} (r : ObjRel T m x y) : (∀ c e fz, y ≠ .cells c e fz) ∧ (∀ c e fz, x ≠ .cells c e fz) := by
  cases r <;> exact ⟨fun _ _ _ => Obj.noConfusion, fun _ _ _ => Obj.noConfusion⟩

/-- Only the streams have moved. -/
theorem HR.still {m : Ren} {g : Hp} {w w' : World} (h : HR T w0 m g w) (hh : w'.heap = w.heap) (ho : w'.os = w.os) (ht : w'.tape = w.tape) (hp : w'.output = w.output) : HR T w0 m g w' where
  bel := h.bel.trans ⟨ho, ht, hp, by rw [hh]; exact Nat.le_refl _, fun k _ => by rw [hh]⟩
  rows := fun r cs e f st hr => by unfold RowOk; rw [hh]; exact h.rows r cs e f st hr
  objs := fun r o hr => by rw [hh]; exact h.objs r o hr
  sep := h.sep
  osep := h.osep
  fams := h.fams
  dom := h.dom
  inw := fun r b o l hr => by rw [hh]; exact h.inw r b o l hr

/-! ### New blocks -/
theorem push_lt {w w' : World} {ob : Obj} (hh : w'.heap = w.heap.push ob) {b : Nat} (h : b < w.heap.size) : w'.heap[b]? = w.heap[b]? := by
  rw [hh, Array.getElem?_push, if_neg (by omega)]
theorem push_at {w w' : World} {ob : Obj} (hh : w'.heap = w.heap.push ob) : w'.heap[w.heap.size]? = some ob := by
  rw [hh]; simp

theorem below_push {w w' : World} {ob : Obj} (h : Below w0.heap.size w0 w) (hh : w'.heap = w.heap.push ob) (ho : w'.os = w.os) (ht : w'.tape = w.tape) (hp : w'.output = w.output) : Below w0.heap.size w0 w' :=
  h.trans ⟨ho, ht, hp, by rw [hh]; simp, fun k hk => push_lt hh (by have := h.size; omega)⟩

theorem RowOk.push {m : Ren} {w w' : World} {ob : Obj} (hin : ∀ r b o l, m r = some (b, o, l) → b < w.heap.size) (hh : w'.heap = w.heap.push ob) {k : Nat} {x : Nat × Nat × Nat} (hk : m k = none)
    {r : Nat} {cs : List Value} {e : TypeId} {f : Nat} (h : RowOk T w0 m w r cs e f) : RowOk T w0 (m.put k x) w' r cs e f := by
  obtain ⟨b, o, l, c, E, lo, hi, h1, h2, h3, h4, h5, h6, h7, h8⟩ := h
  refine ⟨b, o, l, c, E, lo, hi, Ren.le_put x hk _ _ h1, ?_, h3, h4, h5, fun i v hv => ?_, h7, h8⟩
  · rw [push_lt hh (hin _ _ _ _ h1)]; exact h2
  · obtain ⟨v', a, b⟩ := h6 i v hv
    exact ⟨v', a, b.mono (Ren.le_put x hk)⟩

theorem put_same (m : Ren) (k : Nat) (x : Nat × Nat × Nat) : m.put k x k = some x := by simp [Ren.put]
theorem put_other (m : Ren) {k j : Nat} (x : Nat × Nat × Nat) (h : j ≠ k) : m.put k x j = m j := by simp [Ren.put, h]

/-- A new block of cells, and a row over it; beside it only rows that are gone may have turned. -/
theorem HR.newCells {m : Ren} {g g' : Hp} {w w' : World} (h : HR T w0 m g w) {k : Nat} {cs : List Value} {e E : TypeId} {f st lo hi : Nat} {c : Array Value}
    (hk : g k = none) (hh : w'.heap = w.heap.push (.cells c E (lo, hi))) (ho : w'.os = w.os) (ht : w'.tape = w.tape) (hp : w'.output = w.output)
    (hlen : cs.length ≤ c.size) (hcs : ∀ (i : Nat) v, cs[i]? = some v → ∃ v', c[i]? = some v' ∧ VRel T m v v') (hfz : ∀ j, j < c.size → ¬(lo ≤ j ∧ j < hi))
    (hsolo : f = 0 → cs.length = c.size ∧ E = e)
    (hg : g' k = some (.row cs e f st)) (hg1 : ∀ r, r ≠ k → (∀ cs e f st, g' r = some (.row cs e f st) → g r = some (.row cs e f st)) ∧ (∀ o, g' r = some (.obj o) → g r = some (.obj o)) ∧ (g r ≠ none → g' r ≠ none))
    (hfam : ∀ r cs e f st, g' r = some (.row cs e f st) → f ≠ 0 → ∃ l, g' f = some (.fam l) ∧ (r, st, st + cs.length) ∈ l) :
    HR T w0 (m.put k (w.heap.size, 0, c.size)) g' w' := by
  have hm : m k = none := by
    cases hx : m k with
    | none => rfl
    | some x => exact absurd hk (h.dom k x hx)
  have hle := Ren.le_put (m := m) (w.heap.size, 0, c.size) hm
  refine ⟨below_push h.bel hh ho ht hp, ?_, ?_, ?_, ?_, hfam, ?_, ?_⟩
  · intro r cs' e' f' st' hr
    by_cases hrk : r = k
    · subst hrk
      rw [hg] at hr
      cases hr
      refine ⟨w.heap.size, 0, c.size, c, E, lo, hi, put_same _ _ _, push_at hh, by omega, Nat.le_refl _, h.bel.size, fun i v hv => ?_, fun j _ hj => hfz j hj, fun h0 => ⟨rfl, rfl, hsolo h0⟩⟩
      obtain ⟨v', a, b⟩ := hcs i v hv
      exact ⟨v', by rw [Nat.zero_add]; exact a, b.mono hle⟩
    · exact (h.rows r cs' e' f' st' ((hg1 r hrk).1 _ _ _ _ hr)).push h.inw hh hm
  · intro r o hr
    by_cases hrk : r = k
    · subst hrk; rw [hg] at hr; cases hr
    · obtain ⟨b, o', x, y, h1, h2, h3, h4⟩ := h.objs r o ((hg1 r hrk).2.1 _ hr)
      exact ⟨b, o', x, y, hle _ _ h1, by rw [push_lt hh (h.inw _ _ _ _ h1)]; exact h2, h3.mono hle, h4⟩
  · intro r r' cs1 e1 f1 st1 cs2 e2 f2 st2 b o l o' l' hne hr hr' hm1 hm2
    by_cases hrk : r = k
    · subst hrk
      rw [put_same] at hm1
      rw [put_other _ _ (Ne.symm hne)] at hm2
      have := h.inw _ _ _ _ hm2
      cases hm1
      omega
    · by_cases hrk' : r' = k
      · subst hrk'
        rw [put_same] at hm2
        rw [put_other _ _ hne] at hm1
        have := h.inw _ _ _ _ hm1
        cases hm2
        omega
      · rw [put_other _ _ hrk] at hm1
        rw [put_other _ _ hrk'] at hm2
        exact h.sep r r' _ _ _ _ _ _ _ _ _ _ _ _ _ hne ((hg1 r hrk).1 _ _ _ _ hr) ((hg1 r' hrk').1 _ _ _ _ hr') hm1 hm2
  · intro r r' ob ob' b x y x' y' hne hr hr' hm1 hm2
    have hrk : r ≠ k := by intro e; subst e; rw [hg] at hr; cases hr
    have hrk' : r' ≠ k := by intro e; subst e; rw [hg] at hr'; cases hr'
    rw [put_other _ _ hrk] at hm1
    rw [put_other _ _ hrk'] at hm2
    exact h.osep r r' _ _ _ _ _ _ _ hne ((hg1 r hrk).2.1 _ hr) ((hg1 r' hrk').2.1 _ hr') hm1 hm2
  · intro r x hr
    by_cases hrk : r = k
    · subst hrk; rw [hg]; exact fun e => by cases e
    · rw [put_other _ _ hrk] at hr
      exact (hg1 r hrk).2.2 (h.dom r x hr)
  · intro r b o l hr
    rw [hh, Array.size_push]
    by_cases hrk : r = k
    · subst hrk; rw [put_same] at hr; cases hr; omega
    · rw [put_other _ _ hrk] at hr
      have := h.inw _ _ _ _ hr
      omega

/-- A new object. -/
theorem HR.newObj {m : Ren} {g : Hp} {w w' : World} (h : HR T w0 m g w) {k : Nat} {o o' : Obj} (hk : g k = none) (hh : w'.heap = w.heap.push o') (ho : w'.os = w.os) (ht : w'.tape = w.tape)
    (hp : w'.output = w.output) (hr : ObjRel T m o o') : HR T w0 (m.put k (w.heap.size, 0, 0)) (upd g k (.obj o)) w' := by
  have hm : m k = none := by
    cases hx : m k with
    | none => rfl
    | some x => exact absurd hk (h.dom k x hx)
  have hle := Ren.le_put (m := m) (w.heap.size, 0, 0) hm
  refine ⟨below_push h.bel hh ho ht hp, ?_, ?_, ?_, ?_, ?_, ?_, ?_⟩
  · intro r cs e f st hr
    by_cases hrk : r = k
    · subst hrk; rw [upd_same] at hr; cases hr
    · rw [upd_other _ _ hrk] at hr
      exact (h.rows r cs e f st hr).push h.inw hh hm
  · intro r ob hrr
    by_cases hrk : r = k
    · subst hrk
      rw [upd_same] at hrr
      cases hrr
      exact ⟨w.heap.size, o', 0, 0, put_same _ _ _, push_at hh, hr.mono hle, h.bel.size⟩
    · rw [upd_other _ _ hrk] at hrr
      obtain ⟨b, o', x, y, h1, h2, h3, h4⟩ := h.objs r ob hrr
      exact ⟨b, o', x, y, hle _ _ h1, by rw [push_lt hh (h.inw _ _ _ _ h1)]; exact h2, h3.mono hle, h4⟩
  · intro r r' cs1 e1 f1 st1 cs2 e2 f2 st2 b o l o' l' hne hr hr' hm1 hm2
    have hrk : r ≠ k := by intro e; subst e; rw [upd_same] at hr; cases hr
    have hrk' : r' ≠ k := by intro e; subst e; rw [upd_same] at hr'; cases hr'
    rw [upd_other _ _ hrk] at hr
    rw [upd_other _ _ hrk'] at hr'
    rw [put_other _ _ hrk] at hm1
    rw [put_other _ _ hrk'] at hm2
    exact h.sep r r' _ _ _ _ _ _ _ _ _ _ _ _ _ hne hr hr' hm1 hm2
  · intro r r' ob ob' b x y x' y' hne hr hr' hm1 hm2
    by_cases hrk : r = k
    · subst hrk
      rw [put_same] at hm1
      rw [put_other _ _ (Ne.symm hne)] at hm2
      have := h.inw _ _ _ _ hm2
      cases hm1
      omega
    · by_cases hrk' : r' = k
      · subst hrk'
        rw [put_same] at hm2
        rw [put_other _ _ hne] at hm1
        have := h.inw _ _ _ _ hm1
        cases hm2
        omega
      · rw [upd_other _ _ hrk] at hr
        rw [upd_other _ _ hrk'] at hr'
        rw [put_other _ _ hrk] at hm1
        rw [put_other _ _ hrk'] at hm2
        exact h.osep r r' _ _ _ _ _ _ _ hne hr hr' hm1 hm2
  · intro r cs e f st hr hf
    have hrk : r ≠ k := by intro e; subst e; rw [upd_same] at hr; cases hr
    rw [upd_other _ _ hrk] at hr
    obtain ⟨l, hl, hmem⟩ := h.fams r cs e f st hr hf
    have hfk : f ≠ k := by intro e; subst e; rw [hk] at hl; cases hl
    exact ⟨l, by rw [upd_other _ _ hfk]; exact hl, hmem⟩
  · intro r x hr
    by_cases hrk : r = k
    · subst hrk; rw [upd_same]; exact fun e => by cases e
    · rw [put_other _ _ hrk] at hr
      rw [upd_other _ _ hrk]
      exact h.dom r x hr
  · intro r b o l hr
    rw [hh, Array.size_push]
    by_cases hrk : r = k
    · subst hrk; rw [put_same] at hr; cases hr; omega
    · rw [put_other _ _ hrk] at hr
      have := h.inw _ _ _ _ hr
      omega

/-! ### An object is written -/
theorem HR.setObj {m : Ren} {g : Hp} {w w' : World} (h : HR T w0 m g w) {k b x y : Nat} {o0 o o' : Obj} (hk : g k = some (.obj o0)) (hm : m k = some (b, x, y))
    (hh : w'.heap = w.heap.setIfInBounds b o') (ho : w'.os = w.os) (ht : w'.tape = w.tape) (hp : w'.output = w.output) (hr : ObjRel T m o o') : HR T w0 m (upd g k (.obj o)) w' := by
  have hsz : w'.heap.size = w.heap.size := by rw [hh]; simp
  have hoth : ∀ j, j ≠ b → w'.heap[j]? = w.heap[j]? := by intro j hj; rw [hh, Array.getElem?_setIfInBounds]; rw [if_neg (Ne.symm hj)]
  obtain ⟨b1, o1, x1, y1, g1, g2, g3, g4⟩ := h.objs k o0 hk
  rw [hm] at g1
  cases g1
  have hsame : w'.heap[b]? = some o' := by
    rw [hh, Array.getElem?_setIfInBounds, if_pos rfl, if_pos (h.inw _ _ _ _ hm)]
  refine ⟨h.bel.trans ⟨ho, ht, hp, by omega, fun j hj => hoth j (by omega)⟩, ?_, ?_, ?_, ?_, ?_, ?_, ?_⟩
  · intro r cs e f st hr
    have hrk : r ≠ k := by intro e; subst e; rw [upd_same] at hr; cases hr
    rw [upd_other _ _ hrk] at hr
    obtain ⟨b2, o2, l, c, E, lo, hi, h1, h2, h3⟩ := h.rows r cs e f st hr
    refine ⟨b2, o2, l, c, E, lo, hi, h1, ?_, h3⟩
    rw [hoth b2 (by intro e; subst e; rw [g2] at h2; cases h2; exact (g3.notCells.1 _ _ _ rfl).elim)]
    exact h2
  · intro r ob hrr
    by_cases hrk : r = k
    · subst hrk
      rw [upd_same] at hrr
      cases hrr
      exact ⟨b, o', x, y, hm, hsame, hr, g4⟩
    · rw [upd_other _ _ hrk] at hrr
      obtain ⟨b2, o2, x2, y2, h1, h2, h3, h4⟩ := h.objs r ob hrr
      refine ⟨b2, o2, x2, y2, h1, ?_, h3, h4⟩
      rw [hoth b2 (by intro e; subst e; exact h.osep r k _ _ _ _ _ _ _ hrk hrr hk h1 hm)]
      exact h2
  · intro r r' cs1 e1 f1 st1 cs2 e2 f2 st2 b o l o' l' hne hr hr' hm1 hm2
    have hrk : r ≠ k := by intro e; subst e; rw [upd_same] at hr; cases hr
    have hrk' : r' ≠ k := by intro e; subst e; rw [upd_same] at hr'; cases hr'
    rw [upd_other _ _ hrk] at hr
    rw [upd_other _ _ hrk'] at hr'
    exact h.sep r r' _ _ _ _ _ _ _ _ _ _ _ _ _ hne hr hr' hm1 hm2
  · intro r r' ob ob' b x y x' y' hne hr hr' hm1 hm2
    by_cases hrk : r = k
    · subst hrk
      rw [upd_other _ _ (Ne.symm hne)] at hr'
      exact h.osep r r' _ _ _ _ _ _ _ hne hk hr' hm1 hm2
    · rw [upd_other _ _ hrk] at hr
      by_cases hrk' : r' = k
      · subst hrk'
        exact h.osep r r' _ _ _ _ _ _ _ hne hr hk hm1 hm2
      · rw [upd_other _ _ hrk'] at hr'
        exact h.osep r r' _ _ _ _ _ _ _ hne hr hr' hm1 hm2
  · intro r cs e f st hr hf
    have hrk : r ≠ k := by intro e; subst e; rw [upd_same] at hr; cases hr
    rw [upd_other _ _ hrk] at hr
    obtain ⟨l, hl, hmem⟩ := h.fams r cs e f st hr hf
    have hfk : f ≠ k := by intro e; subst e; rw [hk] at hl; cases hl
    exact ⟨l, by rw [upd_other _ _ hfk]; exact hl, hmem⟩
  · intro r x hr
    by_cases hrk : r = k
    · subst hrk; rw [upd_same]; exact fun e => by cases e
    · rw [upd_other _ _ hrk]
      exact h.dom r x hr
  · intro r b o l hr
    rw [hsz]
    exact h.inw _ _ _ _ hr

/-! ### Rows that are gone -/
/-- Some rows are gone, some lists of families have turned. -/
theorem HR.fewer {m : Ren} {g g' : Hp} {w : World} (h : HR T w0 m g w) (h1 : ∀ r cs e f st, g' r = some (.row cs e f st) → g r = some (.row cs e f st))
    (h2 : ∀ r o, g' r = some (.obj o) → g r = some (.obj o)) (h3 : ∀ r, g r ≠ none → g' r ≠ none)
    (hfam : ∀ r cs e f st, g' r = some (.row cs e f st) → f ≠ 0 → ∃ l, g' f = some (.fam l) ∧ (r, st, st + cs.length) ∈ l) : HR T w0 m g' w where
  bel := h.bel
  rows := fun r cs e f st hr => h.rows r cs e f st (h1 _ _ _ _ _ hr)
  objs := fun r o hr => h.objs r o (h2 _ _ hr)
  sep := fun r r' _ _ _ _ _ _ _ _ _ _ _ _ _ hne hr hr' => h.sep r r' _ _ _ _ _ _ _ _ _ _ _ _ _ hne (h1 _ _ _ _ _ hr) (h1 _ _ _ _ _ hr')
  osep := fun r r' _ _ _ _ _ _ _ hne hr hr' => h.osep r r' _ _ _ _ _ _ _ hne (h2 _ _ hr) (h2 _ _ hr')
  fams := hfam
  dom := fun r x hr => h3 r (h.dom r x hr)
  inw := h.inw

theorem killAll_some : ∀ {l : List (Nat × Nat × Nat)} {u : Unit} {s s' : VS}, killAll l s = some (u, s') →
    (∀ k, s'.g k = if k ∈ l.map (·.1) then some .dead else s.g k) ∧ ∀ k ∈ l.map (·.1), (∃ cs e f st, s.g k = some (.row cs e f st)) ∨ s.g k = some .dead := by
  intro l
  induction l with
  | nil => intro u s s' h; have := ret_some h; rw [← this.2]; simp
  | cons x l ih =>
    intro u s s' h
    obtain ⟨n, a, b⟩ := x
    obtain ⟨o, s0, h0, h1⟩ := bind_some h
    obtain ⟨hn, hs0⟩ := rd_some h0
    cases o with
    | row cs e f st =>
      obtain ⟨u1, s1, h1, h2⟩ := bind_some h1
      have ⟨ia, ib⟩ := ih h2
      have hs1 := (wr_some h1).2
      rw [hs0] at hs1
      refine ⟨fun k => ?_, fun k hk => ?_⟩
      · rw [ia k, hs1]
        simp only [List.map_cons, List.mem_cons, upd]
        by_cases hk : k ∈ l.map (·.1)
        · simp [hk]
        · simp [hk]
      · simp only [List.map_cons, List.mem_cons] at hk
        rcases hk with rfl | hk
        · exact .inl ⟨cs, e, f, st, hn⟩
        · by_cases hkn : k = n
          · subst hkn; exact .inl ⟨cs, e, f, st, hn⟩
          · have := ib k hk
            rw [hs1, upd_other _ _ hkn] at this
            exact this
    | dead =>
      have ⟨ia, ib⟩ := ih h1
      rw [hs0] at ia ib
      refine ⟨fun k => ?_, fun k hk => ?_⟩
      · rw [ia k]
        simp only [List.map_cons, List.mem_cons]
        by_cases hk : k ∈ l.map (·.1)
        · simp [hk]
        · simp only [hk, if_false, or_false]
          split
          · subst_vars; exact hn
          · rfl
      · simp only [List.map_cons, List.mem_cons] at hk
        rcases hk with rfl | hk
        · exact .inr hn
        · exact ib k hk
    | obj _ => exact (fail_some h1).elim
    | fam _ => exact (fail_some h1).elim

/-- What 'kill' leaves: the rows of the family that the test doesn't name, all else. -/
theorem kill_keeps {f : Nat} {bad : Nat → Nat → Nat → Bool} {u : Unit} {s s' : VS} {m : Ren} {w : World} (hk : kill f bad s = some (u, s')) (h : HR T w0 m s.g w) :
    HR T w0 m s'.g w ∧ (∀ r cs e f' st, s'.g r = some (.row cs e f' st) → s.g r = some (.row cs e f' st)) ∧ (∃ l, s'.g f = some (.fam l)) ∧
    (∀ r cs e st, f ≠ 0 → s'.g r = some (.row cs e f st) → bad r st (st + cs.length) = false) ∧ (∀ r, s.g r = none ↔ s'.g r = none) ∧
    (∀ r cs e st, f ≠ 0 → s.g r = some (.row cs e f st) → (∀ a b, bad r a b = false) → s'.g r = some (.row cs e f st)) ∧ (∀ r o, s'.g r = some (.obj o) → s.g r = some (.obj o)) := by
  obtain ⟨o, s1, h1, h2⟩ := bind_some hk
  obtain ⟨hgf, hs1⟩ := rd_some h1
  cases o with
  | fam l =>
    simp only at h2
    cases hfl : l.filter fun (n, s, e) => bad n s e with
    | nil =>
      have hnil := hfl
      rw [hfl] at h2
      have := ret_some h2
      have hss : s'.g = s.g := by rw [← this.2, hs1]
      rw [hss]
      refine ⟨h, fun _ _ _ _ _ hr => hr, ⟨l, hgf⟩, ?_, fun _ => Iff.rfl, fun r cs e st _ hr _ => hr, fun _ _ hr => hr⟩
      intro r cs e st hf hr
      obtain ⟨l', hl', hmem⟩ := h.fams r cs e f st hr hf
      rw [hgf] at hl'
      cases hl'
      have := List.filter_eq_nil_iff.1 hnil _ hmem
      simpa using this
    | cons b0 bs =>
      rw [hfl] at h2
      obtain ⟨u1, s2, h3, h4⟩ := bind_some h2
      rw [← hfl] at h3
      have ⟨hg2, hg4⟩ := killAll_some h3
      have hg3 := (wr_some h4).2
      rw [hs1] at hg2 hg4
      have hg : ∀ k, s'.g k = if k = f then some (.fam (l.filter fun (n, s, e) => !bad n s e)) else if k ∈ (l.filter fun (n, s, e) => bad n s e).map (·.1) then some .dead else s.g k := by
        intro k
        rw [hg3]
        unfold upd
        split
        · rfl
        · exact hg2 k
      have hrow : ∀ r cs e f' st, s'.g r = some (.row cs e f' st) → s.g r = some (.row cs e f' st) := by
        intro r cs e f' st hr
        rw [hg] at hr
        split at hr
        · cases hr
        · split at hr
          · cases hr
          · exact hr
      have hbad : ∀ r cs e st, f ≠ 0 → s'.g r = some (.row cs e f st) → (r, st, st + cs.length) ∈ l ∧ bad r st (st + cs.length) = false := by
        intro r cs e st hf hr
        have hr0 := hrow _ _ _ _ _ hr
        obtain ⟨l', hl', hmem⟩ := h.fams r cs e f st hr0 hf
        rw [hgf] at hl'
        cases hl'
        refine ⟨hmem, ?_⟩
        rw [hg] at hr
        split at hr
        · cases hr
        · split at hr
          · cases hr
          · rename_i hnm
            cases hb : bad r st (st + cs.length) with
            | false => rfl
            | true => exact (hnm (List.mem_map.2 ⟨_, List.mem_filter.2 ⟨hmem, hb⟩, rfl⟩)).elim
      refine ⟨h.fewer hrow ?_ ?_ ?_, hrow, ⟨_, by rw [hg, if_pos rfl]⟩, fun r cs e st hf hr => (hbad r cs e st hf hr).2, ?_, ?_, ?_⟩
      · intro r o hr
        rw [hg] at hr
        split at hr
        · cases hr
        · split at hr
          · cases hr
          · exact hr
      · intro r hr
        rw [hg]
        split
        · exact fun e => by cases e
        · split
          · exact fun e => by cases e
          · exact hr
      · intro r cs e f' st hr hf'
        by_cases hff : f' = f
        · subst hff
          refine ⟨_, by rw [hg, if_pos rfl], ?_⟩
          have := hbad r cs e st hf' hr
          exact List.mem_filter.2 ⟨this.1, by simp [this.2]⟩
        · have hr0 := hrow _ _ _ _ _ hr
          obtain ⟨l', hl', hmem⟩ := h.fams r cs e f' st hr0 hf'
          refine ⟨l', ?_, hmem⟩
          rw [hg, if_neg hff, if_neg ?_]
          · exact hl'
          · intro hm
            rcases hg4 _ hm with ⟨_, _, _, _, hx⟩ | hx <;> (rw [hl'] at hx; cases hx)
      · intro r
        rw [hg]
        constructor
        · intro hr
          split
          · subst_vars; rw [hgf] at hr; cases hr
          · split
            · rename_i hm
              rcases hg4 _ hm with ⟨_, _, _, _, hx⟩ | hx <;> (rw [hr] at hx; cases hx)
            · exact hr
        · intro hr
          split at hr
          · cases hr
          · split at hr
            · cases hr
            · exact hr
      · intro r cs e st hf hr hall
        rw [hg, if_neg (by intro e; subst e; rw [hgf] at hr; cases hr), if_neg ?_]
        · exact hr
        · intro hm
          obtain ⟨⟨n, a, b⟩, hx, rfl⟩ := List.mem_map.1 hm
          have := (List.mem_filter.1 hx).2
          simp [hall] at this
      · intro r o hr
        rw [hg] at hr
        split at hr
        · cases hr
        · split at hr
          · cases hr
          · exact hr
  | row _ _ _ _ => exact (fail_some h2).elim
  | obj _ => exact (fail_some h2).elim
  | dead => exact (fail_some h2).elim

end
end Vx
end

section
/- A virtual executor of the model's programs: cells that are written, rows that grow. Conditions: none; what each change of memory keeps is proved. -/
namespace Vx
open Go Go.RowKit

/-- The world behind cells written into one block. -/
structure Wrote (b x n : Nat) (w w' : World) : Prop where
  os : w'.os = w.os
  tape : w'.tape = w.tape
  output : w'.output = w.output
  size : w'.heap.size = w.heap.size
  other : ∀ j, j ≠ b → w'.heap[j]? = w.heap[j]?
  same : ∃ c c' E fz, w.heap[b]? = some (.cells c E fz) ∧ w'.heap[b]? = some (.cells c' E fz) ∧ c'.size = c.size ∧ ∀ j : Nat, ¬(x ≤ j ∧ j < x + n) → c'[j]? = c[j]?

section
variable {T : Nat → Option Value} {w0 : World}

theorem RowOk.wrote {m : Ren} {w w' : World} {b x n : Nat} (hw : Wrote b x n w w') {r : Nat} {cs : List Value} {e : TypeId} {f : Nat} (h : RowOk T w0 m w r cs e f)
    (hd : ∀ o l, m r = some (b, o, l) → o + cs.length ≤ x ∨ x + n ≤ o) : RowOk T w0 m w' r cs e f := by
  obtain ⟨b1, o, l, c, E, lo, hi, h1, h2, h3, h4, h5, h6, h7, h8⟩ := h
  by_cases hb : b1 = b
  · subst hb
    obtain ⟨c0, c', E0, fz, k1, k2, k3, k4⟩ := hw.same
    rw [h2] at k1
    cases k1
    refine ⟨b1, o, l, c', E, lo, hi, h1, k2, h3, by omega, h5, fun i v hv => ?_, h7, fun h0 => by have := h8 h0; rw [k3]; exact this⟩
    obtain ⟨hi', _⟩ := List.getElem?_eq_some_iff.1 hv
    obtain ⟨v', a, b⟩ := h6 i v hv
    exact ⟨v', by rw [k4 (o + i) (by have := hd o l h1; omega)]; exact a, b⟩
  · exact ⟨b1, o, l, c, E, lo, hi, h1, by rw [hw.other _ hb]; exact h2, h3, h4, h5, h6, h7, h8⟩

theorem RowOk.mono {m m' : Ren} {w : World} (hm : m.le m') {r : Nat} {cs : List Value} {e : TypeId} {f : Nat} (h : RowOk T w0 m w r cs e f) : RowOk T w0 m' w r cs e f := by
  obtain ⟨b1, o, l, c, E, lo, hi, h1, h2, h3, h4, h5, h6, h7, h8⟩ := h
  exact ⟨b1, o, l, c, E, lo, hi, hm _ _ h1, h2, h3, h4, h5, fun i v hv => by obtain ⟨v', a, b⟩ := h6 i v hv; exact ⟨v', a, b.mono hm⟩, h7, h8⟩

theorem below_wrote {w w' : World} {b x n : Nat} (h : Below w0.heap.size w0 w) (hw : Wrote b x n w w') (hb : w0.heap.size ≤ b) : Below w0.heap.size w0 w' :=
  h.trans ⟨hw.os, hw.tape, hw.output, by rw [hw.size]; exact Nat.le_refl _, fun k hk => hw.other k (by omega)⟩

/-- A cell of a row is written; the other rows that have it are gone. -/
theorem HR.wroteCell {m : Ren} {g : Hp} {w w' : World} (h : HR T w0 m g w) {r : Nat} {cs : List Value} {e : TypeId} {f st : Nat} (hr : g r = some (.row cs e f st)) {b o l : Nat} (hm : m r = some (b, o, l))
    {off : Nat} (hoff : off < cs.length) {v v' : Value} (hv : VRel T m v v') (hw : Wrote b (o + off) 1 w w') (hcell : ∃ c E fz, w'.heap[b]? = some (.cells c E fz) ∧ c[o + off]? = some v')
    (hex : ∀ r' cs' e' st', r' ≠ r → f ≠ 0 → g r' = some (.row cs' e' f st') → st' + cs'.length ≤ st + off ∨ st + off < st') :
    HR T w0 m (upd g r (.row (cs.set off v) e f st)) w' := by
  have hrow := h.rows r cs e f st hr
  obtain ⟨b1, o1, l1, c, E, lo, hi, h1, h2, h3, h4, h5, h6, h7, h8⟩ := hrow
  rw [hm] at h1
  cases h1
  obtain ⟨c0, c', E0, fz, k1, k2, k3, k4⟩ := hw.same
  rw [h2] at k1
  cases k1
  have hcv : c'[o + off]? = some v' := by
    obtain ⟨c2, E2, fz2, q1, q2⟩ := hcell
    rw [k2] at q1
    cases q1
    exact q2
  have hne : ∀ {r'}, r' ≠ r → upd g r (.row (cs.set off v) e f st) r' = g r' := fun hn => upd_other _ _ hn
  refine ⟨below_wrote h.bel hw h5, ?_, ?_, ?_, ?_, ?_, ?_, ?_⟩
  · intro r' cs' e' f' st' hr'
    by_cases hrr : r' = r
    · subst hrr
      rw [upd_same] at hr'
      cases hr'
      refine ⟨b, o, l, c', E, lo, hi, hm, k2, by simpa using h3, by omega, h5, fun i u hu => ?_, h7, fun h0 => by have := h8 h0; rw [k3]; simpa using this⟩
      by_cases hio : i = off
      · subst hio
        rw [List.getElem?_set_self (by omega)] at hu
        cases hu
        exact ⟨v', hcv, hv⟩
      · rw [List.getElem?_set_ne (by omega)] at hu
        obtain ⟨u', a, bb⟩ := h6 i u hu
        exact ⟨u', by rw [k4 (o + i) (by omega)]; exact a, bb⟩
    · rw [hne hrr] at hr'
      refine (h.rows r' cs' e' f' st' hr').wrote hw fun o' l' hm' => ?_
      obtain ⟨q1, q2, q3⟩ := h.sep r' r _ _ _ _ _ _ _ _ _ _ _ _ _ hrr hr' hr hm' hm
      subst q1
      rcases hex r' cs' e' st' hrr q2 hr' with hx | hx <;> omega
  · intro r' ob hr'
    have hrr : r' ≠ r := by intro e; subst e; rw [upd_same] at hr'; cases hr'
    rw [hne hrr] at hr'
    obtain ⟨b2, o2, x2, y2, g1, g2, g3, g4⟩ := h.objs r' ob hr'
    refine ⟨b2, o2, x2, y2, g1, ?_, g3, g4⟩
    rw [hw.other b2 (by intro e; subst e; rw [h2] at g2; cases g2; exact g3.notCells.1 _ _ _ rfl)]
    exact g2
  · have key : ∀ {r'} {cs' : List Value} {e' f' st'}, upd g r (.row (cs.set off v) e f st) r' = some (.row cs' e' f' st') → ∃ cs'', g r' = some (.row cs'' e' f' st') := by
      intro r' cs' e' f' st' hr'
      by_cases hrr : r' = r
      · subst hrr; rw [upd_same] at hr'; cases hr'; exact ⟨cs, hr⟩
      · rw [hne hrr] at hr'; exact ⟨cs', hr'⟩
    intro r1 r2 cs1 e1 f1 st1 cs2 e2 f2 st2 bb o1 l1 o2 l2 hne' hr1 hr2 hm1 hm2
    obtain ⟨_, hr1⟩ := key hr1
    obtain ⟨_, hr2⟩ := key hr2
    exact h.sep r1 r2 _ _ _ _ _ _ _ _ _ _ _ _ _ hne' hr1 hr2 hm1 hm2
  · intro r1 r2 ob1 ob2 bb x1 y1 x2 y2 hne' hr1 hr2 hm1 hm2
    have hrr1 : r1 ≠ r := by intro e; subst e; rw [upd_same] at hr1; cases hr1
    have hrr2 : r2 ≠ r := by intro e; subst e; rw [upd_same] at hr2; cases hr2
    rw [hne hrr1] at hr1
    rw [hne hrr2] at hr2
    exact h.osep r1 r2 _ _ _ _ _ _ _ hne' hr1 hr2 hm1 hm2
  · intro r' cs' e' f' st' hr' hf'
    have hfr : f' ≠ r := by
      intro e0; subst e0
      by_cases hrr : r' = f'
      · subst hrr
        rw [upd_same] at hr'
        cases hr'
        obtain ⟨l, hl, _⟩ := h.fams _ _ _ _ _ hr hf'
        rw [hr] at hl; cases hl
      · rw [hne hrr] at hr'
        obtain ⟨l, hl, _⟩ := h.fams _ _ _ _ _ hr' hf'
        rw [hr] at hl; cases hl
    rw [hne hfr]
    by_cases hrr : r' = r
    · subst hrr
      rw [upd_same] at hr'
      cases hr'
      obtain ⟨l, hl, hmem⟩ := h.fams _ _ _ _ _ hr hf'
      exact ⟨l, hl, by simpa using hmem⟩
    · rw [hne hrr] at hr'
      exact h.fams _ _ _ _ _ hr' hf'
  · intro r' x hx
    by_cases hrr : r' = r
    · subst hrr; rw [upd_same]; exact fun e => by cases e
    · rw [hne hrr]; exact h.dom r' x hx
  · intro r' b' o' l' hx
    rw [hw.size]
    exact h.inw _ _ _ _ hx

/-- A row grows in its block: a new row over the old one's beginning and what was written behind it. -/
theorem HR.grew {m : Ren} {g g' : Hp} {w w' : World} (h : HR T w0 m g w) {r k : Nat} {cs new : List Value} {e : TypeId} {f st : Nat} (hr : g r = some (.row cs e f st)) {b o l : Nat} (hm : m r = some (b, o, l))
    (hk : g k = none) (hf : f ≠ 0) {off n : Nat} (hlen : off + n ≤ cs.length) (hroom : o + off + n + new.length ≤ l) (hw : Wrote b (o + off + n) new.length w w')
    (hcells : ∃ c E fz, w'.heap[b]? = some (.cells c E fz) ∧ ∀ (i : Nat) v, new[i]? = some v → ∃ v', c[o + off + n + i]? = some v' ∧ VRel T m v v')
    (hex : ∀ r' cs' e' st', g r' = some (.row cs' e' f st') → (g' r' = some (.row cs' e' f st')) → st' + cs'.length ≤ st + off + n)
    (hg : g' k = some (.row ((cs.drop off).take n ++ new) e f (st + off)))
    (hg1 : ∀ r, r ≠ k → (∀ cs e f st, g' r = some (.row cs e f st) → g r = some (.row cs e f st)) ∧ (∀ o, g' r = some (.obj o) → g r = some (.obj o)) ∧ (g r ≠ none → g' r ≠ none))
    (hfam : ∀ r cs e f st, g' r = some (.row cs e f st) → f ≠ 0 → ∃ l, g' f = some (.fam l) ∧ (r, st, st + cs.length) ∈ l) :
    HR T w0 (m.put k (b, o + off, l)) g' w' := by
  have hmk : m k = none := by
    cases hx : m k with
    | none => rfl
    | some x => exact absurd hk (h.dom k x hx)
  have hle := Ren.le_put (m := m) (b, o + off, l) hmk
  have hrow := h.rows r cs e f st hr
  obtain ⟨b1, o1, l1, c, E, lo, hi, h1, h2, h3, h4, h5, h6, h7, h8⟩ := hrow
  rw [hm] at h1
  cases h1
  obtain ⟨c0, c', E0, fz, k1, k2, k3, k4⟩ := hw.same
  rw [h2] at k1
  cases k1
  have hnew : ∀ (i : Nat) v, new[i]? = some v → ∃ v', c'[o + off + n + i]? = some v' ∧ VRel T m v v' := by
    obtain ⟨c2, E2, fz2, q1, q2⟩ := hcells
    rw [k2] at q1
    cases q1
    exact q2
  have hold : ∀ r', r' ≠ k → ∀ cs' e' f' st', g' r' = some (.row cs' e' f' st') → ∀ o' l', m r' = some (b, o', l') → f' = f ∧ o' + st = o + st' ∧ st' + cs'.length ≤ st + off + n := by
    intro r' hrk cs' e' f' st' hr' o' l' hm'
    have hr0 := (hg1 r' hrk).1 _ _ _ _ hr'
    by_cases hrr : r' = r
    · subst hrr
      rw [hr] at hr0
      cases hr0
      rw [hm] at hm'
      cases hm'
      exact ⟨rfl, rfl, hex _ _ _ _ hr hr'⟩
    · obtain ⟨q1, q2, q3⟩ := h.sep r' r _ _ _ _ _ _ _ _ _ _ _ _ _ hrr hr0 hr hm' hm
      subst q1
      exact ⟨rfl, q3, hex _ _ _ _ hr0 hr'⟩
  refine ⟨below_wrote h.bel hw h5, ?_, ?_, ?_, ?_, hfam, ?_, ?_⟩
  · intro r' cs' e' f' st' hr'
    by_cases hrk : r' = k
    · subst hrk
      rw [hg] at hr'
      cases hr'
      have hl1 : ((cs.drop off).take n).length = n := by simp; omega
      refine ⟨b, o + off, l, c', E, lo, hi, put_same _ _ _, k2, by simp only [List.length_append, hl1]; omega, by omega, h5, fun i v hv => ?_, fun j hj => h7 j (by omega), fun h0 => absurd h0 hf⟩
      rw [List.getElem?_append] at hv
      split at hv
      · rename_i hin
        rw [hl1] at hin
        rw [List.getElem?_take, if_pos hin, List.getElem?_drop] at hv
        obtain ⟨v', a, bb⟩ := h6 _ v hv
        exact ⟨v', by rw [k4 (o + off + i) (by omega), Nat.add_assoc]; exact a, bb.mono hle⟩
      · rename_i hin
        rw [hl1] at hin hv
        obtain ⟨v', a, bb⟩ := hnew _ v hv
        exact ⟨v', by rw [← a]; congr 1; omega, bb.mono hle⟩
    · have hr0 := (hg1 r' hrk).1 _ _ _ _ hr'
      refine ((h.rows r' cs' e' f' st' hr0).wrote hw fun o' l' hm' => ?_).mono hle
      have := hold r' hrk _ _ _ _ hr' o' l' hm'
      omega
  · intro r' ob hr'
    have hrk : r' ≠ k := by intro e; subst e; rw [hg] at hr'; cases hr'
    have hr0 := (hg1 r' hrk).2.1 _ hr'
    obtain ⟨b2, o2, x2, y2, g1, g2, g3, g4⟩ := h.objs r' ob hr0
    refine ⟨b2, o2, x2, y2, hle _ _ g1, ?_, g3.mono hle, g4⟩
    rw [hw.other b2 (by intro e; subst e; rw [h2] at g2; cases g2; exact g3.notCells.1 _ _ _ rfl)]
    exact g2
  · intro r1 r2 cs1 e1 f1 st1 cs2 e2 f2 st2 bb o1 l1 o2 l2 hne' hr1 hr2 hm1 hm2
    by_cases hrk1 : r1 = k
    · subst hrk1
      have hrk2 : r2 ≠ r1 := Ne.symm hne'
      rw [put_same] at hm1
      rw [put_other _ _ hrk2] at hm2
      cases hm1
      rw [hg] at hr1
      cases hr1
      have := hold r2 hrk2 _ _ _ _ hr2 _ _ hm2
      refine ⟨this.1.symm, hf, by omega⟩
    · by_cases hrk2 : r2 = k
      · subst hrk2
        rw [put_same] at hm2
        rw [put_other _ _ hrk1] at hm1
        cases hm2
        rw [hg] at hr2
        cases hr2
        have := hold r1 hrk1 _ _ _ _ hr1 _ _ hm1
        refine ⟨this.1, by rw [this.1]; exact hf, by omega⟩
      · rw [put_other _ _ hrk1] at hm1
        rw [put_other _ _ hrk2] at hm2
        exact h.sep r1 r2 _ _ _ _ _ _ _ _ _ _ _ _ _ hne' ((hg1 r1 hrk1).1 _ _ _ _ hr1) ((hg1 r2 hrk2).1 _ _ _ _ hr2) hm1 hm2
  · intro r1 r2 ob1 ob2 bb x1 y1 x2 y2 hne' hr1 hr2 hm1 hm2
    have hrk1 : r1 ≠ k := by intro e; subst e; rw [hg] at hr1; cases hr1
    have hrk2 : r2 ≠ k := by intro e; subst e; rw [hg] at hr2; cases hr2
    rw [put_other _ _ hrk1] at hm1
    rw [put_other _ _ hrk2] at hm2
    exact h.osep r1 r2 _ _ _ _ _ _ _ hne' ((hg1 r1 hrk1).2.1 _ hr1) ((hg1 r2 hrk2).2.1 _ hr2) hm1 hm2
  · intro r' x hx
    by_cases hrk : r' = k
    · subst hrk; rw [hg]; exact fun e => by cases e
    · rw [put_other _ _ hrk] at hx
      exact (hg1 r' hrk).2.2 (h.dom r' x hx)
  · intro r' b' o' l' hx
    rw [hw.size]
    by_cases hrk : r' = k
    · subst hrk; rw [put_same] at hx; cases hx; exact h.inw _ _ _ _ hm
    · rw [put_other _ _ hrk] at hx
      exact h.inw _ _ _ _ hx

/-! ### Cells in the world -/
theorem HR.cell {m : Ren} {g : Hp} {w : World} (h : HR T w0 m g w) {r : Nat} {cs : List Value} {e : TypeId} {f st : Nat} (hr : g r = some (.row cs e f st)) {b o l : Nat} (hm : m r = some (b, o, l)) {off : Nat} {v : Value}
    (hv : cs[off]? = some v) : ∃ v', w.cell? ⟨b, o + off, none⟩ = some v' ∧ VRel T m v v' := by
  obtain ⟨b1, o1, l1, c, E, lo, hi, h1, h2, h3, h4, h5, h6, h7, h8⟩ := h.rows r cs e f st hr
  rw [hm] at h1
  cases h1
  obtain ⟨v', a, bb⟩ := h6 off v hv
  exact ⟨v', by simp [World.cell?, h2, a], bb⟩

theorem HR.unfrozen {m : Ren} {g : Hp} {w : World} (h : HR T w0 m g w) {r : Nat} {cs : List Value} {e : TypeId} {f st : Nat} (hr : g r = some (.row cs e f st)) {b o l : Nat} (hm : m r = some (b, o, l)) {x : Nat}
    (hx : o ≤ x) (hl : x < l) : w.frozen? ⟨b, x, none⟩ = false := by
  obtain ⟨b1, o1, l1, c, E, lo, hi, h1, h2, h3, h4, h5, h6, h7, h8⟩ := h.rows r cs e f st hr
  rw [hm] at h1
  cases h1
  have := h7 x hx hl
  simp only [World.frozen?, h2]
  simp
  omega

theorem wrote_setCell {w : World} {b x : Nat} {v : Value} {u : Value} (h : w.cell? ⟨b, x, none⟩ = some u) :
    Wrote b x 1 w (w.setCell ⟨b, x, none⟩ v) ∧ ∃ c E fz, (w.setCell ⟨b, x, none⟩ v).heap[b]? = some (.cells c E fz) ∧ c[x]? = some v := by
  unfold World.cell? at h
  cases hb : w.heap[b]? with
  | none => simp [hb] at h
  | some ob =>
    cases ob with
    | cells c E fz =>
      simp [hb] at h
      obtain ⟨hx, _⟩ := Array.getElem?_eq_some_iff.1 h
      have e1 : (w.setCell ⟨b, x, none⟩ v).heap[b]? = some (.cells (c.setIfInBounds x v) E fz) := by simp [World.setCell, Array.getElem?_modify, hb]
      refine ⟨⟨rfl, rfl, rfl, by simp [World.setCell], fun j hj => ?_, c, c.setIfInBounds x v, E, fz, hb, e1, by simp, fun j hj => ?_⟩, c.setIfInBounds x v, E, fz, e1, ?_⟩
      · simp only [World.setCell, Array.getElem?_modify]
        rw [if_neg (Ne.symm hj)]
      · rw [Array.getElem?_setIfInBounds, if_neg (by omega)]
      · rw [Array.getElem?_setIfInBounds, if_pos rfl, if_pos hx]
    | _ => simp [hb] at h

end
end Vx
end
