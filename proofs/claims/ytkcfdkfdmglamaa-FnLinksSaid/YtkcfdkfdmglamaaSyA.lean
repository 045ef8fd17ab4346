/- A symbolic executor of the model's code, run by the kernel: values, one operation, code. -/
import Derived.Tactics
import Derived.Orders
import Derived.RowKit
import Derived.KernelRfl
set_option linter.unusedVariables false
set_option linter.unusedSimpArgs false
namespace Go.Sx
open Go.RowKit (wrap64)

/-! ### a choice that the kernel opens ahead of an 'if' (its height is told by what stands beside it) -/
def hgt : Nat → Nat
  | 0 => 0
  | n + 1 => hgt n
def hgt1 : Unit := (fun (_ : Nat) => ()) (hgt 0)
def hgt2 : Unit := (fun (_ : Unit) => ()) hgt1
def hgt3 : Unit := (fun (_ : Unit) => ()) hgt2
def hgt4 : Unit := (fun (_ : Unit) => ()) hgt3
def hgt5 : Unit := (fun (_ : Unit) => ()) hgt4
def hgt6 : Unit := (fun (_ : Unit) => ()) hgt5
def hgt7 : Unit := (fun (_ : Unit) => ()) hgt6
def hgt8 : Unit := (fun (_ : Unit) => ()) hgt7
def hgt9 : Unit := (fun (_ : Unit) => ()) hgt8
def hgt10 : Unit := (fun (_ : Unit) => ()) hgt9
def hgt11 : Unit := (fun (_ : Unit) => ()) hgt10
def hgt12 : Unit := (fun (_ : Unit) => ()) hgt11
def hgt13 : Unit := (fun (_ : Unit) => ()) hgt12
def hgt14 : Unit := (fun (_ : Unit) => ()) hgt13
def hgt15 : Unit := (fun (_ : Unit) => ()) hgt14
def hgt16 : Unit := (fun (_ : Unit) => ()) hgt15
def hgt17 : Unit := (fun (_ : Unit) => ()) hgt16
def hgt18 : Unit := (fun (_ : Unit) => ()) hgt17
def hgt19 : Unit := (fun (_ : Unit) => ()) hgt18
def hgt20 : Unit := (fun (_ : Unit) => ()) hgt19
def hgt21 : Unit := (fun (_ : Unit) => ()) hgt20
def hgt22 : Unit := (fun (_ : Unit) => ()) hgt21
def hgt23 : Unit := (fun (_ : Unit) => ()) hgt22
def hgt24 : Unit := (fun (_ : Unit) => ()) hgt23
def hgt25 : Unit := (fun (_ : Unit) => ()) hgt24
def hgt26 : Unit := (fun (_ : Unit) => ()) hgt25
def hgt27 : Unit := (fun (_ : Unit) => ()) hgt26
def hgt28 : Unit := (fun (_ : Unit) => ()) hgt27
def hgt29 : Unit := (fun (_ : Unit) => ()) hgt28
def hgt30 : Unit := (fun (_ : Unit) => ()) hgt29
def hgt31 : Unit := (fun (_ : Unit) => ()) hgt30
def hgt32 : Unit := (fun (_ : Unit) => ()) hgt31
def hgt33 : Unit := (fun (_ : Unit) => ()) hgt32
def hgt34 : Unit := (fun (_ : Unit) => ()) hgt33
def hgt35 : Unit := (fun (_ : Unit) => ()) hgt34
def hgt36 : Unit := (fun (_ : Unit) => ()) hgt35
def hgt37 : Unit := (fun (_ : Unit) => ()) hgt36
def hgt38 : Unit := (fun (_ : Unit) => ()) hgt37
def hgt39 : Unit := (fun (_ : Unit) => ()) hgt38
def hgt40 : Unit := (fun (_ : Unit) => ()) hgt39
def cnd {α : Sort _} (b : Bool) (x y : α) : α := (fun (_ : Unit) => match b with
  | true => x
  | false => y) hgt3
/-- A number that may be missing. -/
def oD (o : Option Int) (d : Int) : Int := (fun (_ : Unit) => match o with
  | some x => x
  | none => d) hgt40
theorem oD_eq (o : Option Int) (d : Int) : oD o d = o.getD d := by cases o <;> rfl
@[simp] theorem cnd_true {α : Sort _} (x y : α) : cnd true x y = x := rfl
@[simp] theorem cnd_false {α : Sort _} (x y : α) : cnd false x y = y := rfl

/-! ### kinds and types of elements -/
def keq : IntKind → IntKind → Bool
  | .i8, .i8 => true
  | .i16, .i16 => true
  | .i32, .i32 => true
  | .i64, .i64 => true
  | .u8, .u8 => true
  | .u16, .u16 => true
  | .u32, .u32 => true
  | .u64, .u64 => true
  | _, _ => false
theorem keq_eq {a b : IntKind} (h : keq a b = true) : a = b := by cases a <;> cases b <;> first | rfl | simp [keq] at h

inductive Ty where
  | int (k : IntKind)
  | bool
  | str
  | pair (a b : Ty)
def Ty.T : Ty → Type
  | .int _ => Int
  | .bool => Bool
  | .str => ByteArray
  | .pair a b => a.T × b.T
def Ty.size : Ty → Nat
  | .pair a b => a.size + b.size
  | _ => 1
def Ty.zero : (t : Ty) → t.T
  | .int _ => (0 : Int)
  | .bool => false
  | .str => ByteArray.empty
  | .pair a b => (a.zero, b.zero)
def Ty.cells : (t : Ty) → t.T → List Value
  | .int k, (n : Int) => [.int k n]
  | .bool, (b : Bool) => [.bool b]
  | .str, (s : ByteArray) => [.string s]
  | .pair a b, (p : a.T × b.T) => a.cells p.1 ++ b.cells p.2
def Ty.dec : (a b : Ty) → Option (PLift (a = b))
  | .int k, .int k' => match h : keq k k' with
    | true => some ⟨by rw [keq_eq h]⟩
    | false => none
  | .bool, .bool => some ⟨rfl⟩
  | .str, .str => some ⟨rfl⟩
  | .pair a b, .pair c d => match a.dec c, b.dec d with
    | some ⟨h⟩, some ⟨g⟩ => some ⟨by rw [h, g]⟩
    | _, _ => none
  | _, _ => none
def Ty.get (t : Ty) (l : List t.T) (i : Int) : t.T := l.getD i.toNat t.zero

/-! ### conditions -/
inductive SB where
  | lit (b : Bool)
  | lt (a b : Int)
  | le (a b : Int)
  | eq (a b : Int)
  | not (s : SB)
  | and (s t : SB)
  | v (b : Bool)
  | se (a b : ByteArray)
def SB.b : SB → Bool
  | .lit b => b
  | .lt a b => decide (a < b)
  | .le a b => decide (a ≤ b)
  | .eq a b => decide (a = b)
  | .not s => !s.b
  | .and s t => s.b && t.b
  | .v b => b
  | .se a b => decide (a = b)
def SB.cond {α : Type} : SB → α → α → α
  | .lit true, x, _ => x
  | .lit false, _, y => y
  | .lt a b, x, y => if a < b then x else y
  | .le a b, x, y => if a ≤ b then x else y
  | .eq a b, x, y => if a = b then x else y
  | .not s, x, y => s.cond y x
  | .and s t, x, y => s.cond (t.cond x y) y
  | .v b, x, y => if b = true then x else y
  | .se a b, x, y => if a = b then x else y
def chks {R : Type} : List SB → Option R → Option R
  | [], x => x
  | s :: r, x => s.cond (chks r x) none

/-! ### symbolic values -/
inductive SC where
  | any
  | bool (b : SB)
  | int (k : IntKind) (n : Int)
  | str (s : ByteArray)
  | ptr (n off : Nat)
  | nilp
  | sl (n : Nat)
  | nils
  | ep (n sz : Nat) (i : Int) (off : Nat)
inductive SV where
  | any
  | a (g : Bool) (cs : List SC)
  | tup (xs : List (Bool × List SC))
inductive Ent where
  | free
  | dead
  | box (cs : List SC) (t : TypeId)
  | row (ty : Ty) (l : List ty.T) (e : TypeId)
  | ro (ty : Ty) (l : List ty.T) (e : TypeId)
  | ex (ty : Ty) (l : List ty.T) (e : TypeId)
def Ty.sc : (t : Ty) → t.T → List SC
  | .int k, (n : Int) => [.int k n]
  | .bool, (b : Bool) => [.bool (.v b)]
  | .str, (s : ByteArray) => [.str s]
  | .pair a b, (p : a.T × b.T) => a.sc p.1 ++ b.sc p.2
def Ty.of : (t : Ty) → List SC → Option (t.T × List SC)
  | .int k, .int k' n :: r => cnd (keq k k') (some ((n : Int), r)) none
  | .bool, .bool s :: r => some (s.b, r)
  | .str, .str s :: r => some (s, r)
  | .pair a b, r => match a.of r with
    | some (x, r1) => match b.of r1 with
      | some (y, r2) => some ((x, y), r2)
      | none => none
    | none => none
  | _, _ => none
def SC.ofV : Value → Option SC
  | .bool b => some (.bool (.lit b))
  | .int k n => some (.int k n)
  | .string s => some (.str s)
  | .pointer none => some .nilp
  | .slice none 0 0 => some .nils
  | _ => none
def SC.ofVs : List Value → Option (List SC)
  | [] => some []
  | v :: r => match SC.ofV v, SC.ofVs r with
    | some x, some y => some (x :: y)
    | _, _ => none
def SV.ofV : Value → SV
  | .agg cs => match SC.ofVs cs.toList with
    | some xs => .a true xs
    | none => .any
  | .tuple vs => match vs.toList with
    | [] => .tup []
    | _ => .any
  | v => match SC.ofV v with
    | some x => .a false [x]
    | none => .any
def ev (tm : Nat → SV) : Operand → SV
  | .tmp t => tm t
  | .const v => SV.ofV v
  | _ => .any
def upd {α : Type} (f : Nat → α) (n : Nat) (x : α) : Nat → α := fun k => cnd (Nat.beq k n) x (f k)

/-! ### what is asked of the program's types -/
def szOf (P : Program) (t : TypeId) : Option Nat := (P.info? t).map (·.size)
def isAg (P : Program) (t : TypeId) : Option Bool :=
  match P.underlying t with
  | some (.struct _) => some true
  | some (.array _ _) => some true
  | some _ => some false
  | none => none
def tyFields (f : TypeId → Option Ty) : List Field → Option Ty
  | [] => none
  | [x] => f x.type
  | x :: y :: r => match f x.type, tyFields f (y :: r) with
    | some a, some b => some (.pair a b)
    | _, _ => none
def tyOf (P : Program) : Nat → TypeId → Option Ty
  | 0, _ => none
  | d + 1, t => match P.underlying t with
    | some (.int k) => some (.int k)
    | some .bool => some .bool
    | some .string => some .str
    | some (.struct fs) => tyFields (tyOf P d) fs.toList
    | _ => none
/-- A type of elements, its size the program's. -/
def elTy (P : Program) (e : TypeId) : Option Ty :=
  match tyOf P 6 e, szOf P e with
  | some ty, some n => cnd (Nat.beq ty.size n) (some ty) none
  | _, _ => none
def zeroC (P : Program) (t : TypeId) : Option (Bool × List SC) :=
  match P.info? t with
  | some i => match i.zero with
    | some v => match SV.ofV v with
      | .a g cs => some (g, cs)
      | _ => none
    | none => none
  | none => none
def sliceOf (P : Program) (t : TypeId) : Option TypeId :=
  match P.underlying t with
  | some (.slice e) => some e
  | _ => none
def fieldOf (P : Program) (t : TypeId) (f : Nat) : Option (Nat × TypeId) :=
  match P.underlying t with
  | some (.struct fs) => match fs.toList[f]? with
    | some x => some (x.offset, x.type)
    | none => none
  | _ => none

/-! ### numbers -/
def wr : IntKind → Int → Int
  | .i64, n => wrap64 n
  | .u8, n => n % 256
  | .u16, n => n % 65536
  | .u32, n => n % 4294967296
  | .u64, n => n % 18446744073709551616
  | k, n => k.wrap n
def byl (s : ByteArray) : List Int := s.data.toList.map fun b => (b.toNat : Int)
def mn (x y : Int) : Int := if y < x then y else x
def mx (x y : Int) : Int := if y > x then y else x
def iand (k : IntKind) (a b : Int) : Int := k.wrap (BitVec.ofInt k.bits a &&& BitVec.ofInt k.bits b).toNat
def ior (k : IntKind) (a b : Int) : Int := k.wrap (BitVec.ofInt k.bits a ||| BitVec.ofInt k.bits b).toNat
def ixor (k : IntKind) (a b : Int) : Int := k.wrap (BitVec.ofInt k.bits a ^^^ BitVec.ofInt k.bits b).toNat
def iandn (k : IntKind) (a b : Int) : Int := k.wrap (BitVec.ofInt k.bits a &&& ~~~ BitVec.ofInt k.bits b).toNat
def bstr (l : List Int) : ByteArray := ⟨(l.map fun n => UInt8.ofNat n.toNat).toArray⟩
def byt (s : ByteArray) (i : Int) : Int := if h : i.toNat < s.size then ((s[i.toNat]'h).toNat : Int) else 0

/-! ### one operation that calls nobody -/
abbrev Res := Option (List SB × SV × (Nat → Ent))
def one (x : SC) : SV := .a false [x]
/-- A fresh entry. -/
def mk (hp : Nat → Ent) (nm : Nat) (v : SV) (e : Ent) : Res :=
  match hp nm with
  | .free => some ([], v, upd hp nm e)
  | _ => none
def memN (n : Nat) (l : List Nat) : Bool := l.any (Nat.beq n)
/-- The names that a region that draws its order writes: who reads keeps off them, who writes keeps to them. -/
abbrev Av := Option (List Nat)
def rdOk (av : Av) (n : Nat) : Bool := match av with
  | none => true
  | some S => !(memN n S)
def wrOk (av : Av) (n : Nat) : Bool := match av with
  | none => true
  | some S => memN n S
def spliceS (cs : List SC) (off : Nat) (vs : List SC) : List SC := cs.take off ++ vs ++ cs.drop (off + vs.length)
def cellAt (P : Program) (t : TypeId) (cs : List SC) (off : Nat) : Option SV :=
  match isAg P t, szOf P t with
  | some true, some n => cnd (Nat.ble (off + n) cs.length) (some (.a true ((cs.drop off).take n))) none
  | some false, _ => match cs[off]? with
    | some x => some (one x)
    | none => none
  | _, _ => none
def loadA (P : Program) (av : Av) (t : TypeId) (hp : Nat → Ent) : SV → Res
  | .a false [.ptr n off] => match hp n with
    | .box cs tt => cnd (rdOk av n) (match cellAt P t cs off with
      | some v => some ([], v, hp)
      | none => none) none
    | _ => none
  | .a false [.ep n sz i off] => match hp n with
    | .row ty l e => cnd (rdOk av n && Nat.beq sz ty.size) (match cellAt P t (ty.sc (ty.get l i)) off with
      | some v => some ([], v, hp)
      | none => none) none
    | .ro ty l e => cnd (Nat.beq sz ty.size) (match cellAt P t (ty.sc (ty.get l i)) off with
      | some v => some ([], v, hp)
      | none => none) none
    | .ex ty l e => cnd (rdOk av n && Nat.beq sz ty.size) (match cellAt P t (ty.sc (ty.get l i)) off with
      | some v => some ([], v, hp)
      | none => none) none
    | _ => none
  | _ => none
def storeA (P : Program) (av : Av) (t : TypeId) (hp : Nat → Ent) : SV → SV → Res
  | .a false [.ptr n off], .a _ vs => match hp n, szOf P t with
    | .box cs tt, some m => cnd (wrOk av n && (Nat.beq vs.length m && Nat.ble (off + m) cs.length)) (some ([], .tup [], upd hp n (.box (spliceS cs off vs) tt))) none
    | _, _ => none
  | .a false [.ep n sz i off], .a _ vs => match hp n, szOf P t with
    | .row ty l e, some m => cnd (wrOk av n && Nat.beq sz ty.size && (Nat.beq vs.length m && Nat.ble (off + m) ty.size)) (match ty.of (spliceS (ty.sc (ty.get l i)) off vs) with
      | some (x, []) => some ([], .tup [], upd hp n (.row ty (l.set i.toNat x) e))
      | _ => none) none
    | .ex ty l e, some m => match ty, l, vs with
      | .int .u8, l, [.int .u8 x] => cnd (wrOk av n && (Nat.beq sz 1 && (Nat.beq m 1 && Nat.beq off 0))) (some ([], .tup [], upd hp n (.ex (.int .u8) (List.set l i.toNat (x : Int)) e))) none
      | _, _, _ => none
    | _, _ => none
  | _, _ => none
def placesOf (P : Program) (t : TypeId) : Option (List (Nat × Nat)) :=
  match P.underlying t with
  | some (.struct fs) => fs.toList.mapM (fun f => (P.info? f.type).map fun i => (f.offset, i.size))
  | _ => none
def fillS (pl : List (Nat × Nat)) (z : List SC) : List (Nat × SV) → Option (List SC)
  | [] => some z
  | (i, .a _ vs) :: r => match pl[i]? with
    | some (off, m) => cnd (Nat.beq vs.length m && Nat.ble (off + vs.length) z.length) (fillS pl (spliceS z off vs) r) none
    | none => none
  | _ => none
/-- The cells of a type's zero. -/
def zEq : Ty → List SC → Option (List SC)
  | .int k, .int k' n :: r => cnd (keq k k' && decide (n = 0)) (some r) none
  | .bool, .bool (.lit false) :: r => some r
  | .str, .str s :: r => cnd (Nat.beq s.size 0) (some r) none
  | .pair a b, r => match zEq a r with
    | some r1 => zEq b r1
    | none => none
  | _, _ => none
def rowS (ty : Ty) : Nat → List (Nat × SV) → Option (List ty.T)
  | _, [] => some []
  | i, (j, .a _ vs) :: r => cnd (Nat.beq i j) (match ty.of vs with
    | some (x, []) => match rowS ty (i + 1) r with
      | some xs => some (x :: xs)
      | none => none
    | _ => none) none
  | _, _ => none
def eqCell : SC → SC → Option SB
  | .int k a, .int k' b => cnd (keq k k') (some (.eq a b)) none
  | .bool s, .bool t => some (.v (s.b == t.b))
  | .str a, .str b => some (.se a b)
  | _, _ => none
/-- Whether two structs are the same, field by field. -/
def eqFs (f : TypeId → List SC → List SC → Option SB) (P : Program) (xs ys : List SC) : List Field → Option SB
  | [] => none
  | [x] => match szOf P x.type with
    | some n => cnd (x.name == "_") none (cnd (Nat.ble (x.offset + n) xs.length && Nat.ble (x.offset + n) ys.length) (f x.type ((xs.drop x.offset).take n) ((ys.drop x.offset).take n)) none)
    | none => none
  | x :: y :: r => match szOf P x.type with
    | some n => cnd (x.name == "_") none (cnd (Nat.ble (x.offset + n) xs.length && Nat.ble (x.offset + n) ys.length) (match f x.type ((xs.drop x.offset).take n) ((ys.drop x.offset).take n), eqFs f P xs ys (y :: r) with
      | some s, some t => some (.and s t)
      | _, _ => none) none)
    | none => none
def eqS (P : Program) : Nat → TypeId → List SC → List SC → Option SB
  | 0, _, _, _ => none
  | d + 1, t, xs, ys => match P.underlying t with
    | some (.struct fs) => cnd (P.stoodInHeld t) none (eqFs (eqS P d) P xs ys fs.toList)
    | some (.int _) => match xs, ys with
      | [.int k a], [.int k' b] => eqCell (.int k a) (.int k' b)
      | _, _ => none
    | some .bool => match xs, ys with
      | [.bool a], [.bool b] => eqCell (.bool a) (.bool b)
      | _, _ => none
    | some .string => match xs, ys with
      | [.str a], [.str b] => eqCell (.str a) (.str b)
      | _, _ => none
    | _ => none
/-- '==' of two structs. -/
def eqA (P : Program) (t : TypeId) : SV → SV → Option SB
  | .a true xs, .a true ys => match P.underlying t with
    | some (.struct _) => cnd (P.eqGuardType P.depth t) none (eqS P 5 t xs ys)
    | _ => none
  | _, _ => none
def binA (P : Program) (op : BinOp) (t : TypeId) : SV → SV → Option (List SB × SC)
  | .a false [.int k a], .a false [.int k' b] => match op with
    | .shl => some ([.le 0 b], .int k (wr k (a * 2 ^ (min b.toNat k.bits))))
    | .shr => some ([.le 0 b], .int k (a.fdiv (2 ^ (min b.toNat k.bits))))
    | op => cnd (keq k k') (match op with
      | .add => some ([], .int k (wr k (a + b)))
      | .sub => some ([], .int k (wr k (a - b)))
      | .mul => some ([], .int k (wr k (a * b)))
      | .quo => some ([.not (.eq b 0)], .int k (wr k (a.tdiv b)))
      | .rem => some ([.not (.eq b 0)], .int k (a.tmod b))
      | .and => some ([], .int k (iand k a b))
      | .or => some ([], .int k (ior k a b))
      | .xor => some ([], .int k (ixor k a b))
      | .andNot => some ([], .int k (iandn k a b))
      | .eql => some ([], .bool (.eq a b))
      | .neq => some ([], .bool (.not (.eq a b)))
      | .lss => some ([], .bool (.lt a b))
      | .leq => some ([], .bool (.le a b))
      | .gtr => some ([], .bool (.lt b a))
      | .geq => some ([], .bool (.le b a))
      | _ => none) none
  | .a false [.str a], .a false [.str b] => match op with
    | .add => some ([.le ((a.size + b.size : Nat) : Int) 9223372036854775807], .str (a ++ b))
    | .eql => some ([], .bool (.se a b))
    | .neq => some ([], .bool (.not (.se a b)))
    | _ => none
  | .a false [.bool a], .a false [.bool b] => match P.underlying t, op with
    | some .bool, .eql => some ([], .bool (.v (a.b == b.b)))
    | some .bool, .neq => some ([], .bool (.not (.v (a.b == b.b))))
    | _, _ => none
  | _, _ => none
def unA : UnOp → SV → Option SC
  | .not, .a false [.bool s] => some (.bool (.not s))
  | .neg, .a false [.int k a] => some (.int k (wr k (0 - a)))
  | _, _ => none
/-- What a slice that is read tells: its type, its elements. -/
def readL (av : Av) (hp : Nat → Ent) (ty : Ty) : SC → Option (List ty.T)
  | .nils => some []
  | .sl n => match hp n with
    | .row t l e => cnd (rdOk av n) (match t.dec ty with
      | some ⟨h⟩ => some (h ▸ l)
      | none => none) none
    | .ro t l e => match t.dec ty with
      | some ⟨h⟩ => some (h ▸ l)
      | none => none
    | .ex t l e => cnd (rdOk av n) (match t.dec ty with
      | some ⟨h⟩ => some (h ▸ l)
      | none => none) none
    | _ => none
  | _ => none
def lenA (P : Program) (av : Av) (hp : Nat → Ent) (t : TypeId) : SV → Option Int
  | .a false [.str s] => match P.underlying t with
    | some .string => some (s.size : Int)
    | _ => none
  | .a false [.nils] => match P.underlying t with
    | some (.slice _) => some 0
    | _ => none
  | .a false [.sl n] => match P.underlying t with
    | some (.slice _) => match hp n with
      | .row ty l e => cnd (rdOk av n) (some (l.length : Int)) none
      | .ro ty l e => some (l.length : Int)
      | .ex ty l e => cnd (rdOk av n) (some (l.length : Int)) none
      | _ => none
    | _ => none
  | _ => none
def intOpd : Option SV → Option (Option Int)
  | none => some none
  | some (.a false [.int _ n]) => some (some n)
  | _ => none
/-- xs[lo:hi]: what is asked. -/
def cutC (lo hi : Option Int) (len : Int) : List SB :=
  (match hi with
    | some h => [SB.le 0 h, SB.le h len]
    | none => []) ++ (match lo with
    | some l => [SB.le 0 l, SB.le l (oD hi len)]
    | none => [])
/-- xs[lo:hi]: of a string, of a slice that is read, of a slice of one's own. -/
def sliceA (P : Program) (av : Av) (t : TypeId) (nm : Nat) (hp : Nat → Ent) (x : SV) (lo hi : Option SV) : Res :=
  match intOpd lo, intOpd hi with
  | some lo, some hi => match x with
    | .a false [.str s] => match P.underlying t with
      | some .string => some (cutC lo hi (s.size : Int), one (.str (s.extract (oD lo 0).toNat (oD hi (s.size : Int)).toNat)), hp)
      | _ => none
    | .a false [.sl n] => match hp nm, sliceOf P t with
      | .free, some e' => match hp n with
        | .ro ty l e => match szOf P e' with
          | some m => cnd (Nat.beq m ty.size) (some (cutC lo hi (l.length : Int), one (.sl nm), upd hp nm (.ro ty ((l.take (oD hi (l.length : Int)).toNat).drop (oD lo 0).toNat) e))) none
          | none => none
        | .row ty l e => match lo, szOf P e' with
          | none, some m => cnd (wrOk av n && Nat.beq m ty.size) (some (cutC none hi (l.length : Int), one (.sl nm), upd (upd hp n .dead) nm (.row ty (l.take (oD hi (l.length : Int)).toNat) e))) none
          | some lo, some m => cnd (wrOk av n && Nat.beq m ty.size) (some (cutC (some lo) hi (l.length : Int), one (.sl nm), upd (upd hp n .dead) nm (.ex ty ((l.take (oD hi (l.length : Int)).toNat).drop lo.toNat) e))) none
          | _, _ => none
        | _ => none
      | _, _ => none
    | _ => none
  | _, _ => none
def notIn (x : SC) (n : Nat) : Bool := match x with
  | .sl q => !(Nat.beq q n)
  | _ => true
def appendA (P : Program) (av : Av) (t : TypeId) (nm : Nat) (hp : Nat → Ent) : SV → SV → Res
  | .a false [s], .a false [x] => match sliceOf P t with
    | some e => match elTy P e, (P.info? e).map (·.bytes), zeroC P e with
      | some ty, some by_, some (_, z) => match readL none hp ty x, hp nm with
        | some m, .free => cnd (Nat.beq z.length ty.size && Nat.blt 0 by_) (match s with
            | .nils => some ([.le ((m.length : Int) * by_) 140737488355328], one (.sl nm), upd hp nm (.row ty m e))
            | .sl n => match hp n with
              | .row t' l e' => match t'.dec ty with
                | some ⟨h⟩ => cnd (wrOk av n && (Nat.beq e' e && notIn x n)) (some ([.le (((h ▸ l : List ty.T).length + m.length : Nat) * by_) 140737488355328], one (.sl nm), upd (upd hp n .dead) nm (.row ty ((h ▸ l : List ty.T) ++ m) e))) none
                | none => none
              | _ => none
            | _ => none) none
        | _, _ => none
      | _, _, _ => none
    | none => none
  | _, _ => none
def foldI (f : Int → Int → Int) (k : IntKind) : Int → List SV → Option Int
  | a, [] => some a
  | a, .a false [.int k' b] :: r => cnd (keq k k') (foldI f k (f a b) r) none
  | _, _ => none
def builtinA (P : Program) (av : Av) (b : Builtin) (ts : List TypeId) (nm : Nat) (hp : Nat → Ent) (args : List SV) : Res :=
  match b, args with
  | .len, [x] => match ts with
    | [t] => match lenA P av hp t x with
      | some n => some ([], one (.int .i64 n), hp)
      | none => none
    | _ => none
  | .min, .a false [.int k a] :: r => match foldI mn k a r with
    | some n => some ([], one (.int k n), hp)
    | none => none
  | .max, .a false [.int k a] :: r => match foldI mx k a r with
    | some n => some ([], one (.int k n), hp)
    | none => none
  | .append, [s, x] => match ts with
    | [t, t'] => cnd (Nat.beq t t') (appendA P av t nm hp s x) none
    | _ => none
  | _, _ => none
def opA (P : Program) (av : Av) (op : Op) (e : Operand → SV) (nm : Nat) (hp : Nat → Ent) : Res :=
  match op with
  | .move x => some ([], e x, hp)
  | .assign x => some ([], e x, hp)
  | .alloc t => match zeroC P t with
    | some (_, cs) => mk hp nm (one (.ptr nm 0)) (.box cs t)
    | none => none
  | .box t x => match e x with
    | .a _ cs => mk hp nm (one (.ptr nm 0)) (.box cs t)
    | _ => none
  | .build t ps => match zeroC P t with
    | some (true, z) => match placesOf P t with
      | some pl => match fillS pl z (ps.toList.map fun p => (p.1, e p.2)) with
        | some cs => some ([], .a true cs, hp)
        | none => none
      | none => none
    | _ => none
  | .buildSlice t len ps => match sliceOf P t with
    | some el => match elTy P el with
      | some ty => match rowS ty 0 (ps.toList.map fun p => (p.1, e p.2)) with
        | some xs => match zeroC P el with
          | some _ => cnd (Nat.beq xs.length len && Nat.ble (len * ty.size) 16777216) (mk hp nm (one (.sl nm)) (.row ty xs el)) none
          | none => none
        | none => none
      | none => none
    | none => none
  | .load t x => loadA P av t hp (e x)
  | .store t x y => storeA P av t hp (e x) (e y)
  | .nilCheck x => match e x with
    | .a false [.ptr n o] => some ([], one (.ptr n o), hp)
    | _ => none
  | .binOp op t x y _ => match binA P op t (e x) (e y) with
    | some (c, v) => some (c, one v, hp)
    | none => match op, eqA P t (e x) (e y) with
      | .eql, some s => some ([], one (.bool s), hp)
      | .neq, some s => some ([], one (.bool (.not s)), hp)
      | _, _ => none
  | .unOp op _ x => match unA op (e x) with
    | some v => some ([], one v, hp)
    | none => none
  | .convert s d x => match P.underlying s, P.underlying d, e x with
    | some (.int _), some (.int k), .a false [.int _ n] => some ([], one (.int k (wr k n)), hp)
    | some (.slice e), some .string, .a false [x] => match P.underlying e with
      | some (.int .u8) => match readL av hp (.int .u8) x with
        | some l => some ([], one (.str (bstr l)), hp)
        | none => none
      | _ => none
    | some .string, some (.slice e), .a false [.str s] => match P.underlying e, hp nm with
      | some (.int .u8), .free => some ([.le (s.size : Int) 9223372036854775807], one (.sl nm), upd hp nm (.ex (.int .u8) (byl s : List Int) e))
      | _, _ => none
    | _, _, _ => none
  | .extract x i => match e x with
    | .tup xs => match xs[i]? with
      | some (g, cs) => some ([], .a g cs, hp)
      | none => none
    | _ => none
  | .field t x f => match e x, fieldOf P t f with
    | .a true cs, some (off, ft) => match cellAt P ft cs off with
      | some v => some ([], v, hp)
      | none => none
    | _, _ => none
  | .fieldAddr t x f => match fieldOf P t f with
    | some (off, ft) => match szOf P ft with
      | some (_ + 1) => match e x with
        | .a false [.ptr n o] => some ([], one (.ptr n (o + off)), hp)
        | .a false [.ep n sz i o] => some ([], one (.ep n sz i (o + off)), hp)
        | _ => none
      | _ => none
    | none => none
  | .index t x i => match P.underlying t, e x, e i with
    | some .string, .a false [.str s], .a false [.int _ n] => some ([.le 0 n, .lt n (s.size : Int)], one (.int .u8 (byt s n)), hp)
    | _, _, _ => none
  | .indexAddr t x i => match sliceOf P t, e x, e i with
    | some el, .a false [.sl n], .a false [.int _ j] => match szOf P el with
      | some m => match hp n with
        | .row ty l _ => cnd (rdOk av n && Nat.beq m ty.size) (some ([.le 0 j, .lt j (l.length : Int)], one (.ep n m j 0), hp)) none
        | .ro ty l _ => cnd (Nat.beq m ty.size) (some ([.le 0 j, .lt j (l.length : Int)], one (.ep n m j 0), hp)) none
        | .ex ty l _ => cnd (rdOk av n && Nat.beq m ty.size) (some ([.le 0 j, .lt j (l.length : Int)], one (.ep n m j 0), hp)) none
        | _ => none
      | none => none
    | _, _, _ => none
  | .slice t x lo hi none => sliceA P av t nm hp (e x) (lo.map e) (hi.map e)
  | .makeSlice t n c => match e n, e c with
    | .a false [.int _ a], .a false [.int _ b] => match sliceOf P t with
      | some el => match elTy P el, (P.info? el).map (·.bytes) with
        | some ty, some by_ => match hp nm with
          | .free => match zeroC P el with
            | some (_, z) => match zEq ty z with
              | some [] => cnd (Nat.blt 0 by_) (some ([.eq a b, .le 0 a, .le (a * by_) 140737488355328], one (.sl nm), upd hp nm (.row ty (List.replicate a.toNat ty.zero) el))) none
              | _ => none
            | none => none
          | _ => none
        | _, _ => none
      | none => none
    | _, _ => none
  | .call { callee := .builtin b, args := as, argTypes := ts } => builtinA P av b ts.toList nm hp (as.toList.map e)
  | _ => none

/-! ### contracts of callees -/
inductive CK where
  | int (k : IntKind)
  | bool
  | str
  | sl (t : Ty)
def CK.T : CK → Type
  | .int _ => Int
  | .bool => Bool
  | .str => ByteArray
  | .sl t => List t.T
def CKs : List CK → Type
  | [] => Unit
  | [k] => k.T
  | k :: k' :: r => k.T × CKs (k' :: r)
/-- Cells some of which are slices that are handed to be written. -/
inductive WK where
  | c (k : CK)
  | row (t : Ty) (e : TypeId)
def WK.T : WK → Type
  | .c k => k.T
  | .row t _ => List t.T
def WKs : List WK → Type
  | [] => Unit
  | [k] => k.T
  | k :: k' :: r => k.T × WKs (k' :: r)
inductive AK where
  | c (k : CK)
  | agg (ks : List CK)
  | ptr (ks : List CK) (t : TypeId)
  | w (g : Bool) (ks : List WK)
def AK.T : AK → Type
  | .c k => k.T
  | .agg ks => CKs ks
  | .ptr ks _ => CKs ks
  | .w _ ks => WKs ks
def AKs : List AK → Type
  | [] => Unit
  | [k] => k.T
  | k :: k' :: r => k.T × AKs (k' :: r)
inductive RK where
  | int (k : IntKind)
  | bool
  | str
  | own (t : Ty) (e : TypeId)
  | exr (t : Ty) (e : TypeId)
  | al (i j : Nat)
  | keep
def RK.T : RK → Type
  | .int _ => Int
  | .bool => Bool
  | .str => ByteArray
  | .own t _ => List t.T
  | .exr t _ => List t.T
  | .al _ _ => Unit
  | .keep => Unit
def RKs : List RK → Type
  | [] => Unit
  | [k] => k.T
  | k :: k' :: r => k.T × RKs (k' :: r)
inductive OK where
  | v (g : Bool) (ks : List RK)
  | box (ks : List RK) (t : TypeId)
  | row (t : Ty) (e : TypeId)
def OK.T : OK → Type
  | .v _ ks => RKs ks
  | .box ks _ => RKs ks
  | .row t _ => List t.T
def OKs : List OK → Type
  | [] => Unit
  | [k] => k.T
  | k :: k' :: r => k.T × OKs (k' :: r)
/-- Of a function: the kinds of its arguments; how many results; the kinds of the results and, behind them, of what the pointers that it is handed point to; what it comes to. -/
structure Con where
  ak : List AK
  nres : Nat
  rk : List OK
  fn : Nat → AKs ak → Option (OKs rk)

def mC (hp : Nat → Ent) : (k : CK) → SC → Option k.T
  | .int k, .int k' n => cnd (keq k k') (some (n : Int)) none
  | .bool, .bool s => some s.b
  | .str, .str s => some s
  | .sl t, x => readL none hp t x
  | _, _ => none
def mCs (hp : Nat → Ent) : (ks : List CK) → List SC → Option (CKs ks)
  | [], [] => some ()
  | [k], [x] => mC hp k x
  | k :: k' :: r, x :: y => match mC hp k x, mCs hp (k' :: r) y with
    | some a, some b => some (a, b)
    | _, _ => none
  | _, _ => none
def beqB : Bool → Bool → Bool
  | true, true => true
  | false, false => true
  | _, _ => false
def mW (hp : Nat → Ent) : (k : WK) → SC → Option k.T
  | .c k, x => mC hp k x
  | .row t e, .sl n => match hp n with
    | .row t' l e' => match t'.dec t with
      | some ⟨h⟩ => cnd (Nat.beq e e') (some (h ▸ l : List t.T)) none
      | none => none
    | _ => none
  | _, _ => none
def mWs (hp : Nat → Ent) : (ks : List WK) → List SC → Option (WKs ks)
  | [], [] => some ()
  | [k], [x] => mW hp k x
  | k :: k' :: r, x :: y => match mW hp k x, mWs hp (k' :: r) y with
    | some a, some b => some (a, b)
    | _, _ => none
  | _, _ => none
def mA (hp : Nat → Ent) : (k : AK) → SV → Option k.T
  | .c k, .a false [x] => mC hp k x
  | .agg ks, .a true cs => mCs hp ks cs
  | .ptr ks t, .a false [.ptr n 0] => match hp n with
    | .box cs t' => cnd (Nat.beq t t') (mCs hp ks cs) none
    | _ => none
  | .w g ks, .a g' cs => cnd (beqB g g') (mWs hp ks cs) none
  | _, _ => none
def mAs (hp : Nat → Ent) : (ks : List AK) → List SV → Option (AKs ks)
  | [], [] => some ()
  | [k], [x] => mA hp k x
  | k :: k' :: r, x :: y => match mA hp k x, mAs hp (k' :: r) y with
    | some a, some b => some (a, b)
    | _, _ => none
  | _, _ => none
/-- The rows that are handed. -/
def rowsW : List WK → List SC → List Nat
  | .row _ _ :: r, .sl n :: y => n :: rowsW r y
  | _ :: r, _ :: y => rowsW r y
  | _, _ => []
/-- The slices among cells. -/
def slN : List SC → List Nat
  | [] => []
  | .sl n :: r => n :: slN r
  | _ :: r => slN r
/-- The slices that are handed to be read. -/
def rdW : List WK → List SC → List Nat
  | .c _ :: r, .sl n :: y => n :: rdW r y
  | _ :: r, _ :: y => rdW r y
  | _, _ => []
def rdsOf : List AK → List SV → List Nat
  | .c _ :: r, .a _ cs :: y => slN cs ++ rdsOf r y
  | .agg _ :: r, .a _ cs :: y => slN cs ++ rdsOf r y
  | .w _ ks :: r, .a _ cs :: y => rdW ks cs ++ rdsOf r y
  | _ :: r, _ :: y => rdsOf r y
  | _, _ => []
def noW : List AK → Bool
  | [] => true
  | .w _ _ :: _ => false
  | _ :: r => noW r
def noP : List AK → Bool
  | [] => true
  | .ptr _ _ :: _ => false
  | _ :: r => noP r
/-- The names among cells, among values. -/
def nmC : List SC → List Nat
  | [] => []
  | .sl n :: r => n :: nmC r
  | .ptr n _ :: r => n :: nmC r
  | _ :: r => nmC r
def slA : List SV → List Nat
  | [] => []
  | .a _ cs :: r => nmC cs ++ slA r
  | _ :: r => slA r
/-- The boxes and rows that are handed. -/
def ptrs : List AK → List SV → List Nat
  | .ptr _ _ :: r, .a false [.ptr n 0] :: y => n :: ptrs r y
  | .w _ ks :: r, .a _ cs :: y => rowsW ks cs ++ ptrs r y
  | _ :: r, _ :: y => ptrs r y
  | _, _ => []
def cellOf (args : List SV) (i j : Nat) : SC :=
  match args[i]? with
  | some (.a _ cs) => cs.getD j .any
  | _ => .any
/-- A result's cell, put into the heap. -/
def inC (args : List SV) (old : SC) (nm : Nat) (hp : Nat → Ent) : (k : RK) → k.T → SC × Nat × (Nat → Ent)
  | .int k, (n : Int) => (.int k n, nm, hp)
  | .bool, (b : Bool) => (.bool (.v b), nm, hp)
  | .str, (s : ByteArray) => (.str s, nm, hp)
  | .own t e, (l : List t.T) => (.sl nm, nm + 1, upd hp nm (.row t l e))
  | .exr t e, (l : List t.T) => (.sl nm, nm + 1, upd hp nm (.ex t l e))
  | .al i j, _ => (cellOf args i j, nm, hp)
  | .keep, _ => (old, nm, hp)
def inCs (args : List SV) : (ks : List RK) → RKs ks → List SC → Nat → (Nat → Ent) → List SC × Nat × (Nat → Ent)
  | [], _, _, nm, hp => ([], nm, hp)
  | [k], x, old, nm, hp => match inC args (old.headD .any) nm hp k x with
    | (a, nm, hp) => ([a], nm, hp)
  | k :: k' :: r, (x : k.T × RKs (k' :: r)), old, nm, hp => match inC args (old.headD .any) nm hp k x.1 with
    | (a, nm, hp) => match inCs args (k' :: r) x.2 old.tail nm hp with
      | (b, nm, hp) => (a :: b, nm, hp)
def inO (args : List SV) : (k : OK) → k.T → Nat → (Nat → Ent) → (Bool × List SC) × Nat × (Nat → Ent)
  | .v g ks, x, nm, hp => match inCs args ks x [] nm hp with
    | (cs, nm, hp) => ((g, cs), nm, hp)
  | .box ks t, x, nm, hp => match inCs args ks x [] (nm + 1) hp with
    | (cs, nm', hp) => ((false, [.ptr nm 0]), nm', upd hp nm (.box cs t))
  | .row _ _, _, nm, hp => ((false, [.any]), nm + 1, hp)
/-- What a box that was handed holds now. -/
def upO (args : List SV) (p : Nat) : (k : OK) → k.T → Nat → (Nat → Ent) → Nat × (Nat → Ent)
  | .v _ _, _, nm, hp => (nm, hp)
  | .box ks t, x, nm, hp => match hp p with
    | .box old _ => match inCs args ks x old nm hp with
      | (cs, nm, hp) => (nm, upd hp p (.box cs t))
    | _ => (nm, hp)
  | .row t e, x, nm, hp => (nm, upd hp p (.row t x e))
/-- All results, then all boxes that were handed. -/
def inOs (args : List SV) : Nat → List Nat → (ks : List OK) → OKs ks → Nat → (Nat → Ent) → List (Bool × List SC) × (Nat → Ent)
  | 0, p :: ps, [k], x, nm, hp => ([], (upO args p k x nm hp).2)
  | 0, p :: ps, k :: k' :: r, (x : k.T × OKs (k' :: r)), nm, hp => match upO args p k x.1 nm hp with
    | (nm, hp) => inOs args 0 ps (k' :: r) x.2 nm hp
  | n + 1, ps, [k], x, nm, hp => match inO args k x nm hp with
    | (v, nm, hp) => ([v], hp)
  | n + 1, ps, k :: k' :: r, (x : k.T × OKs (k' :: r)), nm, hp => match inO args k x.1 nm hp with
    | (v, nm, hp) => match inOs args n ps (k' :: r) x.2 nm hp with
      | (vs, hp) => (v :: vs, hp)
  | _, _, _, _, nm, hp => ([], hp)
def RK.news : List RK → Nat
  | [] => 0
  | .own _ _ :: r => news r + 1
  | .exr _ _ :: r => news r + 1
  | _ :: r => news r
def OK.news : List OK → Nat
  | [] => 0
  | .v _ ks :: r => RK.news ks + news r
  | .box ks _ :: r => RK.news ks + 1 + news r
  | .row _ _ :: r => 1 + news r
def freeN (hp : Nat → Ent) (nm : Nat) : Nat → Bool
  | 0 => true
  | n + 1 => match hp (nm + n) with
    | .free => freeN hp nm n
    | _ => false
def nodupN : List Nat → Bool
  | [] => true
  | x :: r => !(memN x r) && nodupN r
/-- What is handed to be written is handed once, and not to be read beside. -/
def apN (ak : List AK) (args : List SV) : Bool := nodupN (ptrs ak args) && ((rdsOf ak args).all (fun n => !(memN n (ptrs ak args))) && (noW ak || noP ak))
def resV (n : Nat) (vs : List (Bool × List SC)) : SV :=
  match n, vs with
  | 1, [(g, cs)] => .a g cs
  | _, vs => .tup vs

/-! ### one operation, a region, code -/
structure St where
  tm : Nat → SV
  hp : Nat → Ent
  nx : Nat
structure Ctx where
  P : Program
  N : Nat
  G : FuncId → Option Con
  k : Nat
def callK {R : Type} (C : Con) (av : Av) (k : Nat) (args : List SV) (nm : Nat) (hp : Nat → Ent) (K : SV → (Nat → Ent) → Option R) : Option R :=
  match mAs hp C.ak args with
  | none => none
  | some a => cnd (((ptrs C.ak args).all (wrOk av) && apN C.ak args) && (freeN hp nm (OK.news C.rk) && Nat.ble (OK.news C.rk) 8)) ((C.fn k a).bind fun b => match inOs args C.nres (ptrs C.ak args) C.rk b nm hp with
    | (vs, hp) => K (resV C.nres vs) hp) none
abbrev Kn := List (Nat × Bool)
/-- What is known of a temporary that a guard has asked for. -/
def kn? : Kn → Nat → Option Bool
  | [], _ => none
  | (d, b) :: r, t => cnd (Nat.beq d t) (some b) (kn? r t)
def knOut : Kn → Nat → Kn
  | [], _ => []
  | (d, b) :: r, t => cnd (Nat.beq d t) (knOut r t) ((d, b) :: knOut r t)
def putK {R : Type} (N : Nat) (kn : Kn) (σ : St) (hp : Nat → Ent) (dst : Option Tmp) (v : SV) (K : Kn → St → Option R) : Option R :=
  match dst with
  | none => K kn ⟨σ.tm, hp, σ.nx⟩
  | some d => cnd (Nat.blt d N) (K (knOut kn d) ⟨upd σ.tm d v, hp, σ.nx⟩) none
/-- A condition, asked once. -/
def askK {R : Type} (kn : Kn) (x : Operand) (s : SB) (K : Kn → Bool → Option R) : Option R :=
  match x with
  | .tmp t => match kn? kn t with
    | some b => K kn b
    | none => s.cond (K ((t, true) :: kn) true) (K ((t, false) :: kn) false)
  | _ => s.cond (K kn true) (K kn false)
def execK {R : Type} (C : Ctx) (av : Av) (o : Oper) (nm : Nat) (kn : Kn) (σ : St) (K : Kn → St → Option R) : Option R :=
  match o.op with
  | .pick c a b => match ev σ.tm c with
    | .a false [.bool s] => askK kn c s fun kn t => match t with
      | true => putK C.N kn σ σ.hp o.dst (ev σ.tm a) K
      | false => putK C.N kn σ σ.hp o.dst (ev σ.tm b) K
    | _ => none
  | .call { callee := .value (.func f), args := as, argTypes := _ } => match C.G f with
    | some con => callK con av C.k (as.toList.map (ev σ.tm)) nm σ.hp fun v hp => putK C.N kn σ hp o.dst v K
    | none => none
  | op => match opA C.P av op (ev σ.tm) nm σ.hp with
    | some (cs, v, hp) => chks cs (putK C.N kn σ hp o.dst v K)
    | none => none
def stepK {R : Type} (C : Ctx) (av : Av) (ops : List Oper) (i : Nat) (kn : Kn) (σ : St) (K : Kn → St → Option R) : Option R :=
  match ops[i]? with
  | none => none
  | some o => match o.guard with
    | none => execK C av o (σ.nx + 8 * i) kn σ K
    | some (g, want) => match (ops[g]?).bind (·.dst) with
      | none => none
      | some d => match σ.tm d with
        | .a false [.bool s] => askK kn (.tmp d) s fun kn t => match want, t with
          | true, true => execK C av o (σ.nx + 8 * i) kn σ K
          | false, false => execK C av o (σ.nx + 8 * i) kn σ K
          | _, _ => putK C.N kn σ σ.hp o.dst (.tup []) K
        | .tup _ => putK C.N kn σ σ.hp o.dst (.tup []) K
        | _ => none
def runK {R : Type} (C : Ctx) (av : Nat → Av) (ops : List Oper) : List Nat → Kn → St → (St → Option R) → Option R
  | [], _, σ, K => K σ
  | i :: r, kn, σ, K => stepK C (av i) ops i kn σ fun kn σ' => runK C av ops r kn σ' K

/-- 0 nothing of memory · 1 reads · 2 fresh memory · 3 a call, an append · 4 a store. -/
def cls (P : Program) : Op → Nat
  | .move _ | .assign _ | .pick .. | .build .. | .unOp .. | .binOp .. | .extract .. | .field .. | .fieldAddr .. | .index .. | .nilCheck _ => 0
  | .load .. | .indexAddr .. => 1
  | .convert _ d _ => match P.underlying d with
    | some (.slice _) => 2
    | _ => 1
  | .slice t .. => match P.underlying t with
    | some .string => 0
    | _ => 4
  | .alloc _ | .box .. | .buildSlice .. | .makeSlice .. => 2
  | .call { callee := .builtin .append, .. } => 3
  | .call { callee := .builtin _, .. } => 1
  | .call _ => 3
  | _ => 4
def may (ci cj : Nat) : Bool := Nat.beq ci 0 || (Nat.beq cj 0 || (Nat.beq ci 1 || Nat.beq cj 2))
def deps (o : Oper) : List Nat := o.after.toList.filterMap fun e => match e.ground with
  | .textOnly _ | .gcOnly _ => none
  | _ => some e.on
/-- The next operation: one that reads before a call before fresh memory. -/
def nextOp (P : Program) (rev late : Bool) (ops : List Oper) (done : List Nat) : Option Nat :=
  let ready := (match rev with | true => (List.range ops.length).reverse | false => List.range ops.length).filter fun i => !(memN i done) && match ops[i]? with
    | some o => (deps o).all (memN · done)
    | none => false
  let c (i : Nat) : Nat := match ops[i]? with
    | some o => match cls P o.op with
      | 0 => 0
      | 1 => 0
      | 2 => cnd late 3 2
      | 3 => 1
      | _ => cnd late 2 3
    | none => 4
  match ready.filter fun i => Nat.beq (c i) 0 with
  | i :: _ => some i
  | [] => match ready.filter fun i => Nat.beq (c i) 1 with
    | i :: _ => some i
    | [] => match ready.filter fun i => Nat.beq (c i) 2 with
      | i :: _ => some i
      | [] => ready.head?
def refOrd (P : Program) (rev late : Bool) (ops : List Oper) : Nat → List Nat → List Nat
  | 0, done => done.reverse
  | f + 1, done => match nextOp P rev late ops done with
    | some i => refOrd P rev late ops f (i :: done)
    | none => done.reverse
/-- i comes ahead of j in every order. -/
def reach (ops : List Oper) : Nat → Nat → Nat → Bool
  | 0, _, _ => false
  | f + 1, i, j => match ops[j]? with
    | some o => (deps o).any fun k => Nat.beq k i || (Nat.blt i k && reach ops f i k)
    | none => false
def apartB (x y : Oper) (ops : List Oper) : Bool := x.apart ops.toArray y
/-- Who reads beside one that writes. -/
def rw' (ci cj : Nat) : Bool := Nat.beq ci 1 && (Nat.beq cj 3 || Nat.beq cj 4)
/-- A call of a function. -/
def isFc : Op → Bool
  | .call { callee := .value (.func _), .. } => true
  | .alloc _ | .box .. | .buildSlice .. | .makeSlice .. => true
  | _ => false
/-- A call, and one that reads what the call has not made. -/
def hop (P : Program) (m : Bool) (oi oj : Oper) : Bool := m && (isFc oi.op && Nat.beq (cls P oj.op) 1)
def rwm (P : Program) (m : Bool) (oi oj : Oper) : Bool := rw' (cls P oi.op) (cls P oj.op) || hop P m oi oj
/-- Of two that no order binds: the one that reads, the one that writes. -/
def looseOf (P : Program) (m : Bool) (ops : List Oper) : List Nat → List Nat
  | [] => []
  | i :: r => (match ops[i]? with
    | some oi => r.flatMap fun j => match ops[j]? with
      | some oj => cnd (rwm P m oi oj) (cnd (memN i (deps oj) || reach ops 16 i j) [] [i, j]) []
      | none => []
    | none => []) ++ looseOf P m ops r
def pairOk (P : Program) (m : Bool) (ops : List Oper) (lo : List Nat) (i j : Nat) (oi oj : Oper) : Bool :=
  (may (cls P oi.op) (cls P oj.op) || hop P m oi oj) && (apartB oi oj ops && (!(rwm P m oi oj) || (memN i lo && memN j lo)))
def okPairs (P : Program) (m : Bool) (ops : List Oper) (lo : List Nat) : List Nat → Bool
  | [] => true
  | i :: r => (match ops[i]? with
    | some oi => r.all fun j => match ops[j]? with
      | some oj => !(memN j (deps oi)) && (memN i (deps oj) || (pairOk P m ops lo i j oi oj || reach ops 16 i j))
      | none => false
    | none => false) && (!(memN i r) && okPairs P m ops lo r)
/-- What an operand will be, as far as can be told ahead of the region. -/
def foresee (P : Program) (ops : List Oper) (σ : St) : Nat → Operand → SV
  | f + 1, .tmp t => match ops.zipIdx.find? fun p => match p.1.dst with
      | some d => Nat.beq d t
      | none => false with
    | some (o, i) => match cls P o.op with
      | 2 => match o.op with
        | .alloc _ | .box .. => one (.ptr (σ.nx + 8 * i) 0)
        | _ => one (.sl (σ.nx + 8 * i))
      | 3 => .any
      | _ => match opA P none o.op (foresee P ops σ f) (σ.nx + 8 * i) σ.hp with
        | some (_, v, _) => v
        | none => .any
    | none => σ.tm t
  | _, x => ev σ.tm x
def nameOf : SV → List Nat
  | .a false [.ptr n _] => [n]
  | .a false [.ep n _ _ _] => [n]
  | .a false [.sl n] => [n]
  | .a true cs => slN cs
  | _ => []
def takeP : List AK → List Operand → List Operand
  | .ptr _ _ :: r, x :: y => x :: takeP r y
  | .w _ _ :: r, x :: y => x :: takeP r y
  | _ :: r, _ :: y => takeP r y
  | _, _ => []
def fresh8 (n : Nat) : List Nat := [n, n + 1, n + 2, n + 3, n + 4, n + 5, n + 6, n + 7]
/-- The names that the loose ones of a region write, or make. -/
def avOf (C : Ctx) (m : Bool) (ops : List Oper) (σ : St) (lo : List Nat) : List Nat :=
  (lo.flatMap fun i => match (ops[i]?).map (·.op) with
    | none => []
    | some op => match op with
    | .store _ x _ => nameOf (foresee C.P ops σ 5 x)
    | .slice _ x _ _ _ => nameOf (foresee C.P ops σ 5 x)
    | .call { callee := .builtin .append, args := as, .. } => match as.toList with
      | x :: _ => nameOf (foresee C.P ops σ 5 x)
      | [] => []
    | .call { callee := .value (.func f), args := as, .. } => match C.G f with
      | some con => (takeP con.ak as.toList).flatMap fun x => nameOf (foresee C.P ops σ 5 x)
      | none => []
    | _ => []) ++ cnd m (lo.flatMap fun i => match (ops[i]?).map (·.op) with
    | some op => cnd (isFc op) (fresh8 (σ.nx + 8 * i)) []
    | none => []) []
def okDeps (ops : List Oper) (l : List Nat) : Bool := l.all fun i => match ops[i]? with
  | some o => (deps o).all fun d => Nat.blt d ops.length && !(Nat.beq d i)
  | none => false
def avf (lo S : List Nat) : Nat → Av := fun i => cnd (memN i lo) (some S) none
def drawK {R : Type} (C : Ctx) (m : Bool) (ops : List Oper) (l : List Nat) (σ : St) (K : St → Option R) (alt : Option R) : Option R :=
  match looseOf C.P m ops l with
  | lo => cnd ((List.range ops.length).all (memN · l) && (okDeps ops l && (Nat.beq l.length ops.length && okPairs C.P m ops lo l))) (runK C (avf lo (avOf C m ops σ lo)) ops l [] σ K) alt
def regK {R : Type} (C : Ctx) (ops : Array Oper) (draw : Bool) (σ : St) (K : St → Option R) : Option R :=
  let K' : St → Option R := fun σ' => K ⟨σ'.tm, σ'.hp, σ'.nx + 8 * ops.size⟩
  match draw with
  | false => runK C (fun _ => none) ops.toList (List.range ops.size) [] σ K'
  | true => drawK C false ops.toList (refOrd C.P false false ops.toList ops.size []) σ K' (drawK C false ops.toList (refOrd C.P false true ops.toList ops.size []) σ K' (drawK C true ops.toList (refOrd C.P false false ops.toList ops.size []) σ K' (drawK C true ops.toList (refOrd C.P false true ops.toList ops.size []) σ K' (drawK C true ops.toList (refOrd C.P true false ops.toList ops.size []) σ K' none))))

def ckey : Code → Option Nat
  | .region id _ _ => some id
  | .seq a b => match ckey a with
    | some i => some i
    | none => ckey b
  | .cond _ a b => match ckey a with
    | some i => some i
    | none => ckey b
  | .block _ c => ckey c
  | .loop c => ckey c
  | .scope c => ckey c
  | _ => none
/-- Where code goes on: which places are joins, and what the labels come to. -/
structure Lam (R : Type) where
  jn : Nat → Bool
  J : Nat → St → Option R
def inBlk {R : Type} (id : Nat) (K : Exit → St → Option R) : Exit → St → Option R
  | .exit i, σ => cnd (Nat.beq i id) (K .normal σ) (K (.exit i) σ)
  | e, σ => K e σ
def thenK {R : Type} (n : St → Option R) (K : Exit → St → Option R) (e : Exit) (σ : St) : Option R :=
  (fun (_ : Unit) => match e with
  | .normal => n σ
  | e => K e σ) hgt3
def den {R : Type} (C : Ctx) (L : Lam R) : Code → (Exit → St → Option R) → St → Option R
  | .skip, K, σ => K .normal σ
  | .region _ ops draw, K, σ => regK C ops draw σ (K .normal)
  | .seq x y, K, σ => match ckey y with
    | some j => cnd (L.jn j) (den C L x (thenK (L.J j) K) σ) (den C L x (thenK (den C L y K) K) σ)
    | none => den C L x (thenK (den C L y K) K) σ
  | .cond c x y, K, σ => match ev σ.tm c with
    | .a false [.bool s] => s.cond (den C L x K σ) (den C L y K σ)
    | _ => none
  | .block id c, K, σ => den C L c (inBlk id K) σ
  | .loop c, K, σ => match ckey c with
    | some j => L.J j σ
    | none => none
  | .exit id, K, σ => K (.exit id) σ
  | .ret, K, σ => K .ret σ
  | _, _, _ => none

/-! ### a function's begin and end -/
def iC (nm : Nat) (hp : Nat → Ent) : (k : CK) → k.T → SC × Nat × (Nat → Ent)
  | .int k, (n : Int) => (.int k n, nm, hp)
  | .bool, (b : Bool) => (.bool (.v b), nm, hp)
  | .str, (s : ByteArray) => (.str s, nm, hp)
  | .sl t, (l : List t.T) => (.sl nm, nm + 1, upd hp nm (.ro t l 0))
def iCs : (ks : List CK) → CKs ks → Nat → (Nat → Ent) → List SC × Nat × (Nat → Ent)
  | [], _, nm, hp => ([], nm, hp)
  | [k], x, nm, hp => match iC nm hp k x with
    | (a, nm, hp) => ([a], nm, hp)
  | k :: k' :: r, (x : k.T × CKs (k' :: r)), nm, hp => match iC nm hp k x.1 with
    | (a, nm, hp) => match iCs (k' :: r) x.2 nm hp with
      | (b, nm, hp) => (a :: b, nm, hp)
def iW (nm : Nat) (hp : Nat → Ent) : (k : WK) → k.T → SC × Nat × (Nat → Ent)
  | .c k, x => iC nm hp k x
  | .row t e, (l : List t.T) => (.sl nm, nm + 1, upd hp nm (.row t l e))
def iWs : (ks : List WK) → WKs ks → Nat → (Nat → Ent) → List SC × Nat × (Nat → Ent)
  | [], _, nm, hp => ([], nm, hp)
  | [k], x, nm, hp => match iW nm hp k x with
    | (a, nm, hp) => ([a], nm, hp)
  | k :: k' :: r, (x : k.T × WKs (k' :: r)), nm, hp => match iW nm hp k x.1 with
    | (a, nm, hp) => match iWs (k' :: r) x.2 nm hp with
      | (b, nm, hp) => (a :: b, nm, hp)
def iA : (k : AK) → k.T → Nat → (Nat → Ent) → SV × Nat × (Nat → Ent)
  | .c k, x, nm, hp => match iC nm hp k x with
    | (a, nm, hp) => (one a, nm, hp)
  | .agg ks, x, nm, hp => match iCs ks x nm hp with
    | (a, nm, hp) => (.a true a, nm, hp)
  | .ptr ks t, x, nm, hp => match iCs ks x (nm + 1) hp with
    | (cs, nm', hp) => (one (.ptr nm 0), nm', upd hp nm (.box cs t))
  | .w g ks, x, nm, hp => match iWs ks x nm hp with
    | (a, nm, hp) => (.a g a, nm, hp)
def iAs : (ks : List AK) → AKs ks → Nat → (Nat → Ent) → List SV × Nat × (Nat → Ent)
  | [], _, nm, hp => ([], nm, hp)
  | [k], x, nm, hp => match iA k x nm hp with
    | (a, nm, hp) => ([a], nm, hp)
  | k :: k' :: r, (x : k.T × AKs (k' :: r)), nm, hp => match iA k x.1 nm hp with
    | (a, nm, hp) => match iAs (k' :: r) x.2 nm hp with
      | (b, nm, hp) => (a :: b, nm, hp)
def tmOf (args : List SV) : Nat → SV := fun t => args.getD t (.tup [])
def st0 (ks : List AK) (x : AKs ks) : St := match iAs ks x 0 (fun _ => .free) with
  | (args, nm, hp) => ⟨tmOf args, hp, nm⟩
def args0 (ks : List AK) (x : AKs ks) : List SV := (iAs ks x 0 (fun _ => .free)).1
def sameSl : SC → SC → Bool
  | .sl n, .sl m => Nat.beq n m
  | _, _ => false
def exC (args : List SV) (old : SC) (hp : Nat → Ent) : (k : RK) → SC → Option (k.T × (Nat → Ent))
  | .int k, .int k' n => cnd (keq k k') (some ((n : Int), hp)) none
  | .bool, .bool s => some (s.b, hp)
  | .str, .str s => some (s, hp)
  | .own t e, .sl n => match hp n with
    | .row t' l e' => match t'.dec t with
      | some ⟨h⟩ => cnd (Nat.beq e e' && !(memN n (slA args))) (some ((h ▸ l : List t.T), upd hp n .dead)) none
      | none => none
    | _ => none
  | .own t e, .nils => some (([] : List t.T), hp)
  | .exr t e, .sl n => match hp n with
    | .row t' l e' => match t'.dec t with
      | some ⟨h⟩ => cnd (!(memN n (slA args))) (some ((h ▸ l : List t.T), upd hp n .dead)) none
      | none => none
    | .ex t' l e' => match t'.dec t with
      | some ⟨h⟩ => cnd (!(memN n (slA args))) (some ((h ▸ l : List t.T), upd hp n .dead)) none
      | none => none
    | _ => none
  | .exr t e, .nils => some (([] : List t.T), hp)
  | .al i j, x => cnd (sameSl x (cellOf args i j)) (some ((), hp)) none
  | .keep, x => cnd (sameSl x old) (some ((), hp)) none
  | _, _ => none
def exCs (args : List SV) : (ks : List RK) → List SC → List SC → (Nat → Ent) → Option (RKs ks × (Nat → Ent))
  | [], [], _, hp => some ((), hp)
  | [k], [x], old, hp => exC args (old.headD .any) hp k x
  | k :: k' :: r, x :: y, old, hp => match exC args (old.headD .any) hp k x with
    | some (a, hp) => match exCs args (k' :: r) y old.tail hp with
      | some (b, hp) => some ((a, b), hp)
      | none => none
    | none => none
  | _, _, _, _ => none
def exO (args : List SV) (ps : List Nat) (hp : Nat → Ent) : (k : OK) → SV → Option (k.T × (Nat → Ent))
  | .v g ks, .a g' cs => cnd (beqB g g') (exCs args ks cs [] hp) none
  | .box ks t, .a false [.ptr n 0] => match hp n with
    | .box cs t' => cnd (Nat.beq t t' && !(memN n ps)) (match exCs args ks cs [] hp with
      | some (a, hp') => some (a, upd hp' n .dead)
      | none => none) none
    | _ => none
  | _, _ => none
def exU (args : List SV) (hp0 hp : Nat → Ent) (p : Nat) : (k : OK) → Option (k.T × (Nat → Ent))
  | .box ks t => match hp0 p, hp p with
    | .box old _, .box cs t' => cnd (Nat.beq t t') (exCs args ks cs old hp) none
    | _, _ => none
  | .v _ _ => none
  | .row t e => match hp p with
    | .row t' l e' => match t'.dec t with
      | some ⟨h⟩ => cnd (Nat.beq e e') (some ((h ▸ l : List t.T), hp)) none
      | none => none
    | _ => none
/-- Of all results, then of all boxes that were handed. -/
def exOs (args : List SV) (hp0 : Nat → Ent) (ps0 : List Nat) : List SV → List Nat → (ks : List OK) → (Nat → Ent) → Option (OKs ks)
  | [], [], [], _ => some ()
  | [v], [], [k], hp => match exO args ps0 hp k v with
    | some (a, _) => some a
    | none => none
  | v :: vs, ps, k :: k' :: r, hp => match exO args ps0 hp k v with
    | some (a, hp) => match exOs args hp0 ps0 vs ps (k' :: r) hp with
      | some b => some (a, b)
      | none => none
    | none => none
  | [], [p], [k], hp => match exU args hp0 hp p k with
    | some (a, _) => some a
    | none => none
  | [], p :: ps, k :: k' :: r, hp => match exU args hp0 hp p k with
    | some (a, hp) => match exOs args hp0 ps0 [] ps (k' :: r) hp with
      | some b => some (a, b)
      | none => none
    | none => none
  | _, _, _, _ => none
def isBox : Ent → Bool
  | .box _ _ => true
  | .row _ _ _ => true
  | _ => false
def resOf (P : Program) (σ : St) : List ResultVar → Option (List SV)
  | [] => some []
  | .tmp t :: r => match resOf P σ r with
    | some vs => some (σ.tm t :: vs)
    | none => none
  | .cell a t :: r => match loadA P none t σ.hp (σ.tm a), resOf P σ r with
    | some (_, v, _), some vs => some (v :: vs)
    | _, _ => none
/-- A function's answer: what its code comes to. -/
def kret (C : Ctx) (con : Con) (rs : List ResultVar) (args : List SV) (hp0 : Nat → Ent) : Exit → St → Option (OKs con.rk)
  | .normal, σ => match resOf C.P σ rs with
    | some vs => cnd ((ptrs con.ak args).all (fun p => isBox (σ.hp p)) && Nat.beq vs.length con.nres) (exOs args hp0 (ptrs con.ak args) vs (ptrs con.ak args) con.rk σ.hp) none
    | none => none
  | .ret, σ => match resOf C.P σ rs with
    | some vs => cnd ((ptrs con.ak args).all (fun p => isBox (σ.hp p)) && Nat.beq vs.length con.nres) (exOs args hp0 (ptrs con.ak args) vs (ptrs con.ak args) con.rk σ.hp) none
    | none => none
  | _, _ => none
def denF (C : Ctx) (con : Con) (L : Lam (OKs con.rk)) (c : Code) (rs : List ResultVar) (x : AKs con.ak) : Option (OKs con.rk) :=
  den C L c (kret C con rs (args0 con.ak x) (st0 con.ak x).hp) (st0 con.ak x)
end Go.Sx
