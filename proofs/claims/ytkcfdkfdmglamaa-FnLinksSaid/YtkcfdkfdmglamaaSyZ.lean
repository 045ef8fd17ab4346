/- Labels: what is kept of a state where code comes by again. -/
import Derived.Test.YtkcfdkfdmglamaaSyY
set_option linter.unusedVariables false
set_option linter.unusedSimpArgs false
namespace Go.Sx
inductive CP where
  | int (k : IntKind)
  | bool
  | str
  | ptr (n off : Nat)
  | sl (n : Nat)
  | nilp
  | any
def CP.T (X : Type) : CP → Type
  | .int _ => Int × X
  | .bool => Bool × X
  | .str => ByteArray × X
  | _ => X
def CPs (X : Type) : List CP → Type
  | [] => X
  | p :: r => p.T (CPs X r)
/-- Which name a label's name stands for; none is a slice that is nil. -/
abbrev Rn := List (Nat × Option Nat)
def look : Rn → Nat → Option (Option Nat)
  | [], _ => none
  | (m, q) :: r, n => cnd (Nat.beq m n) (some q) (look r n)
def sameO : Option Nat → Option Nat → Bool
  | none, none => true
  | some a, some b => Nat.beq a b
  | _, _ => false
def asn (ρ : Rn) (n : Nat) (q : Option Nat) : Option Rn :=
  match look ρ n with
  | none => some ((n, q) :: ρ)
  | some q' => cnd (sameO q q') (some ρ) none
def asnC (ρ : Rn) : CP → SC → Option Rn
  | .ptr n off, .ptr q off' => cnd (Nat.beq off off') (asn ρ n (some q)) none
  | .sl n, .sl q => asn ρ n (some q)
  | .sl n, .nils => asn ρ n none
  | .nilp, .nilp => some ρ
  | .any, _ => some ρ
  | .int _, _ => some ρ
  | .bool, _ => some ρ
  | .str, _ => some ρ
  | _, _ => none
def putD {X : Type} (x : X) : (p : CP) → SC → Option (p.T X)
  | .int k, .int k' n => cnd (keq k k') (some ((n : Int), x)) none
  | .bool, .bool s => some (s.b, x)
  | .str, .str s => some (s, x)
  | .ptr _ _, _ => some x
  | .sl _, _ => some x
  | .nilp, _ => some x
  | .any, _ => some x
  | _, _ => none
def getD {X : Type} : (p : CP) → p.T X → SC × X
  | .int k, (x : Int × X) => (.int k x.1, x.2)
  | .bool, (x : Bool × X) => (.bool (.v x.1), x.2)
  | .str, (x : ByteArray × X) => (.str x.1, x.2)
  | .ptr n off, x => (.ptr n off, x)
  | .sl n, x => (.sl n, x)
  | .nilp, x => (.nilp, x)
  | .any, x => (.any, x)
def absC {X : Type} (K : Rn → Option X) : (ps : List CP) → List SC → Rn → Option (CPs X ps)
  | [], [], ρ => K ρ
  | p :: r, c :: cs, ρ => match asnC ρ p c with
    | some ρ' => match absC K r cs ρ' with
      | some t => putD t p c
      | none => none
    | none => none
  | _, _, _ => none
def conC {X : Type} : (ps : List CP) → CPs X ps → List SC × X
  | [], x => ([], x)
  | p :: r, x => match getD p x with
    | (c, y) => match conC r y with
      | (cs, z) => (c :: cs, z)
inductive EP where
  | dead
  | box (ps : List CP) (t : TypeId)
  | row (ty : Ty) (e : TypeId)
  | ro (ty : Ty) (e : TypeId)
def EP.T (X : Type) : EP → Type
  | .dead => X
  | .box ps _ => CPs X ps
  | .row ty _ => List ty.T × X
  | .ro ty _ => List ty.T × X
def EPs (X : Type) : List EP → Type
  | [] => X
  | e :: r => e.T (EPs X r)
def absE {X : Type} (hp : Hp) (K : Rn → Option X) : (es : List EP) → Nat → Rn → Option (EPs X es)
  | [], _, ρ => K ρ
  | .dead :: r, n, ρ => absE hp K r (n + 1) ρ
  | .box ps t :: r, n, ρ => match look ρ n with
    | some (some q) => match hp q with
      | .box cs t' => cnd (Nat.beq t t') (absC (absE hp K r (n + 1)) ps cs ρ) none
      | _ => none
    | _ => none
  | .row ty e :: r, n, ρ => match look ρ n with
    | some (some q) => match hp q with
      | .row ty' l e' => match ty'.dec ty with
        | some ⟨h⟩ => cnd (Nat.beq e e') (match absE hp K r (n + 1) ρ with
          | some t => some ((h ▸ l : List ty.T), t)
          | none => none) none
        | none => none
      | _ => none
    | some none => match absE hp K r (n + 1) ρ with
      | some t => some (([] : List ty.T), t)
      | none => none
    | none => none
  | .ro ty e :: r, n, ρ => match look ρ n with
    | some (some q) => match hp q with
      | .ro ty' l e' => match ty'.dec ty with
        | some ⟨h⟩ => match absE hp K r (n + 1) ρ with
          | some t => some ((h ▸ l : List ty.T), t)
          | none => none
        | none => none
      | _ => none
    | some none => match absE hp K r (n + 1) ρ with
      | some t => some (([] : List ty.T), t)
      | none => none
    | none => none
def conE {X : Type} : (es : List EP) → EPs X es → List Ent × X
  | [], x => ([], x)
  | .dead :: r, x => match conE r x with
    | (l, z) => (.dead :: l, z)
  | .box ps t :: r, x => match conC ps x with
    | (cs, y) => match conE r y with
      | (l, z) => (.box cs t :: l, z)
  | .row ty e :: r, (x : List ty.T × EPs X r) => match conE r x.2 with
    | (l, z) => (.row ty x.1 e :: l, z)
  | .ro ty e :: r, (x : List ty.T × EPs X r) => match conE r x.2 with
    | (l, z) => (.ro ty x.1 e :: l, z)
abbrev TP := List (Nat × Bool × List CP)
def TPs (X : Type) : TP → Type
  | [] => X
  | (_, _, ps) :: r => CPs (TPs X r) ps
def absT {X : Type} (tm : Nat → SV) (K : Rn → Option X) : (ts : TP) → Rn → Option (TPs X ts)
  | [], ρ => K ρ
  | (t, g, ps) :: r, ρ => match tm t with
    | .a g' cs => cnd (beqB g g') (absC (absT tm K r) ps cs ρ) none
    | _ => none
def conT {X : Type} : (ts : TP) → TPs X ts → List (Nat × SV) × X
  | [], x => ([], x)
  | (t, g, ps) :: r, x => match conC ps x with
    | (cs, y) => match conT r y with
      | (l, z) => ((t, .a g cs) :: l, z)
structure LP where
  ts : TP
  es : List EP
  ini : Nat
def wrP : Option EP → Bool
  | some (.box _ _) => true
  | some (.row _ _) => true
  | _ => false
def lvP : Option EP → Bool
  | some .dead => false
  | some _ => true
  | none => false
/-- No two names for what is written. -/
def finR (es : List EP) (ρ : Rn) : Bool :=
  ρ.all fun p => Nat.blt p.1 es.length && (!(wrP es[p.1]?) || ρ.all fun p' => Nat.beq p'.1 p.1 || (!(lvP es[p'.1]?) || (match p.2 with
    | some q => !(sameO (some q) p'.2)
    | none => true)))
def ini0 : Nat → Rn
  | 0 => []
  | n + 1 => (n, some n) :: ini0 n
def LP.T (L : LP) : Type := TPs (EPs Unit L.es) L.ts
def LP.abs (L : LP) (σ : St) : Option L.T :=
  absT σ.tm (fun ρ => absE σ.hp (fun ρ => cnd (finR L.es ρ) (some ()) none) L.es 0 ρ) L.ts (ini0 L.ini)
def tmL : List (Nat × SV) → Nat → SV
  | [], _ => .any
  | (t, v) :: r, n => cnd (Nat.beq t n) v (tmL r n)
def hpL (es : List Ent) (n : Nat) : Ent :=
  match es[n]? with
  | some e => e
  | none => .free
def LP.con (L : LP) (s : L.T) : St :=
  match conT (X := EPs Unit L.es) L.ts s with
  | (ts, y) => match conE (X := Unit) L.es y with
    | (es, _) => ⟨tmL ts, hpL es, es.length⟩
end Go.Sx
